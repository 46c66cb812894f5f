/-
A part of the proof: pure functions told of the program, and laws about them.
-/
import Derived.Test.YtpkhfddccaljiaaGreatDoorA09
import Derived.Lib.ItoaNum
import Derived.Lib.AtoiAll
import Derived.Lib.AtoiTie
import Derived.Lib.Split
import Derived.Lib.SplitLaws
import Derived.Lib.IndexMore
import Derived.Lib.CutLaws
set_option linter.all false
section
set_option maxRecDepth 100000
set_option linter.unusedVariables false
namespace Ab
open Go
set_option maxHeartbeats 4000000
attribute [local grind] inb dD eX eH aQ aF size_mk dL bL bV dB bW bN aW aZ bK bA
section
attribute [local grind] SimG evs
theorem dI (x : cK × (Int × Bool × Int × Int × List bB × List bI × List aN × List aO × List aP × List aU × List aR) × aR) (h0 : SimG x.2.1) (h1 : EvG x.2.2) (h2 : (evs x.2.1).length ≤ 1000000) : Tot (dJ x) (fun y => y.1.1 = x.1 ∧ SimG y.1.2 ∧ (evs y.1.2).length ≤ (evs x.2.1).length + 1) := by
 unfold dJ; try dsimp only
 refine bF (P := fun (z14 : (cK × Int × Bool × Int × Int × List bB × List bI × List aN × List aO × List aP × List aU × List aR) × aR × bD × Bool) => z14.1 = (x.1, x.2.1) ∧ z14.2.1 = x.2.2 ∧ (z14.2.2.2 = true → gV z14.2.2.1)) ?_ fun z14 hz => ?_
 ·refine dO (by first | rfl | simp only [dC]) ?_
  refine aC (aU7 _ (by grind)) fun r9 hr9 => ?_
  refine dO (by first | rfl | simp only [dC]) ?_
  refine aC (bA7 _ (by grind) (by grind)) fun r10 hr10 => ?_
  apply aA
  grind
 apply aB <;> intro hc
 ·refine aH ?_
  apply aA
  grind
 apply aA
 grind
end
theorem rF (x : cK × Int × Bool × Int × Int × List bB × List bI × List aN × List aO × List aP × List aU × List aR) (h0 : RdB x.1.1) (h1 : 0 ≤ x.1.2) (h2 : x.1.2 ≤ 100000000) : Tot (kY x) (fun y => y.1.1.1 = x.1.1 ∧ x.1.2 ≤ y.1.1.2 ∧ y.1.1.2 ≤ x.1.2 + 17 ∧ y.1.2 = x.2 ∧ y.2.length ≤ 4 ∧ 1 ≤ y.2.length) := by
 unfold kY; try dsimp only
 refine aC (aM _ (by grind) (by grind) (by grind) (by grind)) fun r1 hr1 => ?_
 refine aX (fun z3 => z3.2.2 ≤ aG (1 + r1.2) ∧ z3.1.1.1 = x.1.1 ∧ z3.1.2 = x.2 ∧ x.1.2 + 1 ≤ z3.1.1.2 ∧ z3.1.1.2 ≤ x.1.2 + 1 + 4 * (4 - z3.2.2) ∧ z3.2.1.length + z3.2.2 = r1.2 + 1 ∧ 0 ≤ z3.2.2) (fun z3 => (z3.2.2).toNat) fun L2 z3 hz2 hL2 => ?_
 apply aB <;> intro hc
 ·refine bF (P := fun (z33 : (cK × Int × Bool × Int × Int × List bB × List bI × List aN × List aO × List aP × List aU × List aR) × List aI) => z33.1.1.1 = x.1.1 ∧ z3.1.1.2 ≤ z33.1.1.2 ∧ z33.1.1.2 ≤ z3.1.1.2 + 4 ∧ z33.1.2 = x.2 ∧ z33.2.length = z3.2.1.length + 1) ?_ fun z33 hz => ?_
  ·refine bF (P := fun (z28 : (cK × Int × Bool × Int × Int × List bB × List bI × List aN × List aO × List aP × List aU × List aR) × List aI × aI) => z28.1.1.1 = x.1.1 ∧ z28.1.1.2 = z3.1.1.2 + 3 ∧ z28.1.2 = x.2 ∧ z28.2.1 = z3.2.1) ?_ fun z28 hz => ?_
   ·refine dO (by first | rfl | simp only [dC]) ?_
    refine aC (aM _ (by grind) (by grind) (by grind) (by grind)) fun r4 hr4 => ?_
    refine dO (by first | rfl | simp only [dC]) ?_
    refine aC (aM _ (by grind) (by grind) (by grind) (by grind)) fun r5 hr5 => ?_
    refine dO (by first | rfl | simp only [dC]) ?_
    refine dO (by first | rfl | simp only [dC]) ?_
    refine aC (aM _ (by grind) (by grind) (by grind) (by grind)) fun r6 hr6 => ?_
    refine aH ?_
    apply aA
    grind
   refine bF (P := fun (z32 : (cK × Int × Bool × Int × Int × List bB × List bI × List aN × List aO × List aP × List aU × List aR) × List aI × aI) => z32.1.1.1 = x.1.1 ∧ z3.1.1.2 + 3 ≤ z32.1.1.2 ∧ z32.1.1.2 ≤ z3.1.1.2 + 4 ∧ z32.1.2 = x.2 ∧ z32.2.1 = z3.2.1) ?_ fun z32 hz => ?_
   ·apply aB <;> intro hc
    ·refine aC (aM _ (by grind) (by grind) (by grind) (by grind)) fun r29 hr29 => ?_
     apply aA
     grind
    apply aB <;> intro hc
    ·refine aC (aM _ (by grind) (by grind) (by grind) (by grind)) fun r30 hr30 => ?_
     apply aA
     grind
    apply aB <;> intro hc
    ·refine aC (aM _ (by grind) (by grind) (by grind) (by grind)) fun r31 hr31 => ?_
     apply aA
     grind
    apply aA
    grind
   refine aH ?_
   apply aA
   grind
  apply hL2 <;> grind
 apply aA
 grind
theorem aDa (x : cK × Int × Bool × Int × Int × List bB × List bI × List aN × List aO × List aP × List aU × List aR) (h0 : RdB x.1.1) (h1 : 0 ≤ x.1.2) (h2 : x.1.2 ≤ 90000000) : Tot (oP x) (fun y => y.1.1.1 = x.1.1 ∧ x.1.2 ≤ y.1.1.2 ∧ y.1.1.2 ≤ x.1.2 + 20 ∧ y.1.2 = x.2 ∧ y.2.2.2.2.1.size ≤ 300) := by
 unfold oP; try dsimp only
 refine aC (aM _ (by grind) (by grind) (by grind) (by grind)) fun r1 hr1 => ?_
 apply aB <;> intro hc
 ·refine aC (aM _ (by grind) (by grind) (by grind) (by grind)) fun r2 hr2 => ?_
  refine aC (aM _ (by grind) (by grind) (by grind) (by grind)) fun r3 hr3 => ?_
  apply aA
  grind
 apply aB <;> intro hc
 ·refine aC (aM _ (by grind) (by grind) (by grind) (by grind)) fun r4 hr4 => ?_
  refine aC (aM _ (by grind) (by grind) (by grind) (by grind)) fun r5 hr5 => ?_
  apply aA
  grind
 apply aB <;> intro hc
 ·refine aC (aM _ (by grind) (by grind) (by grind) (by grind)) fun r6 hr6 => ?_
  apply aB <;> intro hc
  ·apply aA
   grind
  refine aC (rF _ (by grind) (by grind) (by grind)) fun r7 hr7 => ?_
  refine aC (sO _ (by grind)) fun r8 hr8 => ?_
  apply aA
  grind
 refine aC (rF _ (by grind) (by grind) (by grind)) fun r9 hr9 => ?_
 refine aC (sO _ (by grind)) fun r10 hr10 => ?_
 apply aA
 grind
section
attribute [local grind] EvG SimG.calls
theorem kV (x : cK × (Int × Bool × Int × Int × List bB × List bI × List aN × List aO × List aP × List aU × List aR) × Int) (h0 : RdB x.1.1) (h1 : 0 ≤ x.1.2) (h2 : x.1.2 ≤ 10000000) (h3 : SimG x.2.1) (h4 : (evs x.2.1).length ≤ 100000) : Tot (iO x) (fun y => y.1.1 = x.1.1 ∧ x.1.2 ≤ y.1.2 ∧ y.1.2 ≤ x.1.2 + 20 ∧ SimG y.2 ∧ (evs y.2).length ≤ (evs x.2.1).length + 2) := by
 unfold iO; try dsimp only
 refine aC (aBk _ (by grind [aF, size_mk, SimG.calls])) fun r1 hr1 => ?_
 apply aB <;> intro hc
 ·refine aC (aDa _ (by grind) (by grind) (by grind)) fun r2 hr2 => ?_
  refine aC (dI _ (by grind) (by grind) (by grind)) fun r3 hr3 => ?_
  refine aC (dI _ (by grind) (by grind) (by grind)) fun r4 hr4 => ?_
  apply aA
  grind
 refine aC (dI _ (by grind) (by grind) (by grind)) fun r5 hr5 => ?_
 apply aA
 grind
end
section
attribute [local grind] EvG SimG.radio
theorem eF (x : cK × (Int × Bool × Int × Int × List bB × List bI × List aN × List aO × List aP × List aU × List aR) × Int × Int) (h0 : RdB x.1.1) (h1 : 0 ≤ x.1.2) (h2 : x.1.2 ≤ 10000000) (h3 : SimG x.2.1) (h4 : (evs x.2.1).length ≤ 100000) (h5 : 0 ≤ x.2.2.1) (h6 : x.2.2.1 ≤ 100) (h7 : x.2.2.2 ≤ 1000) : Tot (dY x) (fun y => y.1.1 = x.1.1 ∧ x.1.2 ≤ y.1.2 ∧ y.1.2 ≤ x.1.2 + 300 ∧ SimG y.2 ∧ (evs y.2).length ≤ (evs x.2.1).length + 100) := by
 unfold dY; try dsimp only
 refine aX (fun z2 => z2.2 ≤ x.2.2.1 ∧ 0 ≤ z2.2 ∧ z2.1.1.1 = x.1.1 ∧ x.1.2 ≤ z2.1.1.2 ∧ z2.1.1.2 ≤ x.1.2 + 3 * z2.2 ∧ SimG z2.1.2 ∧ (evs z2.1.2).length ≤ (evs x.2.1).length + z2.2) (fun z2 => (x.2.2.1 - z2.2).toNat) fun L1 z2 hz1 hL1 => ?_
 apply aB <;> intro hc
 ·apply aB <;> intro hc
  ·refine bF (P := fun (z7 : (cK × Int × Bool × Int × Int × List bB × List bI × List aN × List aO × List aP × List aU × List aR) × aR) => z7.1.1.1 = z2.1.1.1 ∧ z2.1.1.2 ≤ z7.1.1.2 ∧ z7.1.1.2 ≤ z2.1.1.2 + 3 ∧ z7.1.2 = z2.1.2 ∧ EvG z7.2) ?_ fun z7 hz => ?_
   ·apply aB <;> intro hc
    ·refine aC (aM _ (by grind) (by grind) (by grind) (by grind)) fun r4 hr4 => ?_
     apply aB <;> intro hc
     ·refine aC (aM _ (by grind) (by grind) (by grind) (by grind)) fun r5 hr5 => ?_
      apply aB <;> intro hc
      ·apply aA
       grind
      apply aB <;> intro hc
      ·apply aA
       grind
      refine aC (aM _ (by grind [aF, size_mk, SimG.radio]) (by grind [aF, size_mk, SimG.radio]) (by grind [aF, size_mk, SimG.radio]) (by grind [aF, size_mk, SimG.radio])) fun r6 hr6 => ?_
      apply aA
      grind
     apply aA
     grind
    apply aA
    grind
   refine aC (dI _ (by grind) (by grind) (by grind)) fun r8 hr8 => ?_
   apply hL1 <;> grind
  apply aA
  grind
 apply aA
 grind
end
section
attribute [local grind] EvG SimG.radio
theorem uP (x : cK × (Int × Bool × Int × Int × List bB × List bI × List aN × List aO × List aP × List aU × List aR) × Int) (h0 : RdB x.1.1) (h1 : 0 ≤ x.1.2) (h2 : x.1.2 ≤ 10000000) (h3 : SimG x.2.1) (h4 : (evs x.2.1).length ≤ 100000) (h5 : 0 ≤ x.2.2) (h6 : x.2.2 ≤ 100) : Tot (mJ x) (fun y => y.1.1 = x.1.1 ∧ x.1.2 ≤ y.1.2 ∧ y.1.2 ≤ x.1.2 + 100 ∧ SimG y.2 ∧ (evs y.2).length ≤ (evs x.2.1).length + 100) := by
 unfold mJ; try dsimp only
 refine aX (fun z2 => z2.2 ≤ x.2.2 ∧ 0 ≤ z2.2 ∧ z2.1.1.1 = x.1.1 ∧ x.1.2 ≤ z2.1.1.2 ∧ z2.1.1.2 ≤ x.1.2 + z2.2 ∧ SimG z2.1.2 ∧ (evs z2.1.2).length ≤ (evs x.2.1).length + z2.2) (fun z2 => (x.2.2 - z2.2).toNat) fun L1 z2 hz1 hL1 => ?_
 apply aB <;> intro hc
 ·apply aB <;> intro hc
  ·refine aC (aM _ (by grind [aF, size_mk, SimG.radio]) (by grind [aF, size_mk, SimG.radio]) (by grind [aF, size_mk, SimG.radio]) (by grind [aF, size_mk, SimG.radio])) fun r4 hr4 => ?_
   refine aC (dI _ (by grind) (by grind) (by grind)) fun r5 hr5 => ?_
   apply hL1 <;> grind
  apply aA
  grind
 apply aA
 grind
end
theorem uQ (x : cK × Int × Bool × Int × Int × List bB × List bI × List aN × List aO × List aP × List aU × List aR) (h0 : RdB x.1.1) (h1 : 0 ≤ x.1.2) (h2 : x.1.2 ≤ 5000000) (h3 : SimG x.2) (h4 : (evs x.2).length ≤ 50000) : Tot (mK x) (fun y => y.1.1 = x.1.1 ∧ x.1.2 ≤ y.1.2 ∧ y.1.2 ≤ x.1.2 + 200 ∧ SimG y.2 ∧ (evs y.2).length ≤ (evs x.2).length + 110) := by
 unfold mK; try dsimp only
 refine aX (fun z2 => z2.2 ≤ 3 ∧ 0 ≤ z2.2 ∧ z2.1.1.1 = x.1.1 ∧ x.1.2 ≤ z2.1.1.2 ∧ z2.1.1.2 ≤ x.1.2 + 20 * z2.2 ∧ SimG z2.1.2 ∧ (evs z2.1.2).length ≤ (evs x.2).length + 2 * z2.2) (fun z2 => (3 - z2.2).toNat) fun L1 z2 hz1 hL1 => ?_
 apply aB <;> intro hc
 ·refine aC (kV _ (by grind) (by grind) (by grind) (by grind) (by grind)) fun r3 hr3 => ?_
  apply hL1 <;> grind
 refine aC (aM _ (by grind) (by grind) (by grind) (by grind)) fun r4 hr4 => ?_
 refine aC (uP _ (by grind) (by grind) (by grind) (by grind) (by grind) (by grind) (by grind)) fun r5 hr5 => ?_
 apply aA
 grind
theorem fJ (x : cK × Int × Bool × Int × Int × List bB × List bI × List aN × List aO × List aP × List aU × List aR) (h0 : RdB x.1.1) (h1 : 0 ≤ x.1.2) (h2 : x.1.2 ≤ 100000000) : Tot (eT x) (fun y => y.1.1.1 = x.1.1 ∧ x.1.2 ≤ y.1.1.2 ∧ y.1.1.2 ≤ x.1.2 + 2 ∧ y.1.2 = x.2) := by
 unfold eT; try dsimp only
 refine aC (aM _ (by grind) (by grind) (by grind) (by grind)) fun r1 hr1 => ?_
 apply aB <;> intro hc
 ·apply aA
  grind
 refine aC (aM _ (by grind) (by grind) (by grind) (by grind)) fun r2 hr2 => ?_
 apply aA
 grind
section
attribute [local grind] EvG
theorem aLz (x : cK × Int × Bool × Int × Int × List bB × List bI × List aN × List aO × List aP × List aU × List aR) (h0 : RdB x.1.1) (h1 : 0 ≤ x.1.2) (h2 : x.1.2 ≤ 5000000) (h3 : SimG x.2) (h4 : (evs x.2).length ≤ 50000) : Tot (sP x) (fun y => y.1.1 = x.1.1 ∧ x.1.2 ≤ y.1.2 ∧ y.1.2 ≤ x.1.2 + 1000 ∧ SimG y.2 ∧ (evs y.2).length ≤ (evs x.2).length + 400) := by
 unfold sP; try dsimp only
 refine aC (aM _ (by grind) (by grind) (by grind) (by grind)) fun r1 hr1 => ?_
 refine aC (kV _ (by grind) (by grind) (by grind) (by grind) (by grind)) fun r2 hr2 => ?_
 refine aC (aM _ (by grind) (by grind) (by grind) (by grind)) fun r3 hr3 => ?_
 refine aC (eF _ (by grind) (by grind) (by grind) (by grind) (by grind) (by grind) (by grind) (by grind)) fun r4 hr4 => ?_
 refine aC (fJ _ (by grind) (by grind) (by grind)) fun r5 hr5 => ?_
 refine aC (aM _ (by grind) (by grind) (by grind) (by grind)) fun r6 hr6 => ?_
 refine aC (dI _ (by grind) (by grind) (by grind)) fun r7 hr7 => ?_
 refine aC (aM _ (by grind) (by grind) (by grind) (by grind)) fun r8 hr8 => ?_
 refine aC (uP _ (by grind) (by grind) (by grind) (by grind) (by grind) (by grind) (by grind)) fun r9 hr9 => ?_
 refine aC (aM _ (by grind) (by grind) (by grind) (by grind)) fun r10 hr10 => ?_
 apply aB <;> intro hc
 ·refine aC (dI _ (by grind) (by grind) (by grind)) fun r11 hr11 => ?_
  refine aC (fJ _ (by grind) (by grind) (by grind)) fun r12 hr12 => ?_
  refine aC (dI _ (by grind) (by grind) (by grind)) fun r13 hr13 => ?_
  refine aC (aM _ (by grind) (by grind) (by grind) (by grind)) fun r14 hr14 => ?_
  refine aC (eF _ (by grind) (by grind) (by grind) (by grind) (by grind) (by grind) (by grind) (by grind)) fun r15 hr15 => ?_
  apply aA
  grind
 refine aC (fJ _ (by grind) (by grind) (by grind)) fun r16 hr16 => ?_
 refine aC (dI _ (by grind) (by grind) (by grind)) fun r17 hr17 => ?_
 refine aC (aM _ (by grind) (by grind) (by grind) (by grind)) fun r18 hr18 => ?_
 refine aC (eF _ (by grind) (by grind) (by grind) (by grind) (by grind) (by grind) (by grind) (by grind)) fun r19 hr19 => ?_
 apply aA
 grind
end
section
attribute [local grind] EvG SimG.radio Int.tmod_eq_emod_of_nonneg
theorem aJv (x : cK × Int × Bool × Int × Int × List bB × List bI × List aN × List aO × List aP × List aU × List aR) (h0 : RdB x.1.1) (h1 : 0 ≤ x.1.2) (h2 : x.1.2 ≤ 5000000) (h3 : SimG x.2) (h4 : (evs x.2).length ≤ 50000) : Tot (qN x) (fun y => y.1.1 = x.1.1 ∧ x.1.2 ≤ y.1.2 ∧ y.1.2 ≤ x.1.2 + 1000 ∧ SimG y.2 ∧ (evs y.2).length ≤ (evs x.2).length + 500) := by
 unfold qN; try dsimp only
 refine aC (eF _ (by grind) (by grind) (by grind) (by grind) (by grind) (by grind) (by grind) (by grind)) fun r1 hr1 => ?_
 refine aC (aM _ (by grind) (by grind) (by grind) (by grind)) fun r2 hr2 => ?_
 refine aC (kV _ (by grind) (by grind) (by grind) (by grind) (by grind)) fun r3 hr3 => ?_
 refine aC (eF _ (by grind) (by grind) (by grind) (by grind) (by grind) (by grind) (by grind) (by grind)) fun r4 hr4 => ?_
 refine eZ (fun z6 => z6.2 ≤ (r4.2.2.2.2.2.2.2.2.2.1.length : Int) ∧ 0 ≤ z6.2 ∧ z6.1.1 = r4.1 ∧ SimG z6.1.2 ∧ (evs z6.1.2).length ≤ (evs r4.2).length + z6.2) (fun z6 => ((r4.2.2.2.2.2.2.2.2.2.1.length : Int) - z6.2).toNat) (by grind [aF, size_mk, SimG.radio, Int.tmod_eq_emod_of_nonneg]) (by grind [aF, size_mk, SimG.radio, Int.tmod_eq_emod_of_nonneg]) fun L5 z6 hz5 hL5 => ?_
 apply aB <;> intro hc
 ·refine aC (dI _ (by grind [aF, size_mk, SimG.radio, Int.tmod_eq_emod_of_nonneg]) (by grind [aF, size_mk, SimG.radio, Int.tmod_eq_emod_of_nonneg]) (by grind [aF, size_mk, SimG.radio, Int.tmod_eq_emod_of_nonneg])) fun r8 hr8 => ?_
  apply hL5 <;> grind [aF, size_mk, SimG.radio, Int.tmod_eq_emod_of_nonneg]
 refine bF (P := fun (z14 : cK × Int × Bool × Int × Int × List bB × List bI × List aN × List aO × List aP × List aU × List aR) => z14.1.1 = z6.1.1.1 ∧ z6.1.1.2 ≤ z14.1.2 ∧ z14.1.2 ≤ z6.1.1.2 + 4 ∧ SimG z14.2 ∧ (evs z14.2).length ≤ (evs z6.1.2).length + 4) ?_ fun z14 hz => ?_
 ·refine aX (fun z10 => z10.1.1 = x.1.1 ∧ 0 ≤ z10.2.2 ∧ z10.2.2 ≤ 3 ∧ z6.1.1.2 ≤ z10.1.2 ∧ z10.1.2 ≤ z6.1.1.2 + z10.2.2 ∧ SimG z10.2.1 ∧ (evs z10.2.1).length ≤ (evs z6.1.2).length + z10.2.2) (fun z10 => (4 - z10.2.2).toNat) fun L9 z10 hz9 hL9 => ?_
  refine aC (aM _ (by grind) (by grind) (by grind) (by grind)) fun r11 hr11 => ?_
  apply aB <;> intro hc
  ·apply aB <;> intro hc
   ·refine aC (dI _ (by grind [aF, size_mk, SimG.radio, Int.tmod_eq_emod_of_nonneg]) (by grind [aF, size_mk, SimG.radio, Int.tmod_eq_emod_of_nonneg]) (by grind [aF, size_mk, SimG.radio, Int.tmod_eq_emod_of_nonneg])) fun r13 hr13 => ?_
    apply hL9 <;> grind
   apply aA
   grind
  apply aA
  grind
 refine aC (aM _ (by grind) (by grind) (by grind) (by grind)) fun r15 hr15 => ?_
 refine bF (P := fun (z20 : cK × Int × Bool × Int × Int × List bB × List bI × List aN × List aO × List aP × List aU × List aR) => z20.1.1 = z14.1.1 ∧ z14.1.2 ≤ z20.1.2 ∧ z20.1.2 ≤ z14.1.2 + 3 ∧ SimG z20.2 ∧ (evs z20.2).length ≤ (evs z14.2).length + 2) ?_ fun z20 hz => ?_
 ·refine aC (aM _ (by grind) (by grind) (by grind) (by grind)) fun r16 hr16 => ?_
  apply aB <;> intro hc
  ·refine aC (aM _ (by grind) (by grind) (by grind) (by grind)) fun r17 hr17 => ?_
   refine aC (dI _ (by grind [aF, size_mk, SimG.radio, Int.tmod_eq_emod_of_nonneg]) (by grind [aF, size_mk, SimG.radio, Int.tmod_eq_emod_of_nonneg]) (by grind [aF, size_mk, SimG.radio, Int.tmod_eq_emod_of_nonneg])) fun r18 hr18 => ?_
   refine aC (dI _ (by grind [aF, size_mk, SimG.radio, Int.tmod_eq_emod_of_nonneg]) (by grind [aF, size_mk, SimG.radio, Int.tmod_eq_emod_of_nonneg]) (by grind [aF, size_mk, SimG.radio, Int.tmod_eq_emod_of_nonneg])) fun r19 hr19 => ?_
   apply aA
   grind
  apply aA
  grind
 refine aH ?_
 refine aC (kV _ (by grind [aF, size_mk, SimG.radio, Int.tmod_eq_emod_of_nonneg]) (by grind [aF, size_mk, SimG.radio, Int.tmod_eq_emod_of_nonneg]) (by grind [aF, size_mk, SimG.radio, Int.tmod_eq_emod_of_nonneg]) (by grind [aF, size_mk, SimG.radio, Int.tmod_eq_emod_of_nonneg]) (by grind [aF, size_mk, SimG.radio, Int.tmod_eq_emod_of_nonneg])) fun r21 hr21 => ?_
 refine aX (fun z23 => z23.2 ≤ 20 ∧ 0 ≤ z23.2 ∧ z23.1.1 = r21.1 ∧ SimG z23.1.2 ∧ (evs z23.1.2).length ≤ (evs r21.2).length + z23.2) (fun z23 => (20 - z23.2).toNat) fun L22 z23 hz22 hL22 => ?_
 apply aB <;> intro hc
 ·apply aB <;> intro hc
  ·refine aC (dI _ (by grind [aF, size_mk, SimG.radio, Int.tmod_eq_emod_of_nonneg]) (by grind [aF, size_mk, SimG.radio, Int.tmod_eq_emod_of_nonneg]) (by grind [aF, size_mk, SimG.radio, Int.tmod_eq_emod_of_nonneg])) fun r25 hr25 => ?_
   apply hL22 <;> grind
  refine aC (eF _ (by grind [aF, size_mk, SimG.radio, Int.tmod_eq_emod_of_nonneg]) (by grind [aF, size_mk, SimG.radio, Int.tmod_eq_emod_of_nonneg]) (by grind [aF, size_mk, SimG.radio, Int.tmod_eq_emod_of_nonneg]) (by grind [aF, size_mk, SimG.radio, Int.tmod_eq_emod_of_nonneg]) (by grind [aF, size_mk, SimG.radio, Int.tmod_eq_emod_of_nonneg]) (by grind [aF, size_mk, SimG.radio, Int.tmod_eq_emod_of_nonneg]) (by grind [aF, size_mk, SimG.radio, Int.tmod_eq_emod_of_nonneg]) (by grind [aF, size_mk, SimG.radio, Int.tmod_eq_emod_of_nonneg])) fun r26 hr26 => ?_
  apply aA
  grind [aF, size_mk, SimG.radio, Int.tmod_eq_emod_of_nonneg]
 refine aC (eF _ (by grind [aF, size_mk, SimG.radio, Int.tmod_eq_emod_of_nonneg]) (by grind [aF, size_mk, SimG.radio, Int.tmod_eq_emod_of_nonneg]) (by grind [aF, size_mk, SimG.radio, Int.tmod_eq_emod_of_nonneg]) (by grind [aF, size_mk, SimG.radio, Int.tmod_eq_emod_of_nonneg]) (by grind [aF, size_mk, SimG.radio, Int.tmod_eq_emod_of_nonneg]) (by grind [aF, size_mk, SimG.radio, Int.tmod_eq_emod_of_nonneg]) (by grind [aF, size_mk, SimG.radio, Int.tmod_eq_emod_of_nonneg]) (by grind [aF, size_mk, SimG.radio, Int.tmod_eq_emod_of_nonneg])) fun r27 hr27 => ?_
 apply aA
 grind [aF, size_mk, SimG.radio, Int.tmod_eq_emod_of_nonneg]
end
section
attribute [local grind] EvG
theorem aJu (x : cK × (Int × Bool × Int × Int × List bB × List bI × List aN × List aO × List aP × List aU × List aR) × Int) (h0 : RdB x.1.1) (h1 : 0 ≤ x.1.2) (h2 : x.1.2 ≤ 4000000) (h3 : SimG x.2.1) (h4 : (evs x.2.1).length ≤ 40000) (h5 : x.2.2 ≤ 1000) : Tot (qM x) (fun y => y.1.1 = x.1.1 ∧ x.1.2 ≤ y.1.2 ∧ y.1.2 ≤ x.1.2 + 1100 ∧ SimG y.2 ∧ (evs y.2).length ≤ (evs x.2.1).length + 600) := by
 unfold qM; try dsimp only
 refine aC (aM _ (by grind) (by grind) (by grind) (by grind)) fun r26 hr26 => ?_
 refine bF (P := fun (z27 : (cK × Int × Bool × Int × Int × List bB × List bI × List aN × List aO × List aP × List aU × List aR) × Bool) => z27.1.1 = r26.1 ∧ z27.1.2 = x.2.1) ?_ fun z27 hz => ?_
 ·apply aB <;> intro hc
  ·apply aA
   grind
  apply aB <;> intro hc
  ·apply aA
   grind
  apply aB <;> intro hc
  ·apply aA
   grind
  apply aA
  grind
 apply aB <;> intro hc
 ·refine aC (aM _ (by grind) (by grind) (by grind) (by grind)) fun r28 hr28 => ?_
  refine aC (kV _ (by grind) (by grind) (by grind) (by grind) (by grind)) fun r29 hr29 => ?_
  refine aC (aM _ (by grind) (by grind) (by grind) (by grind)) fun r30 hr30 => ?_
  refine aC (eF _ (by grind) (by grind) (by grind) (by grind) (by grind) (by grind) (by grind) (by grind)) fun r31 hr31 => ?_
  apply aA
  grind
 apply aB <;> intro hc
 ·refine aC (uQ _ (by grind) (by grind) (by grind) (by grind) (by grind)) fun r32 hr32 => ?_
  apply aA
  grind
 apply aB <;> intro hc
 ·refine aC (uQ _ (by grind) (by grind) (by grind) (by grind) (by grind)) fun r33 hr33 => ?_
  apply aA
  grind
 apply aB <;> intro hc
 ·refine aC (uQ _ (by grind) (by grind) (by grind) (by grind) (by grind)) fun r34 hr34 => ?_
  apply aA
  grind
 apply aB <;> intro hc
 ·refine aC (fJ _ (by grind) (by grind) (by grind)) fun r35 hr35 => ?_
  refine aC (dI _ (by grind) (by grind) (by grind)) fun r36 hr36 => ?_
  refine aC (aM _ (by grind) (by grind) (by grind) (by grind)) fun r37 hr37 => ?_
  refine aC (eF _ (by grind) (by grind) (by grind) (by grind) (by grind) (by grind) (by grind) (by grind)) fun r38 hr38 => ?_
  apply aA
  grind
 apply aB <;> intro hc
 ·refine aC (fJ _ (by grind) (by grind) (by grind)) fun r39 hr39 => ?_
  refine aC (dI _ (by grind) (by grind) (by grind)) fun r40 hr40 => ?_
  refine aC (aM _ (by grind) (by grind) (by grind) (by grind)) fun r41 hr41 => ?_
  refine aC (eF _ (by grind) (by grind) (by grind) (by grind) (by grind) (by grind) (by grind) (by grind)) fun r42 hr42 => ?_
  apply aA
  grind
 apply aB <;> intro hc
 ·refine aC (fJ _ (by grind) (by grind) (by grind)) fun r43 hr43 => ?_
  refine aC (dI _ (by grind) (by grind) (by grind)) fun r44 hr44 => ?_
  refine aC (aM _ (by grind) (by grind) (by grind) (by grind)) fun r45 hr45 => ?_
  refine aC (eF _ (by grind) (by grind) (by grind) (by grind) (by grind) (by grind) (by grind) (by grind)) fun r46 hr46 => ?_
  apply aA
  grind
 apply aB <;> intro hc
 ·refine aC (aM _ (by grind) (by grind) (by grind) (by grind)) fun r47 hr47 => ?_
  refine aC (eF _ (by grind) (by grind) (by grind) (by grind) (by grind) (by grind) (by grind) (by grind)) fun r48 hr48 => ?_
  apply aA
  grind
 apply aB <;> intro hc
 ·refine aC (aM _ (by grind) (by grind) (by grind) (by grind)) fun r49 hr49 => ?_
  refine aC (eF _ (by grind) (by grind) (by grind) (by grind) (by grind) (by grind) (by grind) (by grind)) fun r50 hr50 => ?_
  apply aA
  grind
 apply aB <;> intro hc
 ·refine dO (by first | rfl | simp only [dC]) ?_
  refine aC (fJ _ (by grind) (by grind) (by grind)) fun r51 hr51 => ?_
  refine aC (aM _ (by grind) (by grind) (by grind) (by grind)) fun r52 hr52 => ?_
  refine aC (dI _ (by grind) (by grind) (by grind)) fun r53 hr53 => ?_
  apply aA
  grind
 apply aB <;> intro hc
 ·refine aC (fJ _ (by grind) (by grind) (by grind)) fun r57 hr57 => ?_
  refine aC (dI _ (by grind) (by grind) (by grind)) fun r58 hr58 => ?_
  apply aA
  grind
 apply aB <;> intro hc
 ·refine aC (fJ _ (by grind) (by grind) (by grind)) fun r59 hr59 => ?_
  refine aC (dI _ (by grind) (by grind) (by grind)) fun r60 hr60 => ?_
  apply aA
  grind
 apply aB <;> intro hc
 ·refine aC (aM _ (by grind) (by grind) (by grind) (by grind)) fun r61 hr61 => ?_
  refine aC (dI _ (by grind) (by grind) (by grind)) fun r62 hr62 => ?_
  apply aA
  grind
 apply aB <;> intro hc
 ·refine aC (aM _ (by grind) (by grind) (by grind) (by grind)) fun r63 hr63 => ?_
  apply aB <;> intro hc
  ·refine aC (aM _ (by grind) (by grind) (by grind) (by grind)) fun r64 hr64 => ?_
   refine aC (dI _ (by grind) (by grind) (by grind)) fun r65 hr65 => ?_
   apply aA
   grind
  apply aA
  grind
 apply aB <;> intro hc
 ·refine aC (aLz _ (by grind) (by grind) (by grind) (by grind) (by grind)) fun r66 hr66 => ?_
  apply aA
  grind
 apply aB <;> intro hc
 ·refine aC (aJv _ (by grind) (by grind) (by grind) (by grind) (by grind)) fun r67 hr67 => ?_
  apply aA
  grind
 refine aC (aM _ (by grind) (by grind) (by grind) (by grind)) fun r68 hr68 => ?_
 refine aC (uP _ (by grind) (by grind) (by grind) (by grind) (by grind) (by grind) (by grind)) fun r69 hr69 => ?_
 apply aA
 grind
end
theorem aPz (x : Unit) : Tot (zF x) (fun y => GateG y) := by
 unfold zF; try dsimp only
 apply aA
 grind [inb, eH, aF, size_mk, GateG]
section
attribute [local grind] gV GateG
theorem aGi (x : Unit) : Tot (uA x) (fun y => gV y) := by
 unfold uA; try dsimp only
 refine aC (aPz _) fun r1 hr1 => ?_
 refine aX (fun z3 => z3.1.1 = 0 ∧ z3.1.2.1 = false ∧ z3.1.2.2.1 = 0 ∧ z3.1.2.2.2.1 = 0 ∧ z3.1.2.2.2.2.1 = [] ∧ z3.1.2.2.2.2.2.1 = [] ∧ z3.1.2.2.2.2.2.2.1 = [] ∧ z3.1.2.2.2.2.2.2.2.1 = [] ∧ z3.1.2.2.2.2.2.2.2.2.1 = [] ∧ z3.1.2.2.2.2.2.2.2.2.2 = [] ∧ z3.2.1.1 = 0 ∧ z3.2.1.2.1 = r1.1 ∧ z3.2.1.2.2.1 = r1.2.1 ∧ z3.2.1.2.2.2.1 = r1.2.2.1 ∧ z3.2.1.2.2.2.2.1 = r1.2.2.2.1 ∧ z3.2.1.2.2.2.2.2.1 = r1.2.2.2.2.1 ∧ z3.2.1.2.2.2.2.2.2.1 = r1.2.2.2.2.2 ∧ z3.2.1.2.2.2.2.2.2.2.2.1 = [] ∧ z3.2.1.2.2.2.2.2.2.2.2.2 = [] ∧ z3.2.2 ≤ 3 ∧ 0 ≤ z3.2.2 ∧ z3.2.1.2.2.2.2.2.2.2.1.length = z3.2.2 ∧ (∀ h ∈ z3.2.1.2.2.2.2.2.2.2.1, HouseB h)) (fun z3 => (3 - z3.2.2).toNat) fun L2 z3 hz2 hL2 => ?_
 apply aB <;> intro hc
 ·refine aC (aNm _) fun r4 hr4 => ?_
  refine aH ?_
  apply hL2 <;> grind
 apply aA
 grind
end
section
attribute [local grind] SimG evs RdB iX List.mem_cons
theorem aU5 (x : cK × Int) (h0 : RdB x.1.1) (h1 : 0 ≤ x.1.2) (h2 : x.1.2 ≤ 1000000) (h3 : x.2 ≤ 50) : Tot (aFh x) (fun y => y.1.1 = x.1.1 ∧ x.1.2 ≤ y.1.2 ∧ y.1.2 ≤ x.1.2 + 60000 ∧ SimG y.2 ∧ (evs y.2).length ≤ 30000) := by
 unfold aFh; try dsimp only
 refine aC (aGi _) fun r1 hr1 => ?_
 refine aC (aM _ (by grind) (by grind) (by grind) (by grind)) fun r2 hr2 => ?_
 refine aH ?_
 refine aC (aM _ (by grind) (by grind) (by grind) (by grind)) fun r3 hr3 => ?_
 refine aX (fun z5 => z5.2.2 ≤ r3.2 ∧ z5.1.1 = x.1.1 ∧ 0 ≤ z5.2.2 ∧ z5.2.2 ≤ 50 ∧ x.1.2 ≤ z5.1.2 ∧ z5.1.2 ≤ x.1.2 + 2 + 1100 * (50 - z5.2.2) ∧ SimG z5.2.1 ∧ (evs z5.2.1).length ≤ 600 * (50 - z5.2.2)) (fun z5 => (z5.2.2).toNat) fun L4 z5 hz4 hL4 => ?_
 apply aB <;> intro hc
 ·refine aC (aJu _ (by grind [aF, size_mk, dB, iX]) (by grind [aF, size_mk, dB, iX]) (by grind [aF, size_mk, dB, iX]) (by grind [aF, size_mk, dB, iX]) (by grind [aF, size_mk, dB, iX]) (by grind [aF, size_mk, dB, iX])) fun r6 hr6 => ?_
  apply hL4 <;> grind
 apply aA
 grind
end
section
attribute [local grind] RecordG bT
theorem aS0 (x : List bB) (h0 : x.length ≤ 1000000) (h1 : ∀ r ∈ x, RecordG r) : Tot (aBw x) (fun y => y.length = x.length ∧ ∀ c ∈ y, c.2.2.2.1.size ≤ 80) := by
 unfold aBw; try dsimp only
 refine aX (fun z2 => z2.2 ≤ (x.length : Int) ∧ 0 ≤ z2.2 ∧ z2.1.length = z2.2 ∧ (∀ c ∈ z2.1, c.2.2.2.1.size ≤ 80)) (fun z2 => ((x.length : Int) - z2.2).toNat) fun L1 z2 hz1 hL1 => ?_
 apply aB <;> intro hc
 ·iterate 2 refine aH ?_
  apply hL1 <;> grind [aF, size_mk, bT]
 apply aA
 grind
end
section
attribute [local grind] GateG.w GateG
theorem aP0 (x : aT) (h0 : GateG x) : Tot (zG x) (fun y => y.length ≤ 60 ∧ ∀ c ∈ y, c.2.2.2.1.size ≤ 80) := by
 unfold zG; try dsimp only
 refine aC (rJ _ (by grind)) fun r1 hr1 => ?_
 apply aB <;> intro hc
 ·apply aA
  grind
 refine aC (aS0 _ (by grind) (by grind)) fun r2 hr2 => ?_
 apply aA
 grind
end
theorem aD4 (x : Unit) : Tot (lW x) (fun y => BooksS y ∧ y.2.2.2.2 = []) := by
 unfold lW; try dsimp only
 refine aC (vB _) fun r1 hr1 => ?_
 apply aA
 grind [inb, eH, aF, size_mk, BooksS, jA]
theorem aM9 (x : cK) : Tot (aD7 x) (fun y => y.1 = x) := by
 unfold aD7; try dsimp only
 refine aC (aGi _) fun r1 hr1 => ?_
 apply aA
 grind [inb, eH, aF, size_mk]
section
attribute [local grind] iX
theorem aSt (x : cK × List ByteArray) (h0 : RdB x.1.1) (h1 : 0 ≤ x.1.2) (h2 : x.1.2 ≤ 100000000) (h3 : 1 ≤ x.2.length) (h4 : x.2.length ≤ 100) : Tot (aBr x) (fun y => y.1.1 = x.1.1 ∧ y.1.2 = x.1.2 + 1 ∧ y.2 ∈ x.2) := by
 unfold aBr; try dsimp only
 refine aC (aM _ (by grind) (by grind) (by grind) (by grind)) fun r1 hr1 => ?_
 refine aH ?_
 apply aA
 grind
end
section
attribute [local grind] List.mem_cons
theorem aKw (x : cK) (h0 : RdB x.1) (h1 : 0 ≤ x.2) (h2 : x.2 ≤ 10000000) : Tot (aAp x) (fun y => y.1.1 = x.1 ∧ x.2 ≤ y.1.2 ∧ y.1.2 ≤ x.2 + 40 ∧ y.2.2.2.2.1.size ≤ 1000) := by
 unfold aAp; try dsimp only
 refine aC (aM9 _) fun r1 hr1 => ?_
 refine aC (aDa _ (by grind) (by grind) (by grind)) fun r2 hr2 => ?_
 refine aC (aM _ (by grind) (by grind) (by grind) (by grind)) fun r3 hr3 => ?_
 refine aC (aM _ (by grind) (by grind) (by grind) (by grind)) fun r4 hr4 => ?_
 refine bF (P := fun (z19 : bO × bO × cK) => z19.2.2.1 = r4.1.1 ∧ r4.1.2 ≤ z19.2.2.2 ∧ z19.2.2.2 ≤ r4.1.2 + 3 ∧ z19.2.1.2.2.2.1.size ≤ 1000) ?_ fun z19 hz => ?_
 ·refine aC (aM _ (by grind) (by grind) (by grind) (by grind)) fun r12 hr12 => ?_
  apply aB <;> intro hc
  ·refine aC (aM _ (by grind) (by grind) (by grind) (by grind)) fun r13 hr13 => ?_
   refine aH ?_
   apply aA
   grind
  apply aB <;> intro hc
  ·refine aC (aM _ (by grind) (by grind) (by grind) (by grind)) fun r14 hr14 => ?_
   refine aH ?_
   apply aA
   grind
  apply aB <;> intro hc
  ·refine aC (aM _ (by grind) (by grind) (by grind) (by grind)) fun r15 hr15 => ?_
   refine aH ?_
   apply aA
   grind
  apply aB <;> intro hc
  ·refine aC (aM _ (by grind) (by grind) (by grind) (by grind)) fun r16 hr16 => ?_
   refine aH ?_
   apply aA
   grind
  apply aB <;> intro hc
  ·refine aC (aSt _ (by grind) (by grind) (by grind) (by grind) (by grind)) fun r17 hr17 => ?_
   refine dH (by grind [aF, size_mk]) ?_
   apply aA
   grind [aF, size_mk]
  apply aB <;> intro hc
  ·refine aC (aM _ (by grind) (by grind) (by grind) (by grind)) fun r18 hr18 => ?_
   refine aH ?_
   apply aA
   grind
  apply aA
  grind
 apply aA
 grind
end
theorem aG4 (x : List aY × Int) (h0 : x.1.length ≤ 1000000) : Tot (tV x) (fun y => (∀ s ∈ x.1, s.2.2.2.length ≤ 6) → y.2.2.2.length ≤ 6) := by
 unfold tV; try dsimp only
 refine aX (fun z2 => z2.1.1 = 0 ∧ z2.1.2.1 = 0 ∧ z2.1.2.2.1 = 0 ∧ z2.1.2.2.2 = [] ∧ z2.2 ≤ (x.1.length : Int) ∧ 0 ≤ z2.2) (fun z2 => ((x.1.length : Int) - z2.2).toNat) fun L1 z2 hz1 hL1 => ?_
 apply aB <;> intro hc
 ·refine aH ?_
  apply aB <;> intro hc
  ·refine aH ?_
   apply aA
   grind
  apply hL1 <;> grind
 apply aA
 grind
theorem aPn (x : List aN) (h0 : x.length ≤ 1000000) : Tot (pY x) (fun y => y = true → x.length ≤ 32) := by
 unfold pY; try dsimp only
 refine aX (fun z2 => z2 ≤ (x.length : Int) ∧ 0 ≤ z2) (fun z2 => ((x.length : Int) - z2).toNat) fun L1 z2 hz1 hL1 => ?_
 apply aB <;> intro hc
 ·refine aH ?_
  apply aB <;> intro hc
  ·apply aA
   grind
  apply hL1 <;> grind
 refine aC (kG _ (by grind)) fun r3 hr3 => ?_
 apply aA
 grind
theorem aSv (x : List aY) (h0 : x.length ≤ 1000000) (h1 : ∀ s ∈ x, s.2.2.2.length ≤ 1000000) : Tot (rP x) (fun y => y = true → x.length ≤ 3 ∧ ∀ s ∈ x, s.2.2.2.length ≤ 6) := by
 unfold rP; try dsimp only
 refine aX (fun z2 => z2 ≤ (x.length : Int) ∧ 0 ≤ z2 ∧ (∀ k : Int, 0 ≤ k → k < z2 → (aS x k).2.2.2.length ≤ 6 ∧ k ≤ (aS x k).1 ∧ (aS x k).1 ≤ 2)) (fun z2 => ((x.length : Int) - z2).toNat) fun L1 z2 hz1 hL1 => ?_
 apply aB <;> intro hc
 ·refine aH ?_
  refine aC (bG _) fun r3 hr3 => ?_
  apply aB <;> intro hc
  ·apply aA
   first | (intro h; cases h; done) | (intro _; exact ⟨uH (fun k => (aS x k).1) (by grind), nR (P := fun s => s.2.2.2.length ≤ 6) (by grind)⟩) | grind
  refine aC (bG _) fun r4 hr4 => ?_
  apply aB <;> intro hc
  ·apply aA
   first | (intro h; cases h; done) | (intro _; exact ⟨uH (fun k => (aS x k).1) (by grind), nR (P := fun s => s.2.2.2.length ≤ 6) (by grind)⟩) | grind
  refine aC (bG _) fun r5 hr5 => ?_
  apply aB <;> intro hc
  ·apply aA
   first | (intro h; cases h; done) | (intro _; exact ⟨uH (fun k => (aS x k).1) (by grind), nR (P := fun s => s.2.2.2.length ≤ 6) (by grind)⟩) | grind
  refine aC (aBl _ (by grind)) fun r6 hr6 => ?_
  apply aB <;> intro hc
  ·apply aA
   first | (intro h; cases h; done) | (intro _; exact ⟨uH (fun k => (aS x k).1) (by grind), nR (P := fun s => s.2.2.2.length ≤ 6) (by grind)⟩) | grind
  apply aB <;> intro hc
  ·refine aH ?_
   apply aB <;> intro hc
   ·apply aA
    first | (intro h; cases h; done) | (intro _; exact ⟨uH (fun k => (aS x k).1) (by grind), nR (P := fun s => s.2.2.2.length ≤ 6) (by grind)⟩) | grind
   apply hL1 <;> grind
  apply hL1 <;> grind
 apply aA
 first | (intro h; cases h; done) | (intro _; exact ⟨uH (fun k => (aS x k).1) (by grind), nR (P := fun s => s.2.2.2.length ≤ 6) (by grind)⟩) | grind
section
attribute [local grind] BooksW BooksS jA
theorem aVg (x : bC) (h0 : BooksW x) : Tot (rY x) (fun y => y = true → BooksS x ∧ jA (x.2.1, x.2.2.1) ∧ x.2.2.2.2.length ≤ 3) := by
 unfold rY; try dsimp only
 refine aC (bG _) fun r1 hr1 => ?_
 apply aB <;> intro hc
 ·refine aC (aRb _ (by grind)) fun r2 hr2 => ?_
  apply aB <;> intro hc
  ·refine aC (aPn _ (by grind)) fun r3 hr3 => ?_
   apply aB <;> intro hc
   ·refine aC (aSv _ (by grind) (by grind)) fun r4 hr4 => ?_
    apply aA
    grind
   apply aA
   grind
  apply aA
  grind
 apply aA
 grind
end
section
attribute [local grind] BooksW bY aAo
theorem rG (x : bC) (h0 : BooksW x) : Tot (aAt x) (fun y => y = x) := by
 unfold aAt; try dsimp only
 simp only [List.nil_append, aEh]
 refine bF (P := fun (z6 : bC × bC × bC) => z6 = (x, ((0, (0, ([], ([], [])))), (x.1, (x.2.1, (x.2.2.1, (x.2.2.2.1, []))))))) ?_ fun z6 hz => ?_
 ·refine dO (by first | rfl | simp only [dC]) ?_
  refine aC (aNd _ (by grind)) fun r1 hr1 => ?_
  refine dO (by first | rfl | simp only [dC]) ?_
  refine dO (by first | rfl | simp only [dC]) ?_
  refine aH ?_
  apply aA
  grind
 refine aX (fun z8 => z8.1 = z6.1 ∧ z8.2.1 = z6.2.1 ∧ z8.2.2.1.1 = z6.2.2.1 ∧ z8.2.2.1.2.1 = z6.2.2.2.1 ∧ z8.2.2.1.2.2.1 = z6.2.2.2.2.1 ∧ z8.2.2.1.2.2.2.1 = z6.2.2.2.2.2.1 ∧ z8.2.2.2 ≤ (z8.1.2.2.2.2.length : Int) ∧ 0 ≤ z8.2.2.2 ∧ z8.2.2.1.2.2.2.2 = x.2.2.2.2.take z8.2.2.2.toNat) (fun z8 => ((z8.1.2.2.2.2.length : Int) - z8.2.2.2).toNat) fun L7 z8 hz7 hL7 => ?_
 apply aB <;> intro hc
 ·iterate 3 refine aH ?_
  apply hL7 <;> grind
 apply aA
 grind
end
theorem aNb (x : List aY × aY) (h0 : x.1.length ≤ 1000000) (h1 : ∀ s ∈ x.1, s.2.2.2.length ≤ 6) (h2 : x.2.2.2.2.length ≤ 6) : Tot (xB x) (fun y => y.length ≤ x.1.length + 1 ∧ ∀ s ∈ y, s.2.2.2.length ≤ 6) := by
 unfold xB; try dsimp only
 refine aX (fun z2 => z2.2.2.2 ≤ (x.1.length : Int) ∧ 0 ≤ z2.2.2.2 ∧ z2.1 = x.2 ∧ z2.2.1.length ≤ z2.2.2.2 + (if z2.2.2.1 then 1 else 0) ∧ (∀ s ∈ z2.2.1, s.2.2.2.length ≤ 6)) (fun z2 => ((x.1.length : Int) - z2.2.2.2).toNat) fun L1 z2 hz1 hL1 => ?_
 apply aB <;> intro hc
 ·refine bF (P := fun (z3 : aY × List aY × Bool) => z3.1 = x.2 ∧ z3.2.1.length ≤ z2.2.2.2 + (if z3.2.2 then 1 else 0) ∧ ∀ s ∈ z3.2.1, s.2.2.2.length ≤ 6) ?_ fun z3 hz => ?_
  ·apply aB <;> intro hc
   ·refine aH ?_
    apply aB <;> intro hc
    ·refine aH ?_
     apply aA
     grind
    apply aA
    grind
   apply aA
   grind
  refine aH ?_
  apply aB <;> intro hc
  ·iterate 2 refine aH ?_
   apply hL1 <;> grind
  apply hL1 <;> grind
 apply aB <;> intro hc
 ·refine aH ?_
  apply aA
  grind
 apply aA
 grind
section
attribute [local grind] BooksW BooksS BooksS.w jA
theorem yM (x : bC × bO) (h0 : BooksW x.1) (h1 : x.2.2.2.2.1.size ≤ 1000000) : Tot (lC x) (fun y => BooksS y) := by
 unfold lC; try dsimp only
 refine aC (aVg _ (by grind)) fun r1 hr1 => ?_
 apply aB <;> intro hc
 ·apply aA
  grind
 apply aB <;> intro hc
 ·apply aA
  grind
 refine aC (rG _ (by grind)) fun r2 hr2 => ?_
 refine aC (wX _ (by grind)) fun r3 hr3 => ?_
 apply aB <;> intro hc
 ·apply aA
  grind
 refine aC (aG4 _ (by grind)) fun r4 hr4 => ?_
 apply aB <;> intro hc
 ·apply aA
  grind
 apply aB <;> intro hc
 ·refine aC (tT _ (by grind)) fun r5 hr5 => ?_
  refine aC (aNb _ (by grind) (by grind) (by grind)) fun r6 hr6 => ?_
  refine aC (rG _ (by grind)) fun r7 hr7 => ?_
  apply aA
  grind
 refine aC (vC _) fun r8 hr8 => ?_
 refine aC (aK2 _ (by grind) (by grind)) fun r9 hr9 => ?_
 refine aC (uZ _ (by grind) (by grind)) fun r10 hr10 => ?_
 refine aC (aNb _ (by grind) (by grind) (by grind)) fun r11 hr11 => ?_
 refine aC (rG _ (by grind)) fun r12 hr12 => ?_
 apply aA
 grind
end
section
attribute [local grind] BooksS BooksS.w SimG gV
theorem aHz (x : cK × Int) (h0 : RdB x.1.1) (h1 : 0 ≤ x.1.2) (h2 : x.1.2 ≤ 900000) (h3 : x.2 ≤ 50) : Tot (wY x) (fun y => y.1.1 = x.1.1 ∧ x.1.2 ≤ y.1.2 ∧ y.1.2 ≤ x.1.2 + 70000 ∧ y.2.length ≤ 60 ∧ ∀ c ∈ y.2, c.2.2.2.1.size ≤ 1000) := by
 unfold wY; try dsimp only
 refine aC (aM _ (by grind) (by grind) (by grind) (by grind)) fun r1 hr1 => ?_
 apply aB <;> intro hc
 ·refine aC (aU5 _ (by grind) (by grind) (by grind) (by grind)) fun r2 hr2 => ?_
  refine aC (aP0 _ (by grind)) fun r3 hr3 => ?_
  apply aA
  grind
 refine aC (aD4 _) fun r4 hr4 => ?_
 refine aC (aM _ (by grind) (by grind) (by grind) (by grind)) fun r5 hr5 => ?_
 refine aX (fun z7 => z7.2.2.2 ≤ r5.2 ∧ z7.1.1 = x.1.1 ∧ 0 ≤ z7.2.2.2 ∧ z7.2.2.2 ≤ 50 ∧ x.1.2 ≤ z7.1.2 ∧ z7.1.2 ≤ x.1.2 + 2 + 50 * (50 - z7.2.2.2) ∧ BooksS z7.2.2.1 ∧ z7.2.1.length ≤ 50 - z7.2.2.2 ∧ (∀ c ∈ z7.2.1, c.2.2.2.1.size ≤ 1000)) (fun z7 => (z7.2.2.2).toNat) fun L6 z7 hz6 hL6 => ?_
 apply aB <;> intro hc
 ·refine aC (aKw _ (by grind) (by grind) (by grind)) fun r8 hr8 => ?_
  refine aC (aM _ (by grind) (by grind) (by grind) (by grind)) fun r9 hr9 => ?_
  apply aB <;> intro hc
  ·refine aC (bG _) fun r10 hr10 => ?_
   apply aB <;> intro hc
   ·refine aC (aG4 _ (by grind)) fun r11 hr11 => ?_
    refine aC (yM _ (by grind) (by grind)) fun r12 hr12 => ?_
    refine aH ?_
    apply hL6 <;> grind
   refine aC (yM _ (by grind) (by grind)) fun r14 hr14 => ?_
   refine aH ?_
   apply hL6 <;> grind
  refine aC (yM _ (by grind) (by grind)) fun r15 hr15 => ?_
  refine aH ?_
  apply hL6 <;> grind
 apply aA
 grind
end
section
attribute [local grind] BooksS BooksS.w aZo
theorem aVh (x : List bO) (h0 : x.length ≤ 1000000) (h1 : ∀ c ∈ x, c.2.2.2.1.size ≤ 1000) : Tot (rZ x) (fun y => BooksS y) := by
 unfold rZ; try dsimp only
 refine aC (aD4 _) fun r1 hr1 => ?_
 apply aB <;> intro hc
 ·apply aA
  grind
 refine aX (fun z3 => z3.1.1 = 0 ∧ z3.1.2.1 = 0 ∧ z3.1.2.2.1 = [] ∧ z3.1.2.2.2.1 = [] ∧ z3.1.2.2.2.2 = [] ∧ z3.2.2 ≤ (x.length : Int) ∧ 0 ≤ z3.2.2 ∧ BooksS z3.2.1) (fun z3 => ((x.length : Int) - z3.2.2).toNat) fun L2 z3 hz2 hL2 => ?_
 apply aB <;> intro hc
 ·refine aH ?_
  refine aC (yM _ (by grind) (by grind)) fun r4 hr4 => ?_
  apply hL2 <;> grind
 apply aA
 grind
end
section
attribute [local grind] jA
theorem aXu (x : cK) (h0 : RdB x.1) (h1 : 0 ≤ x.2) (h2 : x.2 ≤ 10000000) : Tot (aH7 x) (fun y => y.1.1 = x.1 ∧ x.2 ≤ y.1.2 ∧ y.1.2 ≤ x.2 + 30 ∧ y.2.2.length ≤ 8) := by
 unfold aH7; try dsimp only
 refine aC (vB _) fun r1 hr1 => ?_
 refine aC (aM _ (by grind) (by grind) (by grind) (by grind)) fun r2 hr2 => ?_
 refine aX (fun z4 => z4.2.1.1 = 0 ∧ z4.2.1.2 = [] ∧ z4.2.2.2 ≤ r2.2 ∧ z4.1.1 = x.1 ∧ x.2 ≤ z4.1.2 ∧ z4.1.2 ≤ x.2 + 1 + 2 * (8 - z4.2.2.2) ∧ 0 ≤ z4.2.2.2 ∧ jA z4.2.2.1) (fun z4 => (z4.2.2.2).toNat) fun L3 z4 hz3 hL3 => ?_
 apply aB <;> intro hc
 ·refine aC (aM _ (by grind) (by grind) (by grind) (by grind)) fun r5 hr5 => ?_
  refine aC (aM _ (by grind) (by grind) (by grind) (by grind)) fun r6 hr6 => ?_
  refine aC (tT _ (by grind)) fun r7 hr7 => ?_
  apply hL3 <;> grind
 refine aC (aM _ (by grind) (by grind) (by grind) (by grind)) fun r8 hr8 => ?_
 apply aB <;> intro hc
 ·refine aC (aM _ (by grind) (by grind) (by grind) (by grind)) fun r9 hr9 => ?_
  refine aH ?_
  apply aA
  grind
 apply aB <;> intro hc
 ·refine dO (by first | rfl | simp only [dC]) ?_
  refine aC (aM _ (by grind) (by grind) (by grind) (by grind)) fun r10 hr10 => ?_
  refine dO (by first | rfl | simp only [dC]) ?_
  refine aC (aM _ (by grind) (by grind) (by grind) (by grind)) fun r11 hr11 => ?_
  iterate 2 refine aH ?_
  apply aA
  grind
 apply aB <;> intro hc
 ·refine aH ?_
  apply aA
  grind
 apply aA
 grind
end
section
attribute [local grind] BooksG BooksS List.mem_cons
theorem aSs (x : cK) (h0 : RdB x.1) (h1 : 0 ≤ x.2) (h2 : x.2 ≤ 800000) : Tot (aBq x) (fun y => y.1.1 = x.1 ∧ x.2 ≤ y.1.2 ∧ y.1.2 ≤ x.2 + 71000 ∧ BooksG y.2) := by
 unfold aBq; try dsimp only
 refine aC (aHz _ (by grind) (by grind) (by grind) (by grind)) fun r1 hr1 => ?_
 refine aC (aVh _ (by grind) (by grind)) fun r2 hr2 => ?_
 refine aC (aM _ (by grind) (by grind) (by grind) (by grind)) fun r3 hr3 => ?_
 apply aB <;> intro hc
 ·refine aC (aM _ (by grind) (by grind) (by grind) (by grind)) fun r4 hr4 => ?_
  refine aH ?_
  apply aA
  grind
 apply aB <;> intro hc
 ·refine aC (aM _ (by grind) (by grind) (by grind) (by grind)) fun r5 hr5 => ?_
  refine aH ?_
  apply aA
  grind
 apply aB <;> intro hc
 ·refine aC (aXu _ (by grind) (by grind) (by grind)) fun r6 hr6 => ?_
  apply aA
  grind
 apply aB <;> intro hc
 ·refine aC (aM _ (by grind) (by grind) (by grind) (by grind)) fun r7 hr7 => ?_
  refine aC (aM _ (by grind) (by grind) (by grind) (by grind)) fun r8 hr8 => ?_
  refine aH ?_
  apply aA
  grind
 apply aA
 grind
end
section
attribute [local grind] RdB
theorem aG3 (x : List Int) (h0 : x.length ≤ 2000000) (h1 : ∀ b ∈ x, 0 ≤ b ∧ b ≤ 255) : Tot (aAq x) (fun y => RdB y.1 ∧ y.2 = 0) := by
 unfold aAq; try dsimp only
 apply aB <;> intro hc
 ·refine aH ?_
  apply aA
  grind
 apply aA
 grind
end
section
attribute [local grind] BooksG
theorem aDb (x : List Int) (h0 : x.length ≤ 2000000) (h1 : ∀ b ∈ x, 0 ≤ b ∧ b ≤ 255) : Tot (oU x) (fun y => BooksG y.1 ∧ y.2.2.2.2.1.size ≤ 1000) := by
 unfold oU; try dsimp only
 refine aC (aG3 _ (by grind) (by grind)) fun r1 hr1 => ?_
 refine aC (aSs _ (by grind) (by grind) (by grind)) fun r2 hr2 => ?_
 refine aC (aKw _ (by grind) (by grind) (by grind)) fun r3 hr3 => ?_
 refine aC (aM _ (by grind) (by grind) (by grind) (by grind)) fun r4 hr4 => ?_
 apply aB <;> intro hc
 ·refine aC (bG _) fun r5 hr5 => ?_
  apply aB <;> intro hc
  ·refine aC (aG4 _ (by grind)) fun r6 hr6 => ?_
   refine aC (aM _ (by grind) (by grind) (by grind) (by grind)) fun r7 hr7 => ?_
   apply aA
   grind
  apply aA
  grind
 apply aA
 grind
end
theorem aU4 (x : cK) (h0 : RdB x.1) (h1 : 0 ≤ x.2) (h2 : x.2 ≤ 1000000) : Tot (aFg x) (fun y => y.2.length ≤ 7) := by
 unfold aFg; try dsimp only
 refine aC (aM9 _) fun r1 hr1 => ?_
 refine aC (rF _ (by grind) (by grind) (by grind)) fun r2 hr2 => ?_
 refine aC (aM _ (by grind) (by grind) (by grind) (by grind)) fun r3 hr3 => ?_
 apply aB <;> intro hc
 ·refine aC (aM _ (by grind) (by grind) (by grind) (by grind)) fun r4 hr4 => ?_
  refine aC (aM _ (by grind) (by grind) (by grind) (by grind)) fun r5 hr5 => ?_
  iterate 2 refine aH ?_
  apply aA
  grind
 apply aB <;> intro hc
 ·refine aC (aM _ (by grind) (by grind) (by grind) (by grind)) fun r7 hr7 => ?_
  refine aC (aM _ (by grind) (by grind) (by grind) (by grind)) fun r8 hr8 => ?_
  iterate 2 refine aH ?_
  apply aA
  grind
 apply aB <;> intro hc
 ·refine aC (aM _ (by grind) (by grind) (by grind) (by grind)) fun r10 hr10 => ?_
  refine aC (aM _ (by grind) (by grind) (by grind) (by grind)) fun r11 hr11 => ?_
  iterate 2 refine aH ?_
  apply aA
  grind
 apply aB <;> intro hc
 ·refine aX (fun z15 => z15.1.1 = x.1 ∧ 0 ≤ z15.1.2 ∧ z15.1.2 ≤ x.2 + 100 + 2 * z15.2.length ∧ z15.2.length ≤ 7) (fun z15 => (8 - (z15.2.length : Int)).toNat) fun L14 z15 hz14 hL14 => ?_
  refine aC (aM _ (by grind) (by grind) (by grind) (by grind)) fun r16 hr16 => ?_
  apply aB <;> intro hc
  ·refine aC (aM _ (by grind) (by grind) (by grind) (by grind)) fun r18 hr18 => ?_
   refine aH ?_
   apply hL14 <;> grind
  apply aA
  grind
 apply aB <;> intro hc
 ·apply aA
  grind
 apply aA
 grind
theorem aD3 (x : List Int) (h0 : x.length ≤ 2000000) (h1 : ∀ b ∈ x, 0 ≤ b ∧ b ≤ 255) : Tot (qR x) (fun y => y.length ≤ 7) := by
 unfold qR; try dsimp only
 refine aC (aG3 _ (by grind) (by grind)) fun r1 hr1 => ?_
 refine aC (aU4 _ (by grind) (by grind) (by grind)) fun r2 hr2 => ?_
 apply aA
 grind
section
attribute [local grind] aHe List.mem_replicate List.length_replicate
theorem aL1 (x : List Int) (h0 : x.length ≤ 2000000) (h1 : ∀ b ∈ x, 0 ≤ b ∧ b ≤ 255) : Tot (sU x) (fun y => y.length ≤ 61 ∧ ∀ c ∈ y, c.2.2.2.1.size ≤ 1000) := by
 unfold sU; try dsimp only
 refine aC (aG3 _ (by grind) (by grind)) fun r1 hr1 => ?_
 refine aC (aM _ (by grind) (by grind) (by grind) (by grind)) fun r2 hr2 => ?_
 apply aB <;> intro hc
 ·refine aC (aM _ (by grind) (by grind) (by grind) (by grind)) fun r3 hr3 => ?_
  refine aH ?_
  apply aA
  grind
 refine aC (aHz _ (by grind) (by grind) (by grind) (by grind)) fun r4 hr4 => ?_
 apply aA
 grind
end
end Ab
end
section
set_option maxRecDepth 100000
set_option linter.unusedVariables false
namespace Ab
open Go Go.Lib
abbrev Bs := List UInt8
def bs (s : ByteArray) : Bs := s.data.toList
def bEh (l : Bs) : ByteArray := ⟨l.toArray⟩
theorem aSa (l : Bs) : bs (bEh l) = l := by simp [bs, bEh]
theorem bHf (s : ByteArray) : bEh (bs s) = s := by cases s; simp [bs, bEh]
theorem oK {a b : ByteArray} (h : bs a = bs b) : a = b := by rw [← bHf a, ← bHf b, h]
theorem oL (a b : ByteArray) : bs (a ++ b) = bs a ++ bs b := by simp [bs, ByteArray.data_append]
theorem oF (s : ByteArray) : s.size = (bs s).length := by simp [bs]
theorem dR {a b : ByteArray} : eqS a b = true ↔ a = b := by
 unfold eqS
 rw [beq_iff_eq, ByteArray.toList_eq, ByteArray.toList_eq]
 exact ⟨fun h => oK h, fun h => by rw [h]⟩
theorem xX : ∀ n : Nat, bs (dec n) = decDigits n := by
 intro n
 induction n using Nat.strongRecOn with
 | _ n ih =>
  rw [dec, decDigits]
  by_cases h : n < 10
  ·rw [if_pos h, dif_pos h]; rfl
  ·rw [if_neg h, dif_neg h, oL, ih _ (by omega)]; rfl
def aLo (b : UInt8) : Prop := 48 ≤ b.toNat ∧ b.toNat ≤ 57
theorem aO9 {d : Nat} (h : d < 10) : (UInt8.ofNat (48 + d)).toNat = 48 + d := by
 rw [UInt8.toNat_ofNat']; omega
theorem xW : ∀ n : Nat, ∀ b ∈ decDigits n, aLo b := by
 intro n
 induction n using Nat.strongRecOn with
 | _ n ih =>
  intro b hb
  rw [decDigits] at hb
  by_cases h : n < 10
  ·rw [dif_pos h] at hb
   rw [List.mem_singleton.1 hb]
   unfold aLo; rw [aO9 h]; omega
  ·rw [dif_neg h] at hb
   rcases List.mem_append.1 hb with hb | hb
   ·exact ih _ (by omega) b hb
   ·rw [List.mem_singleton.1 hb]
    unfold aLo; rw [aO9 (Nat.mod_lt _ (by decide))]; omega
theorem aF6 (n : Nat) : decDigits n ≠ [] := by
 rw [decDigits]
 split
 ·simp
 simp
theorem aLu : ∀ (l m : Bs) (a k : Nat), decFrom a l = some k → decFrom a (l ++ m) = decFrom k m
 | [], m, a, k, h => by cases h; rfl
 | b :: l, m, a, k, h => by
  simp only [decFrom, List.cons_append] at h ⊢
  cases hd : digitVal b with
  | none => rw [hd] at h; cases h
  | some d => rw [hd] at h; exact aLu l m _ k h
theorem aW3 {d : Nat} (h : d < 10) : digitVal (UInt8.ofNat (48 + d)) = some d := by
 unfold digitVal
 rw [aO9 h, if_pos (by omega)]
 congr 1; omega
theorem aLt (a : Nat) {d : Nat} (h : d < 10) : decFrom a [UInt8.ofNat (48 + d)] = some (a * 10 + d) := by
 show (match digitVal (UInt8.ofNat (48 + d)) with | some d => decFrom (a * 10 + d) [] | none => none) = _
 rw [aW3 h]; rfl
theorem aE5 : ∀ n : Nat, decFrom 0 (decDigits n) = some n := by
 intro n
 induction n using Nat.strongRecOn with
 | _ n ih =>
  rw [decDigits]
  by_cases h : n < 10
  ·rw [dif_pos h, aLt _ h]; simp
  ·rw [dif_neg h, aLu _ _ _ _ (ih _ (by omega)), aLt _ (Nat.mod_lt n (by decide))]
   congr 1; omega
theorem aGt (n : Nat) : decNat (decDigits n) = some n := by
 unfold decNat
 have : (decDigits n).isEmpty = false := by
  cases h : decDigits n with
  | nil => exact absurd h (aF6 n)
  | cons => rfl
 rw [this]
 exact aE5 n
theorem bB9 (n : Int) : atoi (itoa n) = some n := by
 unfold itoa
 by_cases h : n < 0
 ·rw [if_pos h]
  unfold atoi
  dsimp only
  rw [if_pos (by decide), aGt]
  show some (-(n.natAbs : Int)) = _
  congr 1; omega
 rw [if_neg h]
 have hd := xW n.toNat
 have hn := aGt n.toNat
 cases hl : decDigits n.toNat with
 | nil => exact absurd hl (aF6 _)
 | cons b r =>
  rw [hl] at hd hn
  have hb := hd b List.mem_cons_self
  unfold aLo at hb
  have h45 : (b == 45) = false := by
   apply beq_eq_false_iff_ne.2; rintro rfl
   have : (45 : UInt8).toNat = 45 := rfl
   omega
  have h43 : (b == 43) = false := by
   apply beq_eq_false_iff_ne.2; rintro rfl
   have : (43 : UInt8).toNat = 43 := rfl
   omega
  unfold atoi
  dsimp only
  rw [h45, h43]
  simp only [Bool.false_eq_true, if_false, hn, Option.map_some]
  congr 1; omega
def aYc (b : UInt8) : Prop := b ≠ 32 ∧ b ≠ 59
theorem aR3 {b : UInt8} (h : aLo b) : aYc b := by
 unfold aLo at h
 constructor <;> rintro rfl
 ·have : (32 : UInt8).toNat = 32 := rfl
  omega
 have : (59 : UInt8).toNat = 59 := rfl
 omega
theorem xR (n : Int) : ∀ b ∈ itoa n, aYc b := by
 intro b hb
 unfold itoa at hb
 split at hb
 ·rcases List.mem_cons.1 hb with rfl | hb
  ·exact ⟨by decide, by decide⟩
  exact aR3 (xW _ b hb)
 exact aR3 (xW _ b hb)
def eD (s : aI) : Prop := 1 ≤ s.1 ∧ s.1 ≤ 4 ∧ 0 ≤ s.2.1 ∧ s.2.1 ≤ 31 ∧ -9999 ≤ s.2.2 ∧ s.2.2 ≤ 9999 ∧ (s.1 = 1 → s.2.2 = 0)
def fB (l : List aI) : Prop := 1 ≤ l.length ∧ l.length ≤ 6 ∧ ∀ s ∈ l, eD s
def mY (k : Int) : Bs := if k = 1 then [103, 101, 116] else if k = 2 then [112, 117, 116] else if k = 3 then [97, 100, 100] else [110, 101, 101, 100]
def kX (s : aI) : Bs := mY s.1 ++ 32 :: itoa s.2.1 ++ (if s.1 = 1 then [] else 32 :: itoa s.2.2)
def eO : List aI → Bs
 | [] => []
 | s :: l => kX s ++ 59 :: eO l
theorem aM5 : ∀ a b : List aI, eO (a ++ b) = eO a ++ eO b
 | [], _ => rfl
 | s :: a, b => by simp [eO, aM5 a b]
theorem aHc (k : Int) : ∀ b ∈ mY k, aYc b := by
 intro b hb
 unfold mY at hb
 split at hb
 ·simp at hb; rcases hb with rfl | rfl | rfl <;> exact ⟨by decide, by decide⟩
 split at hb
 ·simp at hb; rcases hb with rfl | rfl | rfl <;> exact ⟨by decide, by decide⟩
 split at hb
 ·simp at hb; rcases hb with rfl | rfl | rfl <;> exact ⟨by decide, by decide⟩
 simp at hb; rcases hb with rfl | rfl | rfl <;> exact ⟨by decide, by decide⟩
theorem pV (s : aI) : ∀ b ∈ kX s, b ≠ 59 := by
 intro b hb
 unfold kX at hb
 simp only [List.mem_append, List.mem_cons] at hb
 rcases hb with (hb | rfl | hb) | hb
 ·exact (aHc _ b hb).2
 ·decide
 ·exact (xR _ b hb).2
 split at hb
 ·cases hb
 rcases List.mem_cons.1 hb with rfl | hb
 ·decide
 exact (xR _ b hb).2
def mH (at_ : UInt8) : Bs → List Bs
 | [] => [[]]
 | b :: l => if b = at_ then [] :: mH at_ l else match mH at_ l with
  | [] => [[b]]
  | h :: t => (b :: h) :: t
theorem bG5 (at_ : UInt8) : ∀ l, mH at_ l ≠ []
 | [] => by simp [mH]
 | b :: l => by
  unfold mH
  split
  ·simp
  split <;> simp
theorem nQ {at_ : UInt8} : ∀ {p : Bs} (q : Bs), (∀ b ∈ p, b ≠ at_) → mH at_ (p ++ at_ :: q) = p :: mH at_ q
 | [], q, _ => by simp [mH]
 | b :: p, q, h => by
  rw [List.cons_append, mH, if_neg (h b List.mem_cons_self), nQ (p := p) q (fun c hc => h c (List.mem_cons_of_mem _ hc))]
theorem aBb {at_ : UInt8} : ∀ {p : Bs}, (∀ b ∈ p, b ≠ at_) → mH at_ p = [p]
 | [], _ => rfl
 | b :: p, h => by rw [mH, if_neg (h b List.mem_cons_self), aBb (p := p) (fun c hc => h c (List.mem_cons_of_mem _ hc))]
theorem aR7 {at_ : UInt8} : ∀ (l : Bs) (b : UInt8), mH at_ (l ++ [b]) = if b = at_ then mH at_ l ++ [[]] else (mH at_ l).dropLast ++ [((mH at_ l).getLast?.getD []) ++ [b]]
 | [], b => by
  by_cases h : b = at_ <;> simp [mH, h]
 | c :: l, b => by
  rw [List.cons_append, mH, mH, aR7 l b]
  have hne := bG5 at_ l
  cases hl : mH at_ l with
  | nil => exact absurd hl hne
  | cons x t =>
   by_cases h : b = at_
   ·by_cases hc : c = at_ <;> simp [h, hc]
   ·by_cases hc : c = at_
    ·simp [h, hc]
    ·cases t <;> simp [h, hc]
theorem aR5 : ∀ l : List aI, mH 59 (eO l) = l.map kX ++ [[]]
 | [] => rfl
 | s :: l => by rw [eO, nQ _ (pV s), aR5 l]; rfl
theorem bE9 (s : aI) : mH 32 (kX s) = if s.1 = 1 then [mY s.1, itoa s.2.1] else [mY s.1, itoa s.2.1, itoa s.2.2] := by
 unfold kX
 by_cases h : s.1 = 1
 ·rw [if_pos h, if_pos h, List.append_nil, nQ _ (fun b hb => (aHc _ b hb).1), aBb (fun b hb => (xR _ b hb).1)]
 rw [if_neg h, if_neg h, List.append_assoc, List.cons_append, nQ _ (fun b hb => (aHc _ b hb).1), nQ _ (fun b hb => (xR _ b hb).1), aBb (fun b hb => (xR _ b hb).1)]
def Reads (text : ByteArray) (y : List aI × Bool) : Prop :=
 (y.2 = true → fB y.1 ∧ eO y.1 = bs text) ∧ (y.2 = false → y.1 = []) ∧ ∀ L, fB L → eO L = bs text → text.size ≤ 80 → y = (L, true)
theorem Reads.same {text : ByteArray} {y z : List aI × Bool} (h : Reads text y) (k : Reads text z) (hs : text.size ≤ 80 ∨ (y.2 = false ∧ z.2 = false)) : y = z := by
 obtain ⟨yl, yb⟩ := y
 obtain ⟨zl, zb⟩ := z
 cases yb with
 | true =>
  rcases hs with hs | hs
  ·exact (k.2.2 yl (h.1 rfl).1 (h.1 rfl).2 hs).symm
  ·cases hs.1
 | false =>
  cases zb with
  | true =>
   rcases hs with hs | hs
   ·exact h.2.2 zl (k.1 rfl).1 (k.1 rfl).2 hs
   ·cases hs.2
  | false =>
   have e1 : yl = [] := h.2.1 rfl
   have e2 : zl = [] := k.2.1 rfl
   rw [e1, e2]
end Ab
end
section
set_option maxRecDepth 100000
set_option linter.unusedVariables false
namespace Ab
open Go Go.Lib
abbrev Pr := Int × Int
theorem drop_at {r : Ty} {xs : List r.T} {i : Int} (h1 : 0 ≤ i) (h2 : i < (xs.length : Int)) : xs.drop i.toNat = iG r xs i :: xs.drop (i + 1).toNat := by
 have hi : i.toNat < xs.length := by omega
 rw [List.drop_eq_getElem_cons hi, show (i + 1).toNat = i.toNat + 1 by omega]
 congr 1
 unfold iG
 rw [List.getD_eq_getElem?_getD, List.getElem?_eq_getElem hi]; rfl
theorem aA9 {α : Type} {xs : List α} {i : Int} (h : (xs.length : Int) ≤ i) : xs.drop i.toNat = [] := List.drop_of_length_le (by omega)
def gH : List Pr → Int → Option Int
 | [], _ => none
 | p :: l, k => if p.1 = k then some p.2 else gH l k
def fO (l : List Pr) (k : Int) : Int := (gH l k).getD 0
def Asc (l : List Pr) : Prop := l.Pairwise fun a b => a.1 < b.1
def eP (l : List Pr) : Prop := (∀ p ∈ l, 0 ≤ p.1 ∧ p.1 ≤ 31 ∧ -9999 ≤ p.2 ∧ p.2 ≤ 9999) ∧ Asc l
def nT (l : List Pr) : Prop := eP l ∧ ∀ p ∈ l, p.2 ≠ 0
def rowFrom (h : Int → Int) : Nat → Nat → List Pr
 | 0, _ => []
 | n + 1, k => if h k = 0 then rowFrom h n (k + 1) else ((k : Int), h k) :: rowFrom h n (k + 1)
def rowOf (h : Int → Int) : List Pr := rowFrom h 32 0
theorem aKk {l : List Pr} {k : Int} (h : ∀ p ∈ l, p.1 ≠ k) : gH l k = none := by
 induction l with
 | nil => rfl
 | cons p l ih => rw [gH, if_neg (h p List.mem_cons_self)]; exact ih fun q hq => h q (List.mem_cons_of_mem _ hq)
theorem aRw {l : List Pr} {k v : Int} (h : gH l k = some v) : (k, v) ∈ l := by
 induction l with
 | nil => cases h
 | cons p l ih =>
  rw [gH] at h
  split at h
  ·rename_i e; cases h; subst e; exact List.mem_cons_self
  ·exact List.mem_cons_of_mem _ (ih h)
theorem aWw {l : List Pr} (ha : Asc l) {p : Pr} (h : p ∈ l) : gH l p.1 = some p.2 := by
 induction l with
 | nil => cases h
 | cons q l ih =>
  obtain ⟨h1, h2⟩ := List.pairwise_cons.1 ha
  rcases List.mem_cons.1 h with rfl | h
  ·rw [gH, if_pos rfl]
  ·have := h1 p h
   rw [gH, if_neg (by omega)]; exact ih h2 h
theorem lX {h : Int → Int} : ∀ {n k : Nat} {p : Pr}, p ∈ rowFrom h n k → (k : Int) ≤ p.1 ∧ p.1 < k + n ∧ p.2 = h p.1 ∧ p.2 ≠ 0
 | n + 1, k, p, hp => by
  rw [rowFrom] at hp
  split at hp
  ·have := lX hp; omega
  rename_i h0
  rcases List.mem_cons.1 hp with rfl | hp
  ·exact ⟨by simp, by simp; omega, rfl, h0⟩
  have := lX hp; omega
theorem uC {h : Int → Int} : ∀ {n k : Nat} {j : Int}, (k : Int) ≤ j → j < k + n → h j ≠ 0 → (j, h j) ∈ rowFrom h n k
 | 0, k, j, h1, h2, _ => by omega
 | n + 1, k, j, h1, h2, h3 => by
  rw [rowFrom]
  by_cases e : j = k
  ·subst e; rw [if_neg h3]; exact List.mem_cons_self
  have := uC (h := h) (n := n) (k := k + 1) (j := j) (by omega) (by omega) h3
  split
  ·exact this
  exact List.mem_cons_of_mem _ this
theorem nL {h : Int → Int} : ∀ {n k : Nat}, Asc (rowFrom h n k)
 | 0, _ => List.Pairwise.nil
 | n + 1, k => by
  rw [rowFrom]
  split
  ·exact nL
  exact List.pairwise_cons.2 ⟨fun p hp => by have := (lX hp).1; show (k : Int) < _; omega, nL⟩
theorem aRe {h : Int → Int} {j : Int} (h1 : 0 ≤ j) (h2 : j ≤ 31) : fO (rowOf h) j = h j := by
 unfold fO
 by_cases h0 : h j = 0
 ·rw [aKk (fun p hp e => by have := lX hp; rw [e, h0] at this; exact this.2.2.2 this.2.2.1)]; exact h0.symm
 have hm := uC (h := h) (n := 32) (k := 0) (j := j) (by omega) (by omega) h0
 rw [show gH (rowOf h) j = some (h j) from aWw nL hm]; rfl
theorem aUn : ∀ {l m : List Pr}, Asc l → Asc m → (∀ p, p ∈ l ↔ p ∈ m) → l = m
 | [], [], _, _, _ => rfl
 | [], q :: m, _, _, h => by have := (h q).2 List.mem_cons_self; cases this
 | p :: l, [], _, _, h => by have := (h p).1 List.mem_cons_self; cases this
 | p :: l, q :: m, hl, hm, h => by
  obtain ⟨l1, l2⟩ := List.pairwise_cons.1 hl
  obtain ⟨m1, m2⟩ := List.pairwise_cons.1 hm
  have e : p = q := by
   rcases List.mem_cons.1 ((h p).1 List.mem_cons_self) with e | hp
   ·exact e
   ·rcases List.mem_cons.1 ((h q).2 List.mem_cons_self) with e | hq
    ·exact e.symm
    ·have := m1 p hp; have := l1 q hq; omega
  subst e
  rw [aUn l2 m2 fun x => ⟨fun hx => by
   rcases List.mem_cons.1 ((h x).1 (List.mem_cons_of_mem _ hx)) with rfl | h2
   ·have := l1 x hx; omega
   ·exact h2, fun hx => by
   rcases List.mem_cons.1 ((h x).2 (List.mem_cons_of_mem _ hx)) with rfl | h2
   ·have := m1 x hx; omega
   ·exact h2⟩]
theorem aVn {h : Int → Int} (hv : ∀ j : Int, 0 ≤ j → j ≤ 31 → -9999 ≤ h j ∧ h j ≤ 9999) : nT (rowOf h) :=
 ⟨⟨fun p hp => by
  obtain ⟨h1, h2, h3, h4⟩ := lX hp
  have := hv p.1 (by omega) (by omega)
  omega, nL⟩, fun p hp => (lX hp).2.2.2⟩
theorem aK5 {h g : Int → Int} (e : ∀ j : Int, 0 ≤ j → j ≤ 31 → h j = g j) : rowOf h = rowOf g := by
 refine aUn nL nL fun p => ⟨fun hp => ?_, fun hp => ?_⟩
 ·obtain ⟨h1, h2, h3, h4⟩ := lX hp
  have e' := e p.1 (by omega) (by omega)
  have := uC (h := g) (n := 32) (k := 0) (j := p.1) (by omega) (by omega) (by rw [← e', ← h3]; exact h4)
  rw [← e', ← h3] at this; exact this
 obtain ⟨h1, h2, h3, h4⟩ := lX hp
 have e' := e p.1 (by omega) (by omega)
 have := uC (h := h) (n := 32) (k := 0) (j := p.1) (by omega) (by omega) (by rw [e', ← h3]; exact h4)
 rw [e', ← h3] at this; exact this
theorem fK {l : List Pr} (h : eP l) : l.length ≤ 32 := by
 have : ∀ (l : List Pr) (n : Nat), Asc l → (∀ p ∈ l, (32 : Int) - n ≤ p.1 ∧ p.1 < 32) → l.length ≤ n := by
  intro l
  induction l with
  | nil => intro n _ _; exact Nat.zero_le _
  | cons p l ih =>
   intro n ha hb
   obtain ⟨h1, h2⟩ := List.pairwise_cons.1 ha
   have hp := hb p List.mem_cons_self
   obtain ⟨m, rfl⟩ : ∃ m, n = m + 1 := ⟨n - 1, by omega⟩
   have := ih m h2 fun q hq => by
    have := h1 q hq; have := hb q (List.mem_cons_of_mem _ hq); omega
   simp only [List.length_cons]; omega
 exact this l 32 h.2 fun p hp => by have := h.1 p hp; omega
def upd (f : Int → Int) (k v : Int) : Int → Int := fun j => if j = k then v else f j
def aSr (c : Int → Option Int) (k v : Int) : Int → Option Int := fun j => if j = k then some v else c j
def pO (f : Int → Int) (s : aI) : Int := if s.1 = 3 then f s.2.1 + s.2.2 else s.2.2
def iB : List aI → (Int → Int) → (Int → Option Int) → List Int → Int × List Int × (Int → Option Int)
 | [], _, c, g => (0, g, c)
 | s :: l, f, c, g =>
  if s.1 = 1 then iB l f c (g ++ [f s.2.1])
  else if s.1 = 4 then (if f s.2.1 < s.2.2 then (1, [], fun _ => none) else iB l f c g)
  else if -9999 ≤ pO f s ∧ pO f s ≤ 9999 then iB l (upd f s.2.1 (pO f s)) (aSr c s.2.1 (pO f s)) g else (2, [], fun _ => none)
def after (f : Int → Int) (c : Int → Option Int) : Int → Int := fun k => (c k).getD (f k)
theorem aId : ∀ (l : List aI) (f : Int → Int) (c : Int → Option Int) (g : List Int), (iB l f c g).2.1.length ≤ g.length + l.length
 | [], _, _, g => Nat.le_refl _
 | s :: l, f, c, g => by
  rw [iB]
  split
  ·have := aId l f c (g ++ [f s.2.1]); simp at this ⊢; omega
  split
  ·split
   ·simp
   have := aId l f c g; simp; omega
  split
  ·have := aId l (upd f s.2.1 (pO f s)) (aSr c s.2.1 (pO f s)) g; simp; omega
  simp
theorem aIc : ∀ (l : List aI) (f : Int → Int) (c : Int → Option Int) (g : List Int), (∀ k, -9999 ≤ f k ∧ f k ≤ 9999) → (∀ k v, c k = some v → -9999 ≤ v ∧ v ≤ 9999) → (∀ v ∈ g, -9999 ≤ v ∧ v ≤ 9999) →
  (0 ≤ (iB l f c g).1 ∧ (iB l f c g).1 ≤ 2) ∧ (∀ v ∈ (iB l f c g).2.1, -9999 ≤ v ∧ v ≤ 9999) ∧ ∀ k v, (iB l f c g).2.2 k = some v → -9999 ≤ v ∧ v ≤ 9999
 | [], f, c, g, hf, hc, hg => ⟨by simp [iB], hg, hc⟩
 | s :: l, f, c, g, hf, hc, hg => by
  rw [iB]
  split
  ·exact aIc l f c _ hf hc fun v hv => by
    rcases List.mem_append.1 hv with h | h
    ·exact hg v h
    ·rw [List.mem_singleton.1 h]; exact hf _
  split
  ·split
   ·exact ⟨by simp, by simp, by simp⟩
   exact aIc l f c g hf hc hg
  split
  ·rename_i hn
   exact aIc l _ _ g (fun k => by unfold upd; split; exact hn; exact hf k) (fun k v h => by
    unfold aSr at h; split at h
    ·cases h; exact hn
    ·exact hc k v h) hg
  exact ⟨by simp, by simp, by simp⟩
theorem aCb (K : Int → Prop) : ∀ (l : List aI) (f f' : Int → Int) (c c' : Int → Option Int) (g : List Int), (∀ s ∈ l, K s.2.1) → (∀ k, K k → f k = f' k ∧ c k = c' k) →
  (iB l f c g).1 = (iB l f' c' g).1 ∧ (iB l f c g).2.1 = (iB l f' c' g).2.1 ∧ ∀ k, K k → (iB l f c g).2.2 k = (iB l f' c' g).2.2 k
 | [], f, f', c, c', g, _, h => ⟨rfl, rfl, fun k hk => (h k hk).2⟩
 | s :: l, f, f', c, c', g, hK, h => by
  have hs := (h _ (hK s List.mem_cons_self)).1
  have hl : ∀ t ∈ l, K t.2.1 := fun t ht => hK t (List.mem_cons_of_mem _ ht)
  have hv : pO f' s = pO f s := by unfold pO; rw [hs]
  rw [iB, iB, hv, ← hs]
  split
  ·exact aCb K l f f' c c' _ hl h
  split
  ·split
   ·exact ⟨rfl, rfl, fun _ _ => rfl⟩
   exact aCb K l f f' c c' g hl h
  split
  ·refine aCb K l _ _ _ _ g hl fun k hk => ⟨?_, ?_⟩
   ·unfold upd; split
    ·rfl
    exact (h k hk).1
   unfold aSr; split
   ·rfl
   exact (h k hk).2
  exact ⟨rfl, rfl, fun _ _ => rfl⟩
theorem qU : ∀ (l : List aI) (f : Int → Int) (c : Int → Option Int) (g : List Int) (k : Int), (∀ s ∈ l, s.2.1 ≠ k) → c k = none → (iB l f c g).2.2 k = none
 | [], _, _, _, _, _, h => h
 | s :: l, f, c, g, k, hk, h => by
  have hl : ∀ t ∈ l, t.2.1 ≠ k := fun t ht => hk t (List.mem_cons_of_mem _ ht)
  rw [iB]
  split
  ·exact qU l f c _ k hl h
  split
  ·split
   ·rfl
   exact qU l f c g k hl h
  split
  ·exact qU l _ _ g k hl (by unfold aSr; rw [if_neg fun e => hk s List.mem_cons_self e.symm]; exact h)
  rfl
def aO8 (l : List Pr) (k : Int) : List Pr := l.filter fun p => decide (p.1 ≠ k)
def aDj : List Pr → Int → Int → List Pr
 | [], k, v => [(k, v)]
 | p :: l, k, v => if k ≤ p.1 then (k, v) :: aO8 (p :: l) k else p :: aDj l k v
theorem aRy : ∀ (l : List Pr) (k j : Int), gH (aO8 l k) j = if j = k then none else gH l j
 | [], k, j => by simp [aO8, gH]
 | p :: l, k, j => by
  have ih := aRy l k j
  unfold aO8 at ih ⊢
  by_cases h : p.1 = k
  ·rw [List.filter_cons_of_neg (by simp [h]), ih]
   by_cases e : j = k
   ·simp [e]
   rw [if_neg e, if_neg e, gH, if_neg (by omega)]
  rw [List.filter_cons_of_pos (by simp [h]), gH, gH, ih]
  by_cases e : j = k
  ·subst e; rw [if_neg h, if_pos rfl, if_pos rfl]
  by_cases e2 : p.1 = j <;> simp [e, e2]
theorem aO4 : ∀ (l : List Pr) (k v j : Int), gH (aDj l k v) j = if j = k then some v else gH l j
 | [], k, v, j => by
  unfold aDj gH
  by_cases e : k = j
  ·subst e; simp
  ·rw [if_neg e, if_neg (fun h => e h.symm)]; rfl
 | p :: l, k, v, j => by
  rw [aDj]
  split
  ·rw [gH]
   by_cases e : k = j
   ·subst e; simp
   ·rw [if_neg e, aRy, if_neg (fun h => e h.symm), if_neg (fun h => e h.symm)]
  ·rename_i h
   rw [gH, aO4 l k v j, gH]
   by_cases e : j = k
   ·subst e; rw [if_neg (by omega), if_pos rfl, if_pos rfl]
   ·rw [if_neg e, if_neg e]
theorem aZ6 {l : List Pr} {k v : Int} {p : Pr} (h : p ∈ aDj l k v) : p = (k, v) ∨ p ∈ l := by
 induction l with
 | nil => exact .inl (List.mem_singleton.1 h)
 | cons q l ih =>
  rw [aDj] at h
  split at h
  ·rcases List.mem_cons.1 h with h | h
   ·exact .inl h
   ·exact .inr (List.mem_filter.1 h).1
  ·rcases List.mem_cons.1 h with h | h
   ·exact .inr (h ▸ List.mem_cons_self)
   ·exact (ih h).imp id (List.mem_cons_of_mem _)
theorem aZ7 : ∀ {l : List Pr} (k v : Int), Asc l → Asc (aDj l k v)
 | [], k, v, _ => List.pairwise_singleton _ _
 | p :: l, k, v, h => by
  obtain ⟨h1, h2⟩ := List.pairwise_cons.1 h
  rw [aDj]
  split
  ·rename_i hk
   refine List.pairwise_cons.2 ⟨fun q hq => ?_, List.Pairwise.filter _ h⟩
   have hm := List.mem_filter.1 hq
   have hne : q.1 ≠ k := by simpa using hm.2
   rcases List.mem_cons.1 hm.1 with rfl | h3
   ·show k < _; omega
   have := h1 q h3; show k < _; omega
  rename_i hk
  refine List.pairwise_cons.2 ⟨fun q hq => ?_, aZ7 k v h2⟩
  rcases aZ6 hq with rfl | h3
  ·show _ < k; omega
  exact h1 q h3
theorem nX {l : List Pr} {k v : Int} (h : eP l) (hk : 0 ≤ k ∧ k ≤ 31) (hv : -9999 ≤ v ∧ v ≤ 9999) : eP (aDj l k v) :=
 ⟨fun p hp => by
  rcases aZ6 hp with rfl | hp
  ·exact ⟨hk.1, hk.2, hv⟩
  ·exact h.1 p hp, aZ7 k v h.2⟩
end Ab
end
noncomputable section
set_option maxRecDepth 100000
set_option linter.unusedVariables false
namespace Ab
open Go Go.Lib
open Classical in
def fP (t : ByteArray) : List aI × Bool := if h : ∃ L, fB L ∧ eO L = bs t ∧ t.size ≤ 80 then (h.choose, true) else ([], false)
theorem aVr {t : ByteArray} {y : List aI × Bool} (h : Reads t y) (hs : t.size ≤ 80 ∨ y.2 = false) : y = fP t := by
 unfold fP
 split
 ·rename_i hx
  have k := hx.choose_spec
  exact h.2.2 _ k.1 k.2.1 k.2.2
 rename_i hx
 cases hb : y.2 with
 | true =>
  have k := h.1 hb
  rcases hs with hs | hs
  ·exact absurd ⟨y.1, k.1, k.2, hs⟩ hx
  ·rw [hb] at hs; cases hs
 | false => rw [← h.2.1 hb, ← hb]
theorem iF {t : ByteArray} (h : (fP t).2 = true) : fB (fP t).1 ∧ eO (fP t).1 = bs t ∧ t.size ≤ 80 := by
 unfold fP at h ⊢
 split
 ·rename_i hx; exact hx.choose_spec
 rename_i hx; rw [dif_neg hx] at h; cases h
theorem aVs {t : ByteArray} (h : (fP t).2 = false) : (fP t).1 = [] := by
 unfold fP at h ⊢
 split
 ·rename_i hx; rw [dif_pos hx] at h; cases h
 rfl
theorem bBc (t : ByteArray) : (fP t).1.length ≤ 6 := by
 cases h : (fP t).2 with
 | true => exact (iF h).1.2.1
 | false => rw [aVs h]; exact Nat.zero_le _
def gG (c : bO) : Prop := 0 ≤ c.1 ∧ c.1 ≤ 2 ∧ 1 ≤ c.2.1 ∧ c.2.1 ≤ 99 ∧
 (c.2.2.1 = 1 ∧ (fP c.2.2.2.1).2 = true ∧ c.2.2.2.2.1 = 0 ∧ c.2.2.2.2.2 = 0 ∨ c.2.2.1 = 2 ∧ c.2.2.2.1 = emptyS ∧ 0 ≤ c.2.2.2.2.1 ∧ c.2.2.2.2.1 ≤ 7 ∧ 0 ≤ c.2.2.2.2.2 ∧ c.2.2.2.2.2 ≤ 2)
def lH (x : fT × Int × Int) : fT × Int :=
 if ¬ (0 ≤ x.2.1 ∧ x.2.1 ≤ 7) ∨ ¬ (0 ≤ x.2.2 ∧ x.2.2 ≤ 2) then (x.1, 9)
 else if x.1.1 = 99 then (x.1, 2)
 else if aV x.1.2 x.2.1 = x.2.2 then (x.1, 3)
 else ((x.1.1 + 1, dP x.1.2 x.2.1 x.2.2), 0)
theorem bEl {x : fT × Int × Int} (h : jA x.1) : jA (lH x).1 ∧ 0 ≤ (lH x).2 ∧ (lH x).2 ≤ 9 := by
 unfold lH
 split
 ·exact ⟨h, by simp, by simp⟩
 split
 ·exact ⟨h, by simp, by simp⟩
 split
 ·exact ⟨h, by simp, by simp⟩
 rename_i h1 h2 h3
 refine ⟨⟨?_, ?_, ?_, ?_⟩, by simp, by simp⟩
 ·have := h.1; show 1 ≤ x.1.1 + 1; omega
 ·have := h.2.1; show x.1.1 + 1 ≤ 99; omega
 ·show (dP _ _ _).length = 8; rw [aW]; exact h.2.2.1
 exact aU2 h.2.2.2 (by have : 0 ≤ x.2.2 ∧ x.2.2 ≤ 2 := Decidable.by_contra fun e => h1 (.inr e); exact this)
def aAj (l : List aY) : Prop := l.Pairwise fun a b => a.1 < b.1
def aGv (s : aY) : Prop := 0 ≤ s.1 ∧ s.1 ≤ 2 ∧ 1 ≤ s.2.1 ∧ s.2.1 ≤ 99 ∧ 0 ≤ s.2.2.1 ∧ s.2.2.1 ≤ 9 ∧ s.2.2.2.length ≤ 6 ∧ ∀ v ∈ s.2.2.2, -9999 ≤ v ∧ v ≤ 9999
def mU (l : List aY) : Prop := (∀ s ∈ l, aGv s) ∧ aAj l
def iR : List aY → Int → Int
 | [], _ => 0
 | s :: l, n => if s.1 = n then s.2.1 else iR l n
def iA : List aY → aY → List aY
 | [], s => [s]
 | p :: l, s => if s.1 ≤ p.1 then s :: (p :: l).filter (fun q => decide (q.1 ≠ s.1)) else p :: iA l s
theorem aHx {l : List aY} {s q : aY} (h : q ∈ iA l s) : q = s ∨ q ∈ l ∧ q.1 ≠ s.1 := by
 induction l with
 | nil => exact .inl (List.mem_singleton.1 h)
 | cons p l ih =>
  rw [iA] at h
  split at h
  ·rcases List.mem_cons.1 h with h | h
   ·exact .inl h
   ·have := List.mem_filter.1 h
    exact .inr ⟨this.1, by simpa using this.2⟩
  ·rename_i hk
   rcases List.mem_cons.1 h with h | h
   ·subst h; exact .inr ⟨List.mem_cons_self, by omega⟩
   ·exact (ih h).imp id fun k => ⟨List.mem_cons_of_mem _ k.1, k.2⟩
theorem aOv {l : List aY} {s q : aY} (h : q ∈ l) (hq : q.1 ≠ s.1) : q ∈ iA l s := by
 induction l with
 | nil => cases h
 | cons p l ih =>
  rw [iA]
  split
  ·exact List.mem_cons_of_mem _ (List.mem_filter.2 ⟨h, by simpa using hq⟩)
  ·rcases List.mem_cons.1 h with h | h
   ·exact h ▸ List.mem_cons_self
   ·exact List.mem_cons_of_mem _ (ih h)
theorem bAz (l : List aY) (s : aY) : s ∈ iA l s := by
 induction l with
 | nil => exact List.mem_cons_self
 | cons p l ih =>
  rw [iA]
  split
  ·exact List.mem_cons_self
  ·exact List.mem_cons_of_mem _ ih
theorem bCk (l : List aY) (s : aY) : (iA l s).length ≤ l.length + 1 := by
 induction l with
 | nil => exact Nat.le_refl _
 | cons p l ih =>
  rw [iA]
  split
  ·have := List.length_filter_le (fun q : aY => decide (q.1 ≠ s.1)) (p :: l)
   simp only [List.length_cons] at this ⊢; omega
  ·simp only [List.length_cons]; omega
theorem wU : ∀ {l : List aY} (s : aY), aAj l → aAj (iA l s)
 | [], s, _ => List.pairwise_singleton _ _
 | p :: l, s, h => by
  obtain ⟨h1, h2⟩ := List.pairwise_cons.1 h
  rw [iA]
  split
  ·rename_i hk
   refine List.pairwise_cons.2 ⟨fun q hq => ?_, List.Pairwise.filter _ h⟩
   have hm := List.mem_filter.1 hq
   have hne : q.1 ≠ s.1 := by simpa using hm.2
   rcases List.mem_cons.1 hm.1 with rfl | h3
   ·omega
   have := h1 q h3; omega
  rename_i hk
  refine List.pairwise_cons.2 ⟨fun q hq => ?_, wU s h2⟩
  rcases aHx hq with rfl | h3
  ·omega
  exact h1 q h3.1
theorem aXb : ∀ {l m : List aY}, aAj l → aAj m → (∀ p, p ∈ l ↔ p ∈ m) → l = m
 | [], [], _, _, _ => rfl
 | [], q :: m, _, _, h => by have := (h q).2 List.mem_cons_self; cases this
 | p :: l, [], _, _, h => by have := (h p).1 List.mem_cons_self; cases this
 | p :: l, q :: m, hl, hm, h => by
  obtain ⟨l1, l2⟩ := List.pairwise_cons.1 hl
  obtain ⟨m1, m2⟩ := List.pairwise_cons.1 hm
  have e : p = q := by
   rcases List.mem_cons.1 ((h p).1 List.mem_cons_self) with e | hp
   ·exact e
   ·rcases List.mem_cons.1 ((h q).2 List.mem_cons_self) with e | hq
    ·exact e.symm
    ·have := m1 p hp; have := l1 q hq; omega
  subst e
  rw [aXb l2 m2 fun x => ⟨fun hx => by
   rcases List.mem_cons.1 ((h x).1 (List.mem_cons_of_mem _ hx)) with rfl | h2
   ·have := l1 x hx; omega
   ·exact h2, fun hx => by
   rcases List.mem_cons.1 ((h x).2 (List.mem_cons_of_mem _ hx)) with rfl | h2
   ·have := m1 x hx; omega
   ·exact h2⟩]
theorem aHy {l : List aY} {s q : aY} : q ∈ iA l s ↔ q = s ∨ q ∈ l ∧ q.1 ≠ s.1 :=
 ⟨aHx, fun h => h.elim (fun e => e ▸ bAz l s) fun k => aOv k.1 k.2⟩
theorem bAy {l : List aY} (h : aAj l) {s t : aY} (hne : s.1 ≠ t.1) : iA (iA l s) t = iA (iA l t) s := by
 refine aXb (wU _ (wU _ h)) (wU _ (wU _ h)) fun q => ?_
 rw [aHy, aHy, aHy, aHy]
 constructor
 ·rintro (rfl | ⟨rfl | ⟨h1, h2⟩, h3⟩)
  ·exact .inr ⟨.inl rfl, fun e => hne e.symm⟩
  ·exact .inl rfl
  exact .inr ⟨.inr ⟨h1, h3⟩, h2⟩
 rintro (rfl | ⟨rfl | ⟨h1, h2⟩, h3⟩)
 ·exact .inr ⟨.inl rfl, hne⟩
 ·exact .inl rfl
 exact .inr ⟨.inr ⟨h1, h3⟩, h2⟩
theorem uI {l : List aY} (h : aAj l) {s : aY} (hs : s ∈ l) : iR l s.1 = s.2.1 := by
 induction l with
 | nil => cases hs
 | cons p l ih =>
  obtain ⟨h1, h2⟩ := List.pairwise_cons.1 h
  rcases List.mem_cons.1 hs with rfl | hs
  ·rw [iR, if_pos rfl]
  ·have := h1 s hs
   rw [iR, if_neg (by omega)]; exact ih h2 hs
theorem aKf {l : List aY} {n : Int} (h : ∀ s ∈ l, s.1 ≠ n) : iR l n = 0 := by
 induction l with
 | nil => rfl
 | cons p l ih => rw [iR, if_neg (h p List.mem_cons_self)]; exact ih fun q hq => h q (List.mem_cons_of_mem _ hq)
theorem aFy {l : List aY} (h : aAj l) {s : aY} {n : Int} (hne : n ≠ s.1) : iR (iA l s) n = iR l n := by
 by_cases hx : ∃ q ∈ l, q.1 = n
 ·obtain ⟨q, hq, rfl⟩ := hx
  rw [uI h hq, uI (wU s h) (aOv hq hne)]
 have h0 : ∀ q ∈ l, q.1 ≠ n := fun q hq e => hx ⟨q, hq, e⟩
 rw [aKf h0, aKf fun q hq => by
  rcases aHx hq with rfl | k
  ·exact fun e => hne e.symm
  ·exact h0 q k.1]
def BooksP (b : bC) : Prop := 0 ≤ b.1 ∧ b.1 ≤ 60 ∧ jA (b.2.1, b.2.2.1) ∧ nT b.2.2.2.1 ∧ mU b.2.2.2.2
def jS : bC := (0, (0, ([], ([], []))))
def lD (b : bC) (c : bO) : Int × List Int × (Int → Option Int) := iB (fP c.2.2.2.1).1 (fO b.2.2.2.1) (fun _ => none) []
open Classical in
def doM (x : bC × bO) : bC :=
 if BooksP x.1 ∧ x.1.1 < 60 then
  if gG x.2 ∧ iR x.1.2.2.2.2 x.2.1 < x.2.2.1 then
   if x.2.2.2.1 = 2 then
    (x.1.1 + 1, ((lH ((x.1.2.1, x.1.2.2.1), x.2.2.2.2.2)).1.1, ((lH ((x.1.2.1, x.1.2.2.1), x.2.2.2.2.2)).1.2, (x.1.2.2.2.1, iA x.1.2.2.2.2 (x.2.1, (x.2.2.1, ((lH ((x.1.2.1, x.1.2.2.1), x.2.2.2.2.2)).2, [])))))))
   else
    (x.1.1 + 1, (x.1.2.1, (x.1.2.2.1, (rowOf (after (fO x.1.2.2.2.1) (lD x.1 x.2).2.2), iA x.1.2.2.2.2 (x.2.1, (x.2.2.1, ((lD x.1 x.2).1, (lD x.1 x.2).2.1)))))))
  else (x.1.1 + 1, x.1.2)
 else jS
theorem wC {l : List Pr} (h : eP l) (k : Int) : -9999 ≤ fO l k ∧ fO l k ≤ 9999 := by
 unfold fO
 cases hg : gH l k with
 | none => simp
 | some v => have := h.1 _ (aRw hg); simp only [Option.getD_some]; omega
theorem bF3 {b : bC} {c : bO} (h : nT b.2.2.2.1) : (0 ≤ (lD b c).1 ∧ (lD b c).1 ≤ 2) ∧ (∀ v ∈ (lD b c).2.1, -9999 ≤ v ∧ v ≤ 9999) ∧ (∀ k v, (lD b c).2.2 k = some v → -9999 ≤ v ∧ v ≤ 9999) ∧ (lD b c).2.1.length ≤ 6 := by
 have := aIc (fP c.2.2.2.1).1 (fO b.2.2.2.1) (fun _ => none) [] (wC h.1) (by simp) (by simp)
 have hl := aId (fP c.2.2.2.1).1 (fO b.2.2.2.1) (fun _ => none) []
 have h6 := bBc c.2.2.2.1
 exact ⟨this.1, this.2.1, this.2.2, by unfold lD; simp only [List.length_nil] at hl; omega⟩
theorem bFk {f : Int → Int} {c : Int → Option Int} (hf : ∀ k, -9999 ≤ f k ∧ f k ≤ 9999) (hc : ∀ k v, c k = some v → -9999 ≤ v ∧ v ≤ 9999) (k : Int) : -9999 ≤ after f c k ∧ after f c k ≤ 9999 := by
 unfold after
 cases h : c k with
 | none => exact hf k
 | some v => exact hc k v h
theorem aM8 {l : List aY} {s : aY} (h : mU l) (hs : aGv s) : mU (iA l s) :=
 ⟨fun q hq => by
  rcases aHx hq with rfl | k
  ·exact hs
  ·exact h.1 q k.1, wU s h.2⟩
theorem aHm {x : bC × bO} (h : BooksP x.1) (h60 : x.1.1 < 60) : BooksP (doM x) ∧ (doM x).1 = x.1.1 + 1 := by
 obtain ⟨h0, h1, h2, h3, h4⟩ := h
 unfold doM
 rw [if_pos ⟨⟨h0, h1, h2, h3, h4⟩, h60⟩]
 split
 ·rename_i hc
  obtain ⟨⟨c1, c2, c3, c4, _⟩, hl⟩ := hc
  split
  ·have hm := bEl (x := ((x.1.2.1, x.1.2.2.1), x.2.2.2.2.2)) h2
   exact ⟨⟨by show 0 ≤ x.1.1 + 1; omega, by show x.1.1 + 1 ≤ 60; omega, hm.1, h3, aM8 h4 ⟨c1, c2, c3, c4, hm.2.1, hm.2.2, by simp, by simp⟩⟩, rfl⟩
  have hr := bF3 (b := x.1) (c := x.2) h3
  exact ⟨⟨by show 0 ≤ x.1.1 + 1; omega, by show x.1.1 + 1 ≤ 60; omega, h2, aVn fun j _ _ => bFk (wC h3.1) hr.2.2.1 j, aM8 h4 ⟨c1, c2, c3, c4, hr.1.1, by have := hr.1.2; show (lD x.1 x.2).1 ≤ 9; omega, hr.2.2.2, hr.2.1⟩⟩, rfl⟩
 exact ⟨⟨by show 0 ≤ x.1.1 + 1; omega, by show x.1.1 + 1 ≤ 60; omega, h2, h3, h4⟩, rfl⟩
end Ab
end
section
set_option maxRecDepth 100000
set_option linter.unusedVariables false
namespace Ab
open Go Go.Lib
theorem iC {r : Ty} {xs : List r.T} {i : Int} (h2 : i.toNat < xs.length) : iG r xs i = xs[i.toNat] := by
 unfold iG; rw [List.getD_eq_getElem?_getD, List.getElem?_eq_getElem h2]; rfl
theorem aE0 {x : Int} (h : 0 ≤ x) : bs (dec x.toNat) = itoa x := by
 rw [xX]; unfold itoa; rw [if_neg (by omega)]
theorem aRr {x : Int} (h : x < 0) (h2 : -1000000 ≤ x) : (⟨#[45]⟩ : ByteArray) ++ dec (aG (0 - x)).toNat = bEh (itoa x) := by
 apply oK
 rw [oL, aSa, xX, show (aG (0 - x)).toNat = x.natAbs by rw [aG, dD (by omega) (by omega)]; omega]
 unfold itoa; rw [if_pos h]; rfl
theorem bEk {k : Int} (h1 : 1 ≤ k) (h2 : k ≤ 4) : bs (gP ([emptyS, (⟨#[103, 101, 116, 32]⟩ : ByteArray), (⟨#[112, 117, 116, 32]⟩ : ByteArray), (⟨#[97, 100, 100, 32]⟩ : ByteArray), (⟨#[110, 101, 101, 100, 32]⟩ : ByteArray)] : List ByteArray) k) = mY k ++ [32] := by
 have : k = 1 ∨ k = 2 ∨ k = 3 ∨ k = 4 := by omega
 rcases this with rfl | rfl | rfl | rfl <;> rfl
theorem bBx {j k : Int} (h1 : 1 ≤ j) (h2 : j ≤ 4) (h3 : 1 ≤ k) (h4 : k ≤ 4) (h : mY j = mY k) : j = k := by
 have a : j = 1 ∨ j = 2 ∨ j = 3 ∨ j = 4 := by omega
 have b : k = 1 ∨ k = 2 ∨ k = 3 ∨ k = 4 := by omega
 rcases a with rfl | rfl | rfl | rfl <;> rcases b with rfl | rfl | rfl | rfl <;> first | rfl | (exfalso; revert h; decide)
theorem bAp {xs : List ByteArray} {i : Int} (h1 : 0 ≤ i) (h2 : i < (xs.length : Int)) : (xs.map bs)[i.toNat]? = some (bs (gP xs i)) := by
 rw [List.getElem?_map, show xs[i.toNat]? = some (gP xs i) from by
  have hi : i.toNat < xs.length := by omega
  unfold gP iG
  rw [List.getD_eq_getElem?_getD, List.getElem?_eq_getElem hi]; rfl]
 rfl
theorem byte_at {s : ByteArray} {i : Int} (h1 : 0 ≤ i) (h2 : i < (s.size : Int)) : ∃ b, (bs s)[i.toNat]? = some b ∧ iH s i = (b.toNat : Int) := by
 have hi : i.toNat < s.data.size := by have : s.size = s.data.size := rfl; omega
 refine ⟨s.data[i.toNat], ?_, ?_⟩
 ·unfold bs; rw [Array.getElem?_toList, Array.getElem?_eq_getElem hi]
 unfold iH; rw [Array.getD_eq_getD_getElem?, Array.getElem?_eq_getElem hi]; rfl
theorem aUk {s : ByteArray} {lo hi : Int} (h1 : 0 ≤ lo) (h2 : lo ≤ hi) (h3 : hi ≤ (s.size : Int)) : bs (aHn s lo hi) = ((bs s).take hi.toNat).drop lo.toNat := by
 unfold bs aHn
 rw [ByteArray.data_extract, Array.toList_extract, List.extract_eq_take_drop, List.drop_take]
theorem bA0 {α : Type} {l : List α} {i : Int} {b : α} (h1 : 0 ≤ i) (h : l[i.toNat]? = some b) : l.take (i + 1).toNat = l.take i.toNat ++ [b] := by
 rw [show (i + 1).toNat = i.toNat + 1 by omega, List.take_add_one, h]; rfl
theorem aW7 {l : Bs} {a : UInt8} {i f : Int} {b : UInt8} {out : List Bs} (h0 : 0 ≤ f) (h1 : f ≤ i) (hb : l[i.toNat]? = some b) (h : mH a (l.take i.toNat) = out ++ [(l.take i.toNat).drop f.toNat]) :
  mH a (l.take (i + 1).toNat) = if b = a then (out ++ [(l.take i.toNat).drop f.toNat]) ++ [(l.take (i + 1).toNat).drop (i + 1).toNat] else out ++ [(l.take (i + 1).toNat).drop f.toNat] := by
 have hi : i.toNat < l.length := (List.getElem?_eq_some_iff.1 hb).1
 rw [bA0 (by omega) hb, aR7, h]
 have hd : (l.take i.toNat ++ [b]).drop (i + 1).toNat = [] := List.drop_of_length_le (by simp; omega)
 have hf : (l.take i.toNat ++ [b]).drop f.toNat = (l.take i.toNat).drop f.toNat ++ [b] := by
  rw [List.drop_append_of_le_length (by simp; omega)]
 rw [hd, hf]
 split
 ·rfl
 simp
theorem lN {x : List aN} (h : Asc x) {k : Int} (h1 : 1 ≤ k) (h2 : k < (x.length : Int)) : (bM x (k - 1)).1 < (bM x k).1 := by
 unfold Asc at h
 rw [List.pairwise_iff_getElem] at h
 have := h (k - 1).toNat k.toNat (by omega) (by omega) (by omega)
 have e1 : bM x k = x[k.toNat]'(by omega) := iC (r := bS) (xs := x) (i := k) (by show k.toNat < x.length; omega)
 have e2 : bM x (k - 1) = x[(k - 1).toNat]'(by omega) := iC (r := bS) (xs := x) (i := k - 1) (by show (k - 1).toNat < x.length; omega)
 rw [e1, e2]; exact this
theorem oH {x : List aY} (h : aAj x) {k : Int} (h1 : 1 ≤ k) (h2 : k < (x.length : Int)) : (aS x (k - 1)).1 < (aS x k).1 := by
 unfold aAj at h
 rw [List.pairwise_iff_getElem] at h
 have := h (k - 1).toNat k.toNat (by omega) (by omega) (by omega)
 have e1 : aS x k = x[k.toNat]'(by omega) := iC (r := fU) (xs := x) (i := k) (by show k.toNat < x.length; omega)
 have e2 : aS x (k - 1) = x[(k - 1).toNat]'(by omega) := iC (r := fU) (xs := x) (i := k - 1) (by show (k - 1).toNat < x.length; omega)
 rw [e1, e2]; exact this
theorem aF5 {x : List aN} {i : Int} (h1 : 0 ≤ i) (h2 : i < (x.length : Int)) : x.drop i.toNat = bM x i :: x.drop (i + 1).toNat := drop_at (r := bS) h1 h2
theorem aKn {x : List aY} {i : Int} (h1 : 0 ≤ i) (h2 : i < (x.length : Int)) : x.drop i.toNat = aS x i :: x.drop (i + 1).toNat := drop_at (r := fU) h1 h2
theorem aO6 {x : List aI} {i : Int} (h1 : 0 ≤ i) (h2 : i < (x.length : Int)) : x.drop i.toNat = aJ x i :: x.drop (i + 1).toNat := drop_at (r := bZ) h1 h2
theorem bB2 {x : List aN} {i k : Int} (h1 : 0 ≤ i) (h2 : i < (x.length : Int)) : fO (x.drop i.toNat) k = if (bM x i).1 = k then (bM x i).2 else fO (x.drop (i + 1).toNat) k := by
 rw [aF5 h1 h2]; unfold fO; rw [gH]; split <;> rfl
theorem bE1 {x : List aN} {i k : Int} (h : (x.length : Int) ≤ i) : fO (x.drop i.toNat) k = 0 := by rw [aA9 h]; rfl
theorem bBz {x : List aY} {i k : Int} (h1 : 0 ≤ i) (h2 : i < (x.length : Int)) : iR (x.drop i.toNat) k = if (aS x i).1 = k then (aS x i).2.1 else iR (x.drop (i + 1).toNat) k := by
 rw [aKn h1 h2, iR]
theorem bEs {x : List aY} {i k : Int} (h : (x.length : Int) ≤ i) : iR (x.drop i.toNat) k = 0 := by rw [aA9 h]; rfl
theorem aO7 {α : Type} (x : List α) : x.drop (0 : Int).toNat = x := rfl
theorem aRx : ∀ (l : List aN) (p : aN) (k : Int), gH (l ++ [p]) k = match gH l k with | some v => some v | none => if p.1 = k then some p.2 else none
 | [], p, k => rfl
 | q :: l, p, k => by
  rw [List.cons_append, gH, gH, aRx l p k]
  split <;> rfl
theorem fZ {x : List aN} {i k : Int} (ha : Asc x) (h1 : 0 ≤ i) (h2 : i < (x.length : Int)) : gH (x.take (i + 1).toNat) k = if (bM x i).1 = k then some (bM x i).2 else gH (x.take i.toNat) k := by
 rw [wF h1 h2, aRx]
 have hs : x = x.take i.toNat ++ bM x i :: x.drop (i + 1).toNat := by rw [← aF5 h1 h2, List.take_append_drop]
 unfold Asc at ha
 rw [hs] at ha
 have hp := (List.pairwise_append.1 ha).2.2
 by_cases h : (bM x i).1 = k
 ·rw [if_pos h, if_pos h, aKk fun p hp' => by have := hp p hp' _ List.mem_cons_self; omega]
 rw [if_neg h, if_neg h]
 cases gH (x.take i.toNat) k <;> rfl
theorem aTc (l : List Pr) (k v : Int) : gH (aDj l k v) = aSr (gH l) k v := funext fun j => by rw [aO4]; rfl
theorem aNq (l : List Pr) (k v : Int) : fO (aDj l k v) = upd (fO l) k v := funext fun j => by
 unfold fO upd; rw [aO4]; split <;> rfl
theorem iD : gH [] = fun _ => none := rfl
theorem aA0 {x : List aI} {i : Int} {f : Int → Int} {c : Int → Option Int} {g : List Int} (h1 : 0 ≤ i) (h2 : i < (x.length : Int)) : iB (x.drop i.toNat) f c g =
  if (aJ x i).1 = 1 then iB (x.drop (i + 1).toNat) f c (g ++ [f (aJ x i).2.1])
  else if (aJ x i).1 = 4 then (if f (aJ x i).2.1 < (aJ x i).2.2 then (1, [], fun _ => none) else iB (x.drop (i + 1).toNat) f c g)
  else if -9999 ≤ pO f (aJ x i) ∧ pO f (aJ x i) ≤ 9999 then iB (x.drop (i + 1).toNat) (upd f (aJ x i).2.1 (pO f (aJ x i))) (aSr c (aJ x i).2.1 (pO f (aJ x i))) g else (2, [], fun _ => none) := by
 rw [aO6 h1 h2, iB]
theorem run_end {x : List aI} {i : Int} {f : Int → Int} {c : Int → Option Int} {g : List Int} (h : (x.length : Int) ≤ i) : iB (x.drop i.toNat) f c g = (0, g, c) := by rw [aA9 h]; rfl
def aBg (l : List Int) : Prop := l.length ≤ 6 ∧ ∀ v ∈ l, -9999 ≤ v ∧ v ≤ 9999
theorem eU {h : Int → Int} {k : Int} (h0 : 0 ≤ k) (h1 : k < 32) : rowFrom h (32 - k).toNat k.toNat = if h k = 0 then rowFrom h (32 - (k + 1)).toNat (k + 1).toNat else (k, h k) :: rowFrom h (32 - (k + 1)).toNat (k + 1).toNat := by
 rw [show (32 - k).toNat = (32 - (k + 1)).toNat + 1 by omega, rowFrom, show ((k.toNat : Nat) : Int) = k by omega, show k.toNat + 1 = (k + 1).toNat by omega]
theorem fC {h : Int → Int} {k : Int} (h1 : 32 ≤ k) : rowFrom h (32 - k).toNat k.toNat = [] := by rw [show (32 - k).toNat = 0 by omega]; rfl
theorem aJ3 : eP [] := ⟨fun _ h => (by cases h), List.Pairwise.nil⟩
def PairsPre (x : List aN) (i : Int) : Prop := (∀ p ∈ x.take i.toNat, 0 ≤ p.1 ∧ p.1 ≤ 31 ∧ -9999 ≤ p.2 ∧ p.2 ≤ 9999) ∧ Asc (x.take i.toNat)
theorem PairsPre.zero (x : List aN) : PairsPre x 0 := ⟨fun _ h => (by cases h), List.Pairwise.nil⟩
theorem PairsPre.step {x : List aN} {i : Int} (h : PairsPre x i) (h1 : 0 ≤ i) (h2 : i < (x.length : Int)) (hb : let p := bM x i; 0 ≤ p.1 ∧ p.1 ≤ 31 ∧ -9999 ≤ p.2 ∧ p.2 ≤ 9999) (hk : 0 < i → (bM x (i - 1)).1 < (bM x i).1) : PairsPre x (i + 1) := by
 refine ⟨?_, ?_⟩
 ·rw [wF h1 h2]; exact aMs h.1 (aMk hb)
 rw [wF h1 h2]
 refine List.pairwise_append.2 ⟨h.2, List.pairwise_singleton _ _, fun a ha b hb => ?_⟩
 rw [List.mem_singleton.1 hb]
 by_cases h0 : i = 0
 ·subst h0; cases ha
 have hk := hk (by omega)
 have e := wF (xs := x) (i := i - 1) (by omega) (by omega)
 rw [show i - 1 + 1 = i by omega] at e
 have h3 := h.2
 unfold Asc at h3
 rw [e] at ha h3
 rcases List.mem_append.1 ha with ha | ha
 ·have := (List.pairwise_append.1 h3).2.2 a ha _ List.mem_cons_self; omega
 rw [List.mem_singleton.1 ha]; exact hk
theorem PairsPre.all {x : List aN} {i : Int} (h : PairsPre x i) (h1 : (x.length : Int) ≤ i) : eP x := by
 unfold PairsPre at h; rw [bY h1] at h; exact h
def SaidsPre (x : List aY) (i : Int) : Prop := (∀ p ∈ x.take i.toNat, aGv p) ∧ aAj (x.take i.toNat)
theorem SaidsPre.zero (x : List aY) : SaidsPre x 0 := ⟨fun _ h => (by cases h), List.Pairwise.nil⟩
theorem SaidsPre.step {x : List aY} {i : Int} (h : SaidsPre x i) (h1 : 0 ≤ i) (h2 : i < (x.length : Int)) (hb : let p := aS x i; aGv p) (hk : 0 < i → (aS x (i - 1)).1 < (aS x i).1) : SaidsPre x (i + 1) := by
 refine ⟨?_, ?_⟩
 ·rw [aAo h1 h2]; exact aMs h.1 (aMk hb)
 rw [aAo h1 h2]
 refine List.pairwise_append.2 ⟨h.2, List.pairwise_singleton _ _, fun a ha b hb => ?_⟩
 rw [List.mem_singleton.1 hb]
 by_cases h0 : i = 0
 ·subst h0; cases ha
 have hk := hk (by omega)
 have e := aAo (xs := x) (i := i - 1) (by omega) (by omega)
 rw [show i - 1 + 1 = i by omega] at e
 have h3 := h.2
 unfold aAj at h3
 rw [e] at ha h3
 rcases List.mem_append.1 ha with ha | ha
 ·have := (List.pairwise_append.1 h3).2.2 a ha _ List.mem_cons_self; omega
 rw [List.mem_singleton.1 ha]; exact hk
theorem SaidsPre.all {x : List aY} {i : Int} (h : SaidsPre x i) (h1 : (x.length : Int) ≤ i) : mU x := by
 unfold SaidsPre at h; rw [bY h1] at h; exact h
end Ab
end
section
set_option maxRecDepth 100000
set_option linter.unusedVariables false
namespace Ab
open Go Go.Lib
theorem jP : bs emptyS = [] := rfl
theorem aHo {s : ByteArray} (h : bs s = []) : s = emptyS := oK h
theorem aKi {a n d : ByteArray} {k key : Int} (hn : bs n = mY k ++ [32]) (hd : bs d = itoa key) : bs ((a ++ n) ++ d) = bs a ++ (mY k ++ 32 :: itoa key) := by
 rw [oL, oL, hn, hd]; simp
theorem aM4 {x : List aI} {i : Int} (h1 : 0 ≤ i) (h2 : i < (x.length : Int)) : eO (x.take (i + 1).toNat) = eO (x.take i.toNat) ++ (kX (aJ x i) ++ [59]) := by
 rw [kU h1 h2, aM5]; simp [eO]
theorem aU0 {x : List aI} {i : Int} {a z r : ByteArray} (h1 : 0 ≤ i) (h2 : i < (x.length : Int)) (ha : bs a = eO (x.take i.toNat)) (hz : bs z = bs a ++ (mY (aJ x i).1 ++ 32 :: itoa (aJ x i).2.1)) (hr : bs r = itoa (aJ x i).2.2)
  (hd : (aJ x i).1 ≠ 1) : bs (((z ++ (⟨#[32]⟩ : ByteArray)) ++ r) ++ (⟨#[59]⟩ : ByteArray)) = eO (x.take (i + 1).toNat) := by
 rw [aM4 h1 h2, ← ha, oL, oL, oL, hz, hr]
 unfold kX
 rw [if_neg hd]
 have e1 : bs (⟨#[32]⟩ : ByteArray) = [32] := rfl
 have e2 : bs (⟨#[59]⟩ : ByteArray) = [59] := rfl
 rw [e1, e2]; simp
theorem aU1 {x : List aI} {i : Int} {a z : ByteArray} (h1 : 0 ≤ i) (h2 : i < (x.length : Int)) (ha : bs a = eO (x.take i.toNat)) (hz : bs z = bs a ++ (mY (aJ x i).1 ++ 32 :: itoa (aJ x i).2.1))
  (hd : (aJ x i).1 = 1) : bs (z ++ (⟨#[59]⟩ : ByteArray)) = eO (x.take (i + 1).toNat) := by
 rw [aM4 h1 h2, ← ha, oL, hz]
 unfold kX
 rw [if_pos hd]
 have e2 : bs (⟨#[59]⟩ : ByteArray) = [59] := rfl
 rw [e2]; simp
theorem wR {L : List aI} (h : fB L) : eO L ≠ [] := by
 cases L with
 | nil => have := h.1; simp at this
 | cons a l => simp [eO]
theorem bAo {s : ByteArray} {i c : Int} (h1 : 0 ≤ i) (h2 : i < (s.size : Int)) (c0 : 0 ≤ c) (c1 : c ≤ 255) : ∃ b, (bs s)[i.toNat]? = some b ∧ (iH s i = c ↔ b = UInt8.ofNat c.toNat) := by
 obtain ⟨b, hb, e⟩ := byte_at h1 h2
 refine ⟨b, hb, ?_⟩
 rw [e]
 have hu : (UInt8.ofNat c.toNat).toNat = c.toNat := by rw [UInt8.toNat_ofNat']; omega
 constructor
 ·intro h; apply UInt8.toNat_inj.1; rw [hu]; omega
 intro h; rw [h, hu]; omega
theorem bAl {s : ByteArray} {c i f : Int} {out : List ByteArray} (h0 : 0 ≤ f) (h1 : f ≤ i) (h2 : i < (s.size : Int)) (c0 : 0 ≤ c) (c1 : c ≤ 255) (hb : iH s i = c)
  (h : mH (UInt8.ofNat c.toNat) ((bs s).take i.toNat) = out.map bs ++ [((bs s).take i.toNat).drop f.toNat]) :
  mH (UInt8.ofNat c.toNat) ((bs s).take (i + 1).toNat) = (out ++ [aHn s f i]).map bs ++ [((bs s).take (i + 1).toNat).drop (i + 1).toNat] := by
 obtain ⟨b, hb1, hb2⟩ := bAo (s := s) (i := i) (c := c) (by omega) h2 c0 c1
 rw [aW7 h0 h1 hb1 h, if_pos (hb2.1 hb), List.map_append, List.map_cons, List.map_nil, aUk h0 h1 (by omega)]
theorem bFa {s : ByteArray} {c i f : Int} {out : List ByteArray} (h0 : 0 ≤ f) (h1 : f ≤ i) (h2 : i < (s.size : Int)) (c0 : 0 ≤ c) (c1 : c ≤ 255) (hb : iH s i ≠ c)
  (h : mH (UInt8.ofNat c.toNat) ((bs s).take i.toNat) = out.map bs ++ [((bs s).take i.toNat).drop f.toNat]) :
  mH (UInt8.ofNat c.toNat) ((bs s).take (i + 1).toNat) = out.map bs ++ [((bs s).take (i + 1).toNat).drop f.toNat] := by
 obtain ⟨b, hb1, hb2⟩ := bAo (s := s) (i := i) (c := c) (by omega) h2 c0 c1
 rw [aW7 h0 h1 hb1 h, if_neg fun e => hb (hb2.2 e)]
theorem bG4 {s : ByteArray} {c i f : Int} {out : List ByteArray} (h0 : 0 ≤ f) (h1 : f ≤ i) (h2 : i = (s.size : Int))
  (h : mH (UInt8.ofNat c.toNat) ((bs s).take i.toNat) = out.map bs ++ [((bs s).take i.toNat).drop f.toNat]) :
  (out ++ [aHn s f (s.size : Int)]).map bs = mH (UInt8.ofNat c.toNat) (bs s) := by
 subst h2
 have e : (bs s).take (s.size : Int).toNat = bs s := List.take_of_length_le (by rw [oF]; simp)
 rw [List.map_append, List.map_cons, List.map_nil, aUk h0 h1 (Int.le_refl _)]
 rw [e] at h ⊢
 exact h.symm
def Words (ws : List ByteArray) (s : aI) : Prop := ws.map bs = if s.1 = 1 then [mY s.1, itoa s.2.1] else [mY s.1, itoa s.2.1, itoa s.2.2]
theorem Words.len {ws : List ByteArray} {s : aI} (h : Words ws s) : ws.length = if s.1 = 1 then 2 else 3 := by
 unfold Words at h
 have := congrArg List.length h
 rw [List.length_map] at this
 rw [this]; split <;> rfl
theorem Words.w0 {ws : List ByteArray} {s : aI} (h : Words ws s) : bs (gP ws 0) = mY s.1 := by
 have hl := h.len
 have := bAp (xs := ws) (i := 0) (by omega) (by split at hl <;> omega)
 unfold Words at h
 rw [h] at this
 split at this <;> exact (Option.some.inj this).symm
theorem Words.w1 {ws : List ByteArray} {s : aI} (h : Words ws s) : bs (gP ws 1) = itoa s.2.1 := by
 have hl := h.len
 have := bAp (xs := ws) (i := 1) (by omega) (by split at hl <;> omega)
 unfold Words at h
 rw [h] at this
 split at this <;> exact (Option.some.inj this).symm
theorem Words.w2 {ws : List ByteArray} {s : aI} (h : Words ws s) (h1 : s.1 ≠ 1) : bs (gP ws 2) = itoa s.2.2 := by
 have hl := h.len
 rw [if_neg h1] at hl
 have := bAp (xs := ws) (i := 2) (by omega) (by omega)
 unfold Words at h
 rw [h, if_neg h1] at this
 exact (Option.some.inj this).symm
theorem Words.of {ws : List ByteArray} {p : ByteArray} {s : aI} (h : ws.map bs = mH 32 (bs p)) (hp : bs p = kX s) : Words ws s := by
 unfold Words; rw [h, hp, bE9]
theorem bGi {ps : List ByteArray} {L : List aI} {i : Int} (h : ps.map bs = L.map kX ++ [[]]) (h1 : 0 ≤ i) (h2 : i + 1 < (ps.length : Int)) : i < (L.length : Int) ∧ bs (gP ps i) = kX (aJ L i) := by
 have hl := congrArg List.length h
 simp only [List.length_map, List.length_append, List.length_cons, List.length_nil] at hl
 have hi : i < (L.length : Int) := by omega
 refine ⟨hi, ?_⟩
 have := bAp (xs := ps) (i := i) h1 (by omega)
 have e : aJ L i = L[i.toNat]'(by omega) := iC (r := bZ) (xs := L) (i := i) (by show i.toNat < L.length; omega)
 rw [h, List.getElem?_append_left (by simp; omega), List.getElem?_map, List.getElem?_eq_getElem (by omega)] at this
 rw [e]
 exact (Option.some.inj this).symm
theorem gL {ps : List ByteArray} {L : List aI} (h : ps.map bs = L.map kX ++ [[]]) : ps.length = L.length + 1 := by
 have hl := congrArg List.length h
 simpa using hl
theorem aFv {w n : ByteArray} {j k : Int} (hw : bs w = mY j) (hn : bs n = mY k) (h1 : 1 ≤ j) (h2 : j ≤ 4) (h3 : 1 ≤ k) (h4 : k ≤ 4) : eqS w n = decide (j = k) := by
 rw [Bool.eq_iff_iff, dR, decide_eq_true_eq]
 constructor
 ·intro e; rw [e, hn] at hw; exact (bBx h3 h4 h1 h2 hw).symm
 intro e; rw [e] at hw; exact oK (hw.trans hn.symm)
theorem aT6 {k : Int} (h1 : 1 ≤ k) (h2 : k ≤ 4) : bs (gP ([emptyS, (⟨#[103, 101, 116]⟩ : ByteArray), (⟨#[112, 117, 116]⟩ : ByteArray), (⟨#[97, 100, 100]⟩ : ByteArray), (⟨#[110, 101, 101, 100]⟩ : ByteArray)] : List ByteArray) k) = mY k := by
 have : k = 1 ∨ k = 2 ∨ k = 3 ∨ k = 4 := by omega
 rcases this with rfl | rfl | rfl | rfl <;> rfl
theorem jF {t : ByteArray} {m : Nat} {i : Int} (h : bs t = decDigits m) (h1 : 0 ≤ i) (h2 : i < (t.size : Int)) : 48 ≤ iH t i ∧ iH t i ≤ 57 := by
 obtain ⟨b, hb, e⟩ := byte_at h1 h2
 have := xW m b (by rw [← h]; exact List.mem_of_getElem? hb)
 unfold aLo at this
 omega
theorem eQ {t : ByteArray} {m : Nat} (h : bs t = decDigits m) (hm : m ≤ 99999) : 1 ≤ t.size ∧ t.size ≤ 5 := by
 rw [oF, h]
 have h1 := aF6 m
 have h2 := uL 4 m (by omega)
 rw [oF, xX] at h2
 refine ⟨?_, h2⟩
 cases hd : decDigits m with
 | nil => exact absurd hd h1
 | cons => simp
theorem fH {x : ByteArray} {n : Int} (h : bs x = itoa n) : 0 < x.size ∧ ((iH x 0 == 45) = decide (n < 0)) := by
 have hs : 0 < x.size := by
  rw [oF, h]; unfold itoa
  have := aF6 n.toNat
  split
  ·simp
  ·cases hd : decDigits n.toNat with
   | nil => exact absurd hd this
   | cons => simp
 refine ⟨hs, ?_⟩
 obtain ⟨b, hb, e⟩ := byte_at (s := x) (i := 0) (by omega) (by omega)
 rw [e]
 rw [h] at hb
 unfold itoa at hb
 by_cases hn : n < 0
 ·rw [if_pos hn] at hb
  have hb : some (45 : UInt8) = some b := hb
  cases hb
  simp [hn]
 rw [if_neg hn] at hb
 have hd := xW n.toNat b (List.mem_of_getElem? hb)
 unfold aLo at hd
 have : ¬ ((b.toNat : Int) = 45) := by omega
 rw [decide_eq_false hn]
 simpa using this
theorem mQ {x : ByteArray} {n : Int} (h : bs x = itoa n) (hn : n < 0) : bs (aHn x 1 (x.size : Int)) = decDigits n.natAbs := by
 have hs := (fH h).1
 have e : (bs x).take (x.size : Int).toNat = bs x := List.take_of_length_le (by rw [oF]; simp)
 rw [aUk (by omega) (by omega) (Int.le_refl _), e, h]
 unfold itoa; rw [if_pos hn]; rfl
theorem oV {x : ByteArray} {n : Int} (h : bs x = itoa n) (hn : ¬ n < 0) : bs x = decDigits n.natAbs := by
 rw [h]; unfold itoa; rw [if_neg hn, show n.toNat = n.natAbs by omega]
theorem bBv {t : ByteArray} {i m : Int} (h1 : 0 ≤ i) (h2 : i < (t.size : Int)) (hm : 0 ≤ m) (hb : 48 ≤ iH t i) (hc : iH t i ≤ 57) (h : decFrom 0 ((bs t).take i.toNat) = some m.toNat) :
  decFrom 0 ((bs t).take (i + 1).toNat) = some (m * 10 + (iH t i - 48)).toNat := by
 obtain ⟨b, hb1, e⟩ := byte_at h1 h2
 rw [show (i + 1).toNat = i.toNat + 1 by omega, decFrom_take (bs t) i.toNat 0 m.toNat b (b.toNat - 48) h hb1 (by unfold digitVal; rw [if_pos (by omega)])]
 congr 1; omega
theorem tJ {t : ByteArray} {i m : Int} {k : Nat} (h1 : (t.size : Int) ≤ i) (hm : 0 ≤ m) (h : decFrom 0 ((bs t).take i.toNat) = some m.toNat) (hk : bs t = decDigits k) : m = k := by
 rw [List.take_of_length_le (by rw [oF] at h1; omega), hk, aE5] at h
 have := Option.some.inj h; omega
end Ab
end
section
set_option maxRecDepth 100000
set_option linter.unusedVariables false
namespace Ab
open Go Go.Lib
def bFo (c : bO) : Prop := 0 ≤ c.1 ∧ c.1 ≤ 2 ∧ 1 ≤ c.2.1 ∧ c.2.1 ≤ 99 ∧
 (c.2.2.1 = 1 ∧ c.2.2.2.2.1 = 0 ∧ c.2.2.2.2.2 = 0 ∧ c.2.2.2.1.size ≤ 80 ∨ c.2.2.1 = 2 ∧ c.2.2.2.1 = emptyS ∧ 0 ≤ c.2.2.2.2.1 ∧ c.2.2.2.2.1 ≤ 7 ∧ 0 ≤ c.2.2.2.2.2 ∧ c.2.2.2.2.2 ≤ 2)
theorem aX8 {t : ByteArray} (h : (fP t).2 = true) : t.size ≤ 80 := (iF h).2.2
theorem bA9 {l : List aY} (h : mU l) : l.length ≤ 3 := by
 have : ∀ (l : List aY) (n : Nat), aAj l → (∀ p ∈ l, (3 : Int) - n ≤ p.1 ∧ p.1 < 3) → l.length ≤ n := by
  intro l
  induction l with
  | nil => intro n _ _; exact Nat.zero_le _
  | cons p l ih =>
   intro n ha hb
   obtain ⟨h1, h2⟩ := List.pairwise_cons.1 ha
   have hp := hb p List.mem_cons_self
   obtain ⟨m, rfl⟩ : ∃ m, n = m + 1 := ⟨n - 1, by omega⟩
   have := ih m h2 fun q hq => by
    have := h1 q hq; have := hb q (List.mem_cons_of_mem _ hq); omega
   simp only [List.length_cons]; omega
 exact this l 3 h.2 fun p hp => by have := h.1 p hp; unfold aGv at this; omega
theorem BooksP.w {b : bC} (h : BooksP b) : BooksW b := by
 obtain ⟨h0, h1, h2, h3, h4⟩ := h
 have e1 : b.2.2.1.length = 8 := h2.2.2.1
 have e2 := fK h3.1
 have e3 := bA9 h4
 exact ⟨by omega, by omega, by omega, fun s hs => by have := (h4.1 s hs).2.2.2.2.2.2.1; omega⟩
theorem BooksW.of_eq {b c : bC} (h : BooksP b) (e : b = c) : BooksW c := e ▸ h.w
theorem vW {α : Type} {x : List α} (h : Nat.beq x.length 0 = true) : x = [] := List.eq_nil_of_length_eq_zero (Nat.eq_of_beq_eq_true h)
def mV (l : List aY) (n : Int) (y : Int × Bool) : Prop := 0 ≤ y.1 ∧ y.1 ≤ (l.length : Int) ∧ (∀ k : Int, 0 ≤ k → k < y.1 → (aS l k).1 < n) ∧ (∀ k : Int, y.1 ≤ k → k < (l.length : Int) → n ≤ (aS l k).1) ∧ (y.2 = true ↔ y.1 < (l.length : Int) ∧ (aS l y.1).1 = n)
theorem aMr {x : List aY} (h : aAj x) {j k : Int} (h1 : 0 ≤ j) (h2 : j < k) (h3 : k < (x.length : Int)) : (aS x j).1 < (aS x k).1 := by
 unfold aAj at h
 rw [List.pairwise_iff_getElem] at h
 have := h j.toNat k.toNat (by omega) (by omega) (by omega)
 have e1 : aS x j = x[j.toNat]'(by omega) := iC (r := fU) (xs := x) (i := j) (by show j.toNat < x.length; omega)
 have e2 : aS x k = x[k.toNat]'(by omega) := iC (r := fU) (xs := x) (i := k) (by show k.toNat < x.length; omega)
 rw [e1, e2]; exact this
theorem aOu {a b : Int} (h1 : 0 ≤ a) (h2 : 0 ≤ b) (h3 : a ≤ 1000000) (h4 : b ≤ 1000000) : aG (bDd .u64 (aZ3 (aG (a + b))) 1) = (a + b) / 2 := by
 have e1 : aG (a + b) = a + b := dD (by omega) (by omega)
 have e2 : aZ3 (a + b) = a + b := by unfold aZ3; rw [IntKind.wrap_u64]; omega
 rw [e1, e2]
 have e3 : bDd .u64 (a + b) 1 = (a + b) / 2 := by
  unfold bDd
  rw [show (2 : Int) ^ min (1 : Int).toNat IntKind.u64.bits = 2 from rfl, Int.fdiv_eq_ediv_of_nonneg _ (by omega)]
 rw [e3]; exact dD (by omega) (by omega)
theorem bAg {l : List aY} (ha : aAj l) {n m : Int} (h0 : 0 ≤ m) (h1 : m < (l.length : Int)) (h : (aS l m).1 < n) : ∀ k : Int, 0 ≤ k → k < m + 1 → (aS l k).1 < n := fun k a b => by
 rcases Int.lt_or_eq_of_le (show k ≤ m by omega) with h2 | h2
 ·have := aMr ha (j := k) (k := m) a h2 h1; omega
 rw [h2]; exact h
theorem bAh {l : List aY} (ha : aAj l) {n m : Int} (h0 : 0 ≤ m) (h : n ≤ (aS l m).1) : ∀ k : Int, m ≤ k → k < (l.length : Int) → n ≤ (aS l k).1 := fun k a b => by
 rcases Int.lt_or_eq_of_le a with h2 | h2
 ·have := aMr ha (j := m) (k := k) h0 h2 b; omega
 rw [← h2]; exact h
theorem aXs {l : List aY} {s : aY} {y : Int × Bool} (h : mV l s.1 y) (ha : aAj l) : (if y.2 = true then dP l y.1 s else l.take y.1.toNat ++ [s] ++ l.drop y.1.toNat) = iA l s := by
 obtain ⟨h0, h1, h2, h3, h4⟩ := h
 have key : ∀ (n : Nat) (l : List aY), n ≤ l.length → (∀ k : Int, 0 ≤ k → k < n → (aS l k).1 < s.1) → iA l s = l.take n ++ iA (l.drop n) s := by
  intro n
  induction n with
  | zero => intro l _ _; rfl
  | succ n ih =>
   intro l hl hk
   cases l with
   | nil => simp at hl
   | cons p l =>
    have hp : p.1 < s.1 := hk 0 (by omega) (by omega)
    rw [iA, if_neg (by omega), ih l (by simpa using hl) fun k h0 h1 => by
     have := hk (k + 1) (by omega) (by omega)
     have e : aS (p :: l) (k + 1) = aS l k := by
      unfold aS iG
      rw [show (k + 1).toNat = k.toNat + 1 by omega]; rfl
     rwa [e] at this]
    rfl
 rw [key y.1.toNat l (by omega) fun k a b => h2 k a (by omega)]
 by_cases hlt : y.1 < (l.length : Int)
 ·have hd := aKn h0 hlt
  have hge := h3 y.1 (Int.le_refl _) hlt
  rw [hd, iA, if_pos hge]
  have hrest : ∀ q ∈ l.drop (y.1 + 1).toNat, s.1 < q.1 := fun q hq => by
   obtain ⟨j, hj, e⟩ := List.mem_iff_getElem.1 hq
   rw [List.length_drop] at hj
   rw [List.getElem_drop] at e
   have h5 := aMr ha (j := y.1) (k := ((y.1 + 1).toNat + j : Nat)) h0 (by omega) (by omega)
   have e2 : aS l (((y.1 + 1).toNat + j : Nat) : Int) = q := by rw [← e]; exact iC (r := fU) (xs := l) (i := (((y.1 + 1).toNat + j : Nat) : Int)) (by show (y.1 + 1).toNat + j < l.length; omega)
   rw [e2] at h5; omega
  have hf : (l.drop (y.1 + 1).toNat).filter (fun q => decide (q.1 ≠ s.1)) = l.drop (y.1 + 1).toNat := List.filter_eq_self.2 fun q hq => by have := hrest q hq; simp; omega
  by_cases he : (aS l y.1).1 = s.1
  ·rw [if_pos (h4.2 ⟨hlt, he⟩), List.filter_cons_of_neg (by simp [he]), hf]
   unfold dP
   rw [List.set_eq_take_append_cons_drop, if_pos (by omega), show y.1.toNat + 1 = (y.1 + 1).toNat by omega]
  rw [if_neg (fun hy => he (h4.1 hy).2), List.filter_cons_of_pos (by simp [he]), hf]
  simp
 rw [if_neg (fun hy => hlt (h4.1 hy).1), aA9 (by omega)]
 simp [iA]
theorem aNx {l : List aY} {n : Int} {y : Int × Bool} (h : mV l n y) (ha : aAj l) : (y.2 = true → iR l n = (aS l y.1).2.1) ∧ (y.2 = false → iR l n = 0) := by
 obtain ⟨h0, h1, h2, h3, h4⟩ := h
 refine ⟨fun hy => ?_, fun hy => ?_⟩
 ·obtain ⟨h5, h6⟩ := h4.1 hy
  rw [← h6]; exact uI ha (bL h0 h5)
 refine aKf (nR (P := fun s => s.1 ≠ n) fun k a b => ?_)
 by_cases hk : k < y.1
 ·have := h2 k a hk; omega
 have hk2 := h3 k (by omega) b
 intro e
 rcases Int.lt_or_eq_of_le (show y.1 ≤ k by omega) with h7 | h7
 ·have h8 := aMr ha (j := y.1) (k := k) h0 h7 b
  have h9 := h3 y.1 (Int.le_refl _) (by omega)
  omega
 have : y.2 = true := h4.2 ⟨by omega, by rw [h7]; exact e⟩
 rw [hy] at this; cases this
theorem bAx {xs : List aY} {i : Int} (h1 : 0 ≤ i) (h2 : i < (xs.length : Int)) : dP xs i (aS xs i) = xs := by
 unfold dP
 have e : aS xs i = xs[i.toNat]'(by omega) := iC (r := fU) (xs := xs) (i := i) (by show i.toNat < xs.length; omega)
 rw [e]; exact List.set_getElem_self _
theorem aZr {c : UInt8} : ∀ {l : Bs}, index l [c] = -1 ∧ (∀ b ∈ l, b ≠ c) ∨ ∃ p q, l = p ++ c :: q ∧ (∀ b ∈ p, b ≠ c) ∧ index l [c] = p.length
 | [] => .inl ⟨rfl, fun _ h => (by cases h)⟩
 | b :: l => by
  by_cases h : b = c
  ·subst h
   exact .inr ⟨[], l, rfl, fun _ h => (by cases h), by simp [index, List.isPrefixOf]⟩
  have hp : ([c].isPrefixOf (b :: l)) = false := by simp [List.isPrefixOf]; exact fun e => h e.symm
  rcases aZr (c := c) (l := l) with ⟨h1, h2⟩ | ⟨p, q, h1, h2, h3⟩
  ·refine .inl ⟨by rw [index, hp]; simp [h1], fun x hx => ?_⟩
   rcases List.mem_cons.1 hx with rfl | hx
   ·exact h
   exact h2 x hx
  refine .inr ⟨b :: p, q, by rw [h1]; rfl, fun x hx => ?_, ?_⟩
  ·rcases List.mem_cons.1 hx with rfl | hx
   ·exact h
   exact h2 x hx
  rw [index, hp]
  have : ¬ ((p.length : Int) == -1) = true := by simp
  rw [h3]
  simp [this]
theorem bFb (l : Bs) (c : UInt8) : Lib.cut l [c] = (l, [], false) ∧ (∀ b ∈ l, b ≠ c) ∨ ∃ p q, l = p ++ c :: q ∧ (∀ b ∈ p, b ≠ c) ∧ Lib.cut l [c] = (p, q, true) := by
 rcases aZr (c := c) (l := l) with ⟨h1, h2⟩ | ⟨p, q, h1, h2, h3⟩
 ·exact .inl ⟨by unfold Lib.cut; rw [h1]; rfl, h2⟩
 refine .inr ⟨p, q, h1, h2, ?_⟩
 unfold Lib.cut
 rw [h3, if_pos (by omega)]
 subst h1
 simp
theorem aNp (c : UInt8) : ∀ (k : Nat) (l : Bs), l.count c ≤ k → splitK [c] 0 k l = mH c l
 | 0, l, h => by
  have : ∀ b ∈ l, b ≠ c := fun b hb e => by subst e; have := List.count_pos_iff.2 hb; omega
  rw [aBb this]; rfl
 | k + 1, l, h => by
  rcases aZr (c := c) (l := l) with ⟨h1, h2⟩ | ⟨p, q, h1, h2, h3⟩
  ·rw [splitK, h1, aBb h2]; rfl
  ·rw [splitK, h3]
   have : ¬ ((p.length : Int) == -1) = true := by simp
   rw [if_neg this]
   subst h1
   rw [nQ _ h2]
   have hc : q.count c ≤ k := by rw [List.count_append, List.count_cons_self] at h; omega
   rw [← aNp c k q hc]
   simp
theorem aC6 (x : ByteArray × ByteArray) (h0 : x.1.size ≤ 1000) (h1 : x.2 = ⟨#[32]⟩) : Tot (strings_Split x) (fun y => y.map bs = mH 32 (bs x.1) ∧ 1 ≤ y.length) := by
 obtain ⟨t, sep⟩ := x
 subst h1
 have hb1 := splitB_all (⟨#[32]⟩ : ByteArray) (by decide) 0 _ t rfl
 have hc := countB_le (⟨#[32]⟩ : ByteArray) (by decide) t.size t (Nat.le_refl _)
 have hs : t.size ≤ 1000 := h0
 unfold strings_Split
 refine dH ?_ (aA ⟨?_, by dsimp only; rw [hb1]; omega⟩)
 ·dsimp only
  rw [hb1]
  simp only [Bool.and_eq_true, decide_eq_true_eq]
  exact ⟨⟨by omega, by decide⟩, by omega⟩
 dsimp only
 have := splitB_data (⟨#[32]⟩ : ByteArray) 0 (countB t ⟨#[32]⟩) t
 rw [show List.map bs (splitB ⟨#[32]⟩ 0 (countB t ⟨#[32]⟩) t) = _ from this]
 refine aNp 32 _ _ ?_
 rw [← count_one]
 exact Nat.le_refl _
theorem qI (x : ByteArray) (h0 : x.size ≤ 1000) : Tot (strconv_Atoi x) (fun y => ∀ n : Int, -9999 ≤ n → n ≤ 9999 → bs x = itoa n → y = (n, false)) := by
 unfold strconv_Atoi
 refine dH (decide_eq_true (by omega)) ?_
 have key : ∀ n : Int, -9999 ≤ n → n ≤ 9999 → bs x = itoa n → atoiAll x.data.toList = .ok n := fun n h1 h2 h => by
  have hl : x.data.toList.length ≤ 18 := by
   show (bs x).length ≤ 18
   rw [h]; unfold itoa
   have hd := uL 4 n.natAbs (by omega)
   have hd2 := uL 4 n.toNat (by omega)
   rw [oF, xX] at hd hd2
   split
   ·simp; omega
   ·omega
  rw [atoiAll_short _ hl]
  have : atoi (bs x) = some n := by rw [h]; exact bB9 n
  rw [show x.data.toList = bs x from rfl, this]; rfl
 split
 ·rename_i v hv
  exact aA fun n h1 h2 h => by rw [key n h1 h2 h] at hv; cases hv; rfl
 ·rename_i hv
  exact aA fun n h1 h2 h => by rw [key n h1 h2 h] at hv; cases hv
 rename_i hv _
 exact aA fun n h1 h2 h => absurd (key n h1 h2 h) (hv n)
theorem aGe (x : ByteArray × ByteArray) (h0 : x.1.size ≤ 1000) (h1 : x.2 = ⟨#[59]⟩) : Tot (strings_Cut x) (fun y => y.1.size ≤ x.1.size ∧ (y.2.2 = true → y.2.1.size < x.1.size) ∧ ∀ p q : Bs, bs x.1 = p ++ 59 :: q → (∀ b ∈ p, b ≠ 59) → bs y.1 = p ∧ bs y.2.1 = q ∧ y.2.2 = true) := by
 obtain ⟨t, sep⟩ := x
 subst h1
 unfold strings_Cut
 refine dH (decide_eq_true (by have : t.size ≤ 1000 := h0; dsimp only; omega)) (aA ?_)
 dsimp only
 have hbs : ∀ l : Bs, bs (⟨l.toArray⟩ : ByteArray) = l := aSa
 have hsz : ∀ l : Bs, (⟨l.toArray⟩ : ByteArray).size = l.length := fun l => by rw [oF, hbs]
 have ht : t.size = t.data.toList.length := by rw [oF]; rfl
 rcases bFb t.data.toList 59 with ⟨h1, h2⟩ | ⟨p, q, h1, h2, h3⟩
 ·rw [h1]
  dsimp only
  refine ⟨by rw [hsz]; omega, fun h => absurd h (by decide), fun p q hpq hp => ?_⟩
  have : (59 : UInt8) ∈ t.data.toList := by show 59 ∈ bs t; rw [hpq]; simp
  exact absurd rfl (h2 59 this)
 rw [h3]
 dsimp only
 refine ⟨by rw [hsz, ht, h1]; simp, fun _ => by rw [hsz, ht, h1]; simp; omega, fun p' q' hpq hp => ?_⟩
 have hpq : t.data.toList = p' ++ 59 :: q' := hpq
 rw [h1] at hpq
 have hc := nQ (at_ := 59) q h2
 have hc' := nQ (at_ := 59) q' hp
 rw [hpq, hc'] at hc
 have hpp : p' = p := (List.cons.inj hc).1
 subst hpp
 have := List.append_cancel_left hpq
 have hqq : q = q' := (List.cons.inj this).2
 subst hqq
 exact ⟨hbs _, hbs _, rfl⟩
end Ab
end
section
set_option maxRecDepth 100000
set_option linter.unusedVariables false
namespace Ab
open Go Go.Lib
abbrev bLu : Type := Int ⊕ (aN ⊕ (aN ⊕ (aN ⊕ Unit)))
def pF (s : aI) : bLu := if s.1 = 1 then .inl s.2.1 else if s.1 = 2 then .inr (.inl s.2) else if s.1 = 3 then .inr (.inr (.inl s.2)) else .inr (.inr (.inr (.inl s.2)))
theorem bFh {x : List aI} {i : Int} (h1 : 0 ≤ i) (h2 : i < (x.length : Int)) : (x.take (i + 1).toNat).map pF = (x.take i.toNat).map pF ++ [pF (aJ x i)] := by
 rw [kU h1 h2, List.map_append]; rfl
theorem bEj {k : Int} (h1 : 0 ≤ k) (h2 : k ≤ 3) : bs (gP ([(⟨#[103, 101, 116]⟩ : ByteArray), (⟨#[112, 117, 116]⟩ : ByteArray), (⟨#[97, 100, 100]⟩ : ByteArray), (⟨#[110, 101, 101, 100]⟩ : ByteArray)] : List ByteArray) k) = mY (k + 1) := by
 have : k = 0 ∨ k = 1 ∨ k = 2 ∨ k = 3 := by omega
 rcases this with rfl | rfl | rfl | rfl <;> rfl
theorem wQ (x : Int) (h0 : -99999 ≤ x) (h1 : x ≤ 99999) : Tot (strconv_Itoa x) (fun y => bs y = itoa x ∧ y.size ≤ 6) := by
 unfold strconv_Itoa
 refine dH (by simp only [Bool.and_eq_true, decide_eq_true_eq]; omega) (aA ⟨aSa _, ?_⟩)
 rw [oF, show bs (⟨(itoa x).toArray⟩ : ByteArray) = itoa x from aSa _]
 have hd := uL 4 x.natAbs (by omega)
 have hd2 := uL 4 x.toNat (by omega)
 rw [oF, xX] at hd hd2
 unfold itoa
 split
 ·simp; omega
 omega
theorem aC2 (a : UInt8) : ∀ (l : Bs), ∀ p ∈ mH a l, p.length ≤ l.length
 | [], p, h => by simp [mH] at h; simp [h]
 | b :: l, p, h => by
  rw [mH] at h
  split at h
  ·rcases List.mem_cons.1 h with rfl | h
   ·simp
   have := aC2 a l p h; simp; omega
  split at h
  ·rw [List.mem_singleton.1 h]; simp
  rename_i h0 t e
  rcases List.mem_cons.1 h with rfl | h
  ·have := aC2 a l h0 (by rw [e]; exact List.mem_cons_self); simp; omega
  have := aC2 a l p (by rw [e]; exact List.mem_cons_of_mem _ h); simp; omega
theorem aF8 {ws : List ByteArray} {c : UInt8} {t : ByteArray} (h : ws.map bs = mH c (bs t)) : ∀ w ∈ ws, w.size ≤ t.size := fun w hw => by
 have := aC2 c (bs t) (bs w) (by rw [← h]; exact List.mem_map_of_mem hw)
 rw [oF, oF]; exact this
theorem bDb : (⟨#[103, 101, 116, 32]⟩ : ByteArray).size = 4 := rfl
theorem nM {ws : List ByteArray} {s : aI} {y : Int} (hW : Words ws s) (h1 : 1 ≤ s.1) (h2 : s.1 ≤ 4) (h3 : -1 ≤ y) (h4 : y < 4)
  (h5 : 0 ≤ y → eqS (gP ws 0) (gP ([(⟨#[103, 101, 116]⟩ : ByteArray), (⟨#[112, 117, 116]⟩ : ByteArray), (⟨#[97, 100, 100]⟩ : ByteArray), (⟨#[110, 101, 101, 100]⟩ : ByteArray)] : List ByteArray) y) = true)
  (h6 : ∀ k : Int, 0 ≤ k → k < (if y < 0 then 4 else y) → eqS (gP ws 0) (gP ([(⟨#[103, 101, 116]⟩ : ByteArray), (⟨#[112, 117, 116]⟩ : ByteArray), (⟨#[97, 100, 100]⟩ : ByteArray), (⟨#[110, 101, 101, 100]⟩ : ByteArray)] : List ByteArray) k) = false) : y = s.1 - 1 := by
 by_cases hy : y < 0
 ·rw [if_pos hy] at h6
  have := h6 (s.1 - 1) (by omega) (by omega)
  rw [aFv hW.w0 (bEj (by omega) (by omega)) h1 h2 (by omega) (by omega)] at this
  have := of_decide_eq_false this
  omega
 have := h5 (by omega)
 rw [aFv hW.w0 (bEj (by omega) (by omega)) h1 h2 (by omega) (by omega)] at this
 have := of_decide_eq_true this
 omega
theorem rest_step {L : List aI} {k : Nat} {t : ByteArray} (hk : k ≤ L.length) (h : bs t = eO (L.drop k)) (hne : t ≠ emptyS) : ∃ s, s ∈ L ∧ k < L.length ∧ L.take (k + 1) = L.take k ++ [s] ∧ bs t = kX s ++ 59 :: eO (L.drop (k + 1)) := by
 rcases Nat.lt_or_ge k L.length with h1 | h1
 ·refine ⟨L[k], List.getElem_mem h1, h1, List.take_succ_eq_append_getElem h1, ?_⟩
  rw [h, List.drop_eq_getElem_cons h1]; rfl
 rw [List.drop_of_length_le h1] at h
 exact absurd (aHo h) hne
def pK (vs : List Int) : Int → Int := fun k => if 0 ≤ k ∧ k ≤ 31 then aV vs k else 0
def chF (vs : List Int) (ch : List Bool) : Int → Option Int := fun k => if 0 ≤ k ∧ k ≤ 31 ∧ sW ch k = true then some (aV vs k) else none
theorem aRh {xs : List Int} {i k v : Int} (h1 : 0 ≤ i) (h2 : i < (xs.length : Int)) (h3 : 0 ≤ k) (h4 : k < (xs.length : Int)) : aV (dP xs i v) k = if k = i then v else aV xs k := by
 have e1 : aV (dP xs i v) k = (dP xs i v)[k.toNat]'(by rw [aW]; omega) := iC (r := .int .i64) (xs := dP xs i v) (i := k) (by show k.toNat < (dP xs i v).length; rw [aW]; omega)
 have e2 : aV xs k = xs[k.toNat]'(by omega) := iC (r := .int .i64) (xs := xs) (i := k) (by show k.toNat < xs.length; omega)
 rw [e1, e2]
 simp only [dP, List.getElem_set]
 by_cases e : k = i
 ·subst e; simp
 rw [if_neg (by omega), if_neg e]
theorem aX9 {xs : List Bool} {i k : Int} {v : Bool} (h1 : 0 ≤ i) (h2 : i < (xs.length : Int)) (h3 : 0 ≤ k) (h4 : k < (xs.length : Int)) : sW (dP xs i v) k = if k = i then v else sW xs k := by
 have e1 : sW (dP xs i v) k = (dP xs i v)[k.toNat]'(by rw [aW]; omega) := iC (r := .bool) (xs := dP xs i v) (i := k) (by show k.toNat < (dP xs i v).length; rw [aW]; omega)
 have e2 : sW xs k = xs[k.toNat]'(by omega) := iC (r := .bool) (xs := xs) (i := k) (by show k.toNat < xs.length; omega)
 rw [e1, e2]
 simp only [dP, List.getElem_set]
 by_cases e : k = i
 ·subst e; simp
 rw [if_neg (by omega), if_neg e]
theorem aTe {xs : List Int} {i v : Int} (hl : xs.length = 32) (h1 : 0 ≤ i) (h2 : i ≤ 31) : pK (dP xs i v) = upd (pK xs) i v := funext fun k => by
 unfold pK upd
 dsimp only
 by_cases hk : 0 ≤ k ∧ k ≤ 31
 ·rw [if_pos hk, aRh h1 (by omega) hk.1 (by omega), if_pos hk]
 rw [if_neg hk, if_neg hk, if_neg (by omega)]
theorem bH6 {xs : List Int} {ch : List Bool} {i v : Int} (hl : xs.length = 32) (hc : ch.length = 32) (h1 : 0 ≤ i) (h2 : i ≤ 31) : chF (dP xs i v) (dP ch i true) = aSr (chF xs ch) i v := funext fun k => by
 unfold chF aSr
 dsimp only
 by_cases hk : 0 ≤ k ∧ k ≤ 31
 ·rw [aX9 h1 (by omega) hk.1 (by omega), aRh h1 (by omega) hk.1 (by omega)]
  by_cases e : k = i
  ·subst e; simp [hk]
  simp [e]
 rw [if_neg (by omega), if_neg (by omega), if_neg (by omega)]
theorem bF6 {k : Int} (h1 : 0 ≤ k) (h2 : k ≤ 31) : aV (List.replicate 32 0) k = 0 := by
 have e1 : aV (List.replicate 32 (0 : Int)) k = (List.replicate 32 (0 : Int))[k.toNat]'(by simp; omega) := iC (r := .int .i64) (xs := List.replicate 32 (0 : Int)) (i := k) (by show k.toNat < (List.replicate 32 (0 : Int)).length; simp; omega)
 rw [e1, List.getElem_replicate]
theorem bF5 {k : Int} (h1 : 0 ≤ k) (h2 : k ≤ 31) : sW (List.replicate 32 false) k = false := by
 have e1 : sW (List.replicate 32 false) k = (List.replicate 32 false)[k.toNat]'(by simp; omega) := iC (r := .bool) (xs := List.replicate 32 false) (i := k) (by show k.toNat < (List.replicate 32 false).length; simp; omega)
 rw [e1, List.getElem_replicate]
theorem bBa : pK (List.replicate 32 0) = fun _ => 0 := funext fun k => by
 unfold pK; split
 ·rename_i h; exact bF6 h.1 h.2
 rfl
theorem bFc (xs : List Int) : chF xs (List.replicate 32 false) = fun _ => none := funext fun k => by
 unfold chF; rw [if_neg]; rintro ⟨h1, h2, h3⟩; rw [bF5 h1 h2] at h3; cases h3
theorem bEo {x : List aN} {i : Int} {vs : List Int} (hp : eP x) (hl : vs.length = 32) (h1 : 0 ≤ i) (h2 : i < (x.length : Int)) (h : pK vs = fO (x.take i.toNat)) :
  pK (dP vs (bM x i).1 (bM x i).2) = fO (x.take (i + 1).toNat) := by
 have hb := hp.1 _ (bN h1 h2)
 rw [aTe hl hb.1 hb.2.1, h]
 funext k
 unfold upd fO
 rw [fZ hp.2 h1 h2]
 by_cases e : k = (bM x i).1
 ·rw [if_pos e, if_pos e.symm]; rfl
 rw [if_neg e, if_neg fun e2 => e e2.symm]
end Ab
end
