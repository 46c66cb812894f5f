/-
A part of the proof: pure functions told of the program, and laws about them.
-/
import Derived.Test.YtpkhfddccaljiaaGreatDoorA08
set_option linter.all false
section
set_option maxRecDepth 100000
set_option linter.unusedVariables false
namespace Ab
open Go
set_option maxHeartbeats 4000000
attribute [local grind] inb dD eX eH aQ aF size_mk dL bL bV dB bW bN aW aZ bK bA
section
attribute [local grind] aLy aGc aXe bY aU3 bA5 bA3 kL bT dE dM dG
theorem pQ (x : aT) (h0 : aLy x) : Tot (mM x) (fun y => y = x) := by
 unfold mM; try dsimp only
 simp only [List.nil_append, aEh]
 refine bF (P := fun (z1 : aT × aT × aT) => z1 = (x, ((false, (0, (0, ([], ([], []))))), (x.1, (x.2.1, (x.2.2.1, ([], ([], x.2.2.2.2.2)))))))) ?_ fun z1 hz => ?_
 ·refine dO (by first | rfl | simp only [dC]) ?_
  refine dO (by first | rfl | simp only [dC]) ?_
  refine aH ?_
  apply aA
  grind
 refine aX (fun z3 => z3.1 = z1.1 ∧ z3.2.1 = z1.2.1 ∧ z3.2.2.1.1 = z1.2.2.1 ∧ z3.2.2.1.2.1 = z1.2.2.2.1 ∧ z3.2.2.1.2.2.1 = z1.2.2.2.2.1 ∧ z3.2.2.1.2.2.2.2 = z1.2.2.2.2.2.2 ∧ z3.2.2.2 ≤ (z3.1.2.2.2.1.length : Int) ∧ 0 ≤ z3.2.2.2 ∧ z3.2.2.1.2.2.2.1 = x.2.2.2.1.take z3.2.2.2.toNat) (fun z3 => ((z3.1.2.2.2.1.length : Int) - z3.2.2.2).toNat) fun L2 z3 hz2 hL2 => ?_
 apply aB <;> intro hc
 ·iterate 4 refine dH (by grind [aF, size_mk, dL, bL, bV, dB, bW, bN, aW, aZ, bK, bA, bT, dE, dM, dG]) ?_
  apply hL2 <;> grind
 refine aX (fun z8 => z8.1.1 = z3.2.2.1.1 ∧ z8.1.2.1 = z3.2.2.1.2.1 ∧ z8.1.2.2.1 = z3.2.2.1.2.2.1 ∧ z8.1.2.2.2.1 = z3.2.2.1.2.2.2.1 ∧ z8.1.2.2.2.2.2 = z3.2.2.1.2.2.2.2.2 ∧ z8.2.1 = z3.2.1 ∧ z8.2.2.1 = z3.1 ∧ z8.2.2.2 ≤ (z8.2.2.1.2.2.2.2.1.length : Int) ∧ 0 ≤ z8.2.2.2 ∧ z8.1.2.2.2.2.1 = x.2.2.2.2.1.take z8.2.2.2.toNat) (fun z8 => ((z8.2.2.1.2.2.2.2.1.length : Int) - z8.2.2.2).toNat) fun L7 z8 hz7 hL7 => ?_
 apply aB <;> intro hc
 ·refine aH ?_
  refine eZ (fun z11 => z11.1 = z8.2.2.1 ∧ z11.2.1 = z8.2.1 ∧ z11.2.2.1 = z8.1 ∧ z11.2.2.2.1 = aK z8.2.2.1.2.2.2.2.1 z8.2.2.2 ∧ z11.2.2.2.2.2 ≤ (z11.2.2.2.1.2.2.2.2.2.2.2.2.2.2.2.length : Int) ∧ 0 ≤ z11.2.2.2.2.2 ∧ z11.2.2.2.2.1 = z11.2.2.2.1.2.2.2.2.2.2.2.2.2.2.2.take z11.2.2.2.2.2.toNat) (fun z11 => ((z11.2.2.2.1.2.2.2.2.2.2.2.2.2.2.2.length : Int) - z11.2.2.2.2.2).toNat) (by grind [aF, size_mk, dL, bL, bV, dB, bW, bN, aW, aZ, bK, bA, bT, dE, dM, dG]) (by grind [aF, size_mk, dL, bL, bV, dB, bW, bN, aW, aZ, bK, bA, bT, dE, dM, dG]) fun L10 z11 hz10 hL10 => ?_
  apply aB <;> intro hc
  ·iterate 4 refine dH (by grind [aF, size_mk, dL, bL, bV, dB, bW, bN, aW, aZ, bK, bA, bT, dE, dM, dG]) ?_
   apply hL10 <;> grind [aF, size_mk, dL, bL, bV, dB, bW, bN, aW, aZ, bK, bA, bT, dE, dM, dG]
  iterate 2 refine dH (by grind [aF, size_mk, dL, bL, bV, dB, bW, bN, aW, aZ, bK, bA, bT, dE, dM, dG]) ?_
  apply hL7 <;> grind
 apply aA
 grind
end
section
attribute [local grind] bT dE dM dG
theorem aDz (x : List bB × Int) (h0 : x.1.length ≤ 1000000) : Tot (rQ x) (fun y => y.2 = true → y.1 ∈ x.1) := by
 unfold rQ; try dsimp only
 refine aX (fun z2 => z2.1.1 = 0 ∧ z2.1.2.1 = 0 ∧ z2.1.2.2.1 = 0 ∧ z2.1.2.2.2.1 = 0 ∧ z2.1.2.2.2.2.1 = 0 ∧ z2.1.2.2.2.2.2.1 = emptyS ∧ z2.1.2.2.2.2.2.2.1 = 0 ∧ z2.1.2.2.2.2.2.2.2.1 = 0 ∧ z2.1.2.2.2.2.2.2.2.2.1 = 0 ∧ z2.1.2.2.2.2.2.2.2.2.2.1 = [] ∧ z2.1.2.2.2.2.2.2.2.2.2.2 = [] ∧ -1 ≤ z2.2 ∧ z2.2 < x.1.length) (fun z2 => (z2.2 + 1).toNat) fun L1 z2 hz1 hL1 => ?_
 apply aB <;> intro hc
 ·refine aH ?_
  apply aB <;> intro hc
  ·refine aH ?_
   apply aA
   grind
  apply hL1 <;> grind
 apply aA
 grind
end
section
attribute [local grind] aGc RecordG bT dE dM dG
theorem aSy (x : List bB × Int) (h0 : x.1.length ≤ 1000000) (h1 : ∀ r ∈ x.1, aGc r) : Tot (aBu x) (fun y => y = true → x.1.length ≤ 60 ∧ ∀ r ∈ x.1, RecordG r) := by
 unfold aBu; try dsimp only
 apply aB <;> intro hc
 ·apply aA
  first | (intro h; cases h; done) | (intro _; exact ⟨by grind, kS (P := RecordG) (by grind)⟩)
 refine aX (fun z2 => z2 ≤ (x.1.length : Int) ∧ 0 ≤ z2 ∧ (∀ k : Int, 0 ≤ k → k < z2 → RecordG (bJ x.1 k))) (fun z2 => ((x.1.length : Int) - z2).toNat) fun L1 z2 hz1 hL1 => ?_
 apply aB <;> intro hc
 ·refine aH ?_
  refine aC (bG _) fun r3 hr3 => ?_
  apply aB <;> intro hc
  ·apply aA
   first | (intro h; cases h; done) | (intro _; exact ⟨by grind, kS (P := RecordG) (by grind)⟩)
  refine aC (bG _) fun r4 hr4 => ?_
  apply aB <;> intro hc
  ·apply aA
   first | (intro h; cases h; done) | (intro _; exact ⟨by grind, kS (P := RecordG) (by grind)⟩)
  refine aC (wX _ (by grind [aF, size_mk, bA, dL, bL, bV, dB, bW, bN, aW, aZ, bK, bT, dE, dM, dG])) fun r5 hr5 => ?_
  apply aB <;> intro hc
  ·apply aA
   first | (intro h; cases h; done) | (intro _; exact ⟨by grind, kS (P := RecordG) (by grind)⟩)
  refine aC (bG _) fun r6 hr6 => ?_
  apply aB <;> intro hc
  ·apply aA
   first | (intro h; cases h; done) | (intro _; exact ⟨by grind, kS (P := RecordG) (by grind)⟩)
  refine aC (aBl _ (by grind [aF, size_mk, bA, dL, bL, bV, dB, bW, bN, aW, aZ, bK, bT, dE, dM, dG])) fun r7 hr7 => ?_
  apply aB <;> intro hc
  ·apply aA
   first | (intro h; cases h; done) | (intro _; exact ⟨by grind, kS (P := RecordG) (by grind)⟩)
  refine aC (kG _ (by grind [aF, size_mk, bA, dL, bL, bV, dB, bW, bN, aW, aZ, bK, bT, dE, dM, dG])) fun r8 hr8 => ?_
  apply aB <;> intro hc
  ·apply aA
   first | (intro h; cases h; done) | (intro _; exact ⟨by grind, kS (P := RecordG) (by grind)⟩)
  refine aX (fun z10 => z10.1 = bJ x.1 z2 ∧ z10.2 ≤ z2 ∧ 0 ≤ z10.2) (fun z10 => (z2 - z10.2).toNat) fun L9 z10 hz9 hL9 => ?_
  apply aB <;> intro hc
  ·refine aH ?_
   apply aB <;> intro hc
   ·apply aA
    first | (intro h; cases h; done) | (intro _; exact ⟨by grind, kS (P := RecordG) (by grind)⟩)
   apply hL9 <;> grind
  refine aH ?_
  refine dO (by first | rfl | simp only [dC]) ?_
  refine aC (aDz _ (by grind)) fun r11 hr11 => ?_
  apply aB <;> intro hc
  ·apply aB <;> intro hc
   ·apply aA
    first | (intro h; cases h; done) | (intro _; exact ⟨by grind, kS (P := RecordG) (by grind)⟩)
   apply hL1 <;> grind
  apply hL1 <;> grind
 apply aA
 first | (intro h; cases h; done) | (intro _; exact ⟨by grind, kS (P := RecordG) (by grind)⟩)
end
section
attribute [local grind] aXe bT dE dM dG
theorem aPs (x : bI × Int) (h0 : aXe x.1) : Tot (yU x) (fun y => y = true → LiveS x.1) := by
 unfold yU; try dsimp only
 refine bF (P := fun (z10 : bI) => x.1.2.2.2.2.2.2.2.1.size ≤ 80 ∧ z10 = x.1) ?_ fun z10 hz => ?_
 ·refine bF (P := fun (z9 : bI × Bool) => (z9.2 = false → x.1.2.2.2.2.2.2.2.1.size ≤ 80) ∧ z9.1 = x.1) ?_ fun z9 hz => ?_
  ·refine aC (bG _) fun r1 hr1 => ?_
   apply aB <;> intro hc
   ·apply aA
    first | (intro h; cases h; done) | (intro _; exact ⟨by grind, uH (fun k => aV x.1.2.2.2.2.2.2.2.2.2.2.1 k) (by grind), by grind, by grind⟩) | grind
   refine aC (bG _) fun r2 hr2 => ?_
   apply aB <;> intro hc
   ·apply aA
    first | (intro h; cases h; done) | (intro _; exact ⟨by grind, uH (fun k => aV x.1.2.2.2.2.2.2.2.2.2.2.1 k) (by grind), by grind, by grind⟩) | grind
   refine aC (bG _) fun r3 hr3 => ?_
   apply aB <;> intro hc
   ·apply aA
    first | (intro h; cases h; done) | (intro _; exact ⟨by grind, uH (fun k => aV x.1.2.2.2.2.2.2.2.2.2.2.1 k) (by grind), by grind, by grind⟩) | grind
   refine aC (bG _) fun r4 hr4 => ?_
   apply aB <;> intro hc
   ·apply aA
    first | (intro h; cases h; done) | (intro _; exact ⟨by grind, uH (fun k => aV x.1.2.2.2.2.2.2.2.2.2.2.1 k) (by grind), by grind, by grind⟩) | grind
   refine aC (wX _ (by grind)) fun r5 hr5 => ?_
   apply aB <;> intro hc
   ·apply aA
    first | (intro h; cases h; done) | (intro _; exact ⟨by grind, uH (fun k => aV x.1.2.2.2.2.2.2.2.2.2.2.1 k) (by grind), by grind, by grind⟩) | grind
   apply aB <;> intro hc
   ·apply aB <;> intro hc
    ·apply aA
     first | (intro h; cases h; done) | (intro _; exact ⟨by grind, uH (fun k => aV x.1.2.2.2.2.2.2.2.2.2.2.1 k) (by grind), by grind, by grind⟩) | grind
    apply aB <;> intro hc
    ·apply aA
     first | (intro h; cases h; done) | (intro _; exact ⟨by grind, uH (fun k => aV x.1.2.2.2.2.2.2.2.2.2.2.1 k) (by grind), by grind, by grind⟩) | grind
    apply aA
    first | (intro h; cases h; done) | (intro _; exact ⟨by grind, uH (fun k => aV x.1.2.2.2.2.2.2.2.2.2.2.1 k) (by grind), by grind, by grind⟩) | grind
   apply aB <;> intro hc
   ·apply aA
    first | (intro h; cases h; done) | (intro _; exact ⟨by grind, uH (fun k => aV x.1.2.2.2.2.2.2.2.2.2.2.1 k) (by grind), by grind, by grind⟩) | grind
   apply aA
   first | (intro h; cases h; done) | (intro _; exact ⟨by grind, uH (fun k => aV x.1.2.2.2.2.2.2.2.2.2.2.1 k) (by grind), by grind, by grind⟩) | grind
  apply aB <;> intro hc
  ·apply aA
   first | (intro h; cases h; done) | (intro _; exact ⟨by grind, uH (fun k => aV x.1.2.2.2.2.2.2.2.2.2.2.1 k) (by grind), by grind, by grind⟩) | grind
  apply aA
  first | (intro h; cases h; done) | (intro _; exact ⟨by grind, uH (fun k => aV x.1.2.2.2.2.2.2.2.2.2.2.1 k) (by grind), by grind, by grind⟩) | grind
 refine eZ (fun z12 => z12.1 = z10 ∧ z12.2 ≤ (z12.1.2.2.2.2.2.2.2.2.2.2.2.length : Int) ∧ 0 ≤ z12.2 ∧ (∀ k : Int, 0 ≤ k → k < z12.2 → (gZ x.1.2.2.2.2.2.2.2.2.2.2.2 k).2.length ≤ 32 ∧ k ≤ (gZ x.1.2.2.2.2.2.2.2.2.2.2.2 k).1 ∧ (gZ x.1.2.2.2.2.2.2.2.2.2.2.2 k).1 ≤ 2)) (fun z12 => ((z12.1.2.2.2.2.2.2.2.2.2.2.2.length : Int) - z12.2).toNat) (by first | grind | (refine ⟨by grind, by grind, by grind, uH (fun k => (gZ x.1.2.2.2.2.2.2.2.2.2.2.2 k).1) (by grind), aXd (P := fun t => t.2.length ≤ 32) (by grind), by grind⟩)) (by grind) fun L11 z12 hz11 hL11 => ?_
 apply aB <;> intro hc
 ·refine aH ?_
  refine aC (iJ _) fun r14 hr14 => ?_
  apply aB <;> intro hc
  ·apply aA
   first | (intro h; cases h; done) | (intro _; exact ⟨by grind, uH (fun k => aV x.1.2.2.2.2.2.2.2.2.2.2.1 k) (by grind), by grind, by grind⟩) | grind
  refine aH ?_
  refine aC (kG _ (by grind)) fun r15 hr15 => ?_
  apply aB <;> intro hc
  ·apply aA
   first | (intro h; cases h; done) | (intro _; exact ⟨by grind, uH (fun k => aV x.1.2.2.2.2.2.2.2.2.2.2.1 k) (by grind), by grind, by grind⟩) | grind
  apply aB <;> intro hc
  ·iterate 2 refine aH ?_
   apply aB <;> intro hc
   ·apply aA
    first | (intro h; cases h; done) | (intro _; exact ⟨by grind, uH (fun k => aV x.1.2.2.2.2.2.2.2.2.2.2.1 k) (by grind), by grind, by grind⟩) | grind
   apply hL11 <;> grind
  apply hL11 <;> grind
 refine eZ (fun z19 => z19.1 = z12.1 ∧ z19.2 ≤ (z19.1.2.2.2.2.2.2.2.2.2.2.1.length : Int) ∧ 0 ≤ z19.2 ∧ x.1.2.2.2.2.2.2.2.2.2.2.2.length ≤ 3 ∧ (∀ t ∈ x.1.2.2.2.2.2.2.2.2.2.2.2, t.2.length ≤ 32) ∧ (∀ k : Int, 0 ≤ k → k < z19.2 → k ≤ aV x.1.2.2.2.2.2.2.2.2.2.2.1 k ∧ aV x.1.2.2.2.2.2.2.2.2.2.2.1 k ≤ 2)) (fun z19 => ((z19.1.2.2.2.2.2.2.2.2.2.2.1.length : Int) - z19.2).toNat) (by first | grind | (refine ⟨by grind, by grind, by grind, uH (fun k => (gZ x.1.2.2.2.2.2.2.2.2.2.2.2 k).1) (by grind), aXd (P := fun t => t.2.length ≤ 32) (by grind), by grind⟩)) (by grind) fun L18 z19 hz18 hL18 => ?_
 apply aB <;> intro hc
 ·refine aH ?_
  refine aC (iJ _) fun r21 hr21 => ?_
  apply aB <;> intro hc
  ·apply aA
   first | (intro h; cases h; done) | (intro _; exact ⟨by grind, uH (fun k => aV x.1.2.2.2.2.2.2.2.2.2.2.1 k) (by grind), by grind, by grind⟩) | grind
  apply aB <;> intro hc
  ·iterate 2 refine aH ?_
   apply aB <;> intro hc
   ·apply aA
    first | (intro h; cases h; done) | (intro _; exact ⟨by grind, uH (fun k => aV x.1.2.2.2.2.2.2.2.2.2.2.1 k) (by grind), by grind, by grind⟩) | grind
   apply hL18 <;> grind
  apply hL18 <;> grind
 apply aA
 first | (intro h; cases h; done) | (intro _; exact ⟨by grind, uH (fun k => aV x.1.2.2.2.2.2.2.2.2.2.2.1 k) (by grind), by grind, by grind⟩) | grind
end
section
attribute [local grind] bT dE dM dG
theorem aDy (x : List bI × Int) (h0 : x.1.length ≤ 1000000) : Tot (wM x) (fun y => -1 ≤ y ∧ y < x.1.length) := by
 unfold wM; try dsimp only
 refine aX (fun z2 => z2 ≤ (x.1.length : Int) ∧ 0 ≤ z2) (fun z2 => ((x.1.length : Int) - z2).toNat) fun L1 z2 hz1 hL1 => ?_
 apply aB <;> intro hc
 ·refine aH ?_
  apply aB <;> intro hc
  ·apply aA
   grind
  apply hL1 <;> grind
 apply aA
 grind
end
section
attribute [local grind] bB8 bB7 bG6 bY bT dE dM dG
theorem aKx (x : List aN × Int) (h0 : x.1.length ≤ 1000000) : Tot (wJ x) (fun y => y = yF x.1 x.2 ∧ 0 ≤ y ∧ y ≤ 1000000) := by
 unfold wJ; try dsimp only
 refine aX (fun z2 => z2.2 ≤ (x.1.length : Int) ∧ 0 ≤ z2.2 ∧ z2.1 = yF (x.1.take z2.2.toNat) x.2 ∧ z2.1 ≤ z2.2) (fun z2 => ((x.1.length : Int) - z2.2).toNat) fun L1 z2 hz1 hL1 => ?_
 apply aB <;> intro hc
 ·refine aH ?_
  apply aB <;> intro hc
  ·apply hL1 <;> grind
  apply hL1 <;> grind
 apply aA
 grind
end
section
attribute [local grind] aLy bT dE dM dG
theorem aPo (x : aT) (h0 : aLy x) : Tot (yR x) (fun y => y = true → x.2.2.2.2.2.length ≤ 6) := by
 unfold yR; try dsimp only
 refine aX (fun z2 => z2.1 = x ∧ z2.2 ≤ (z2.1.2.2.2.2.2.length : Int) ∧ 0 ≤ z2.2 ∧ (∀ k : Int, 0 ≤ k → k < z2.2 → 0 ≤ (bM x.2.2.2.2.2 k).1 ∧ (bM x.2.2.2.2.2 k).1 < 3 ∧ yF x.2.2.2.2.2 (bM x.2.2.2.2.2 k).1 ≤ 2)) (fun z2 => ((z2.1.2.2.2.2.2.length : Int) - z2.2).toNat) fun L1 z2 hz1 hL1 => ?_
 apply aB <;> intro hc
 ·refine aH ?_
  refine aC (aDy _ (by grind)) fun r3 hr3 => ?_
  refine aC (iJ _) fun r4 hr4 => ?_
  apply aB <;> intro hc
  ·apply aA
   first | (intro h; cases h; done) | (intro _; exact wS (nS (P := fun w => 0 ≤ w.1 ∧ w.1 < 3 ∧ yF x.2.2.2.2.2 w.1 ≤ 2) (by grind)))
  apply aB <;> intro hc
  ·apply aA
   first | (intro h; cases h; done) | (intro _; exact wS (nS (P := fun w => 0 ≤ w.1 ∧ w.1 < 3 ∧ yF x.2.2.2.2.2 w.1 ≤ 2) (by grind)))
  refine aH ?_
  apply aB <;> intro hc
  ·apply aA
   first | (intro h; cases h; done) | (intro _; exact wS (nS (P := fun w => 0 ≤ w.1 ∧ w.1 < 3 ∧ yF x.2.2.2.2.2 w.1 ≤ 2) (by grind)))
  refine aC (aKx _ (by grind)) fun r5 hr5 => ?_
  apply aB <;> intro hc
  ·apply aA
   first | (intro h; cases h; done) | (intro _; exact wS (nS (P := fun w => 0 ≤ w.1 ∧ w.1 < 3 ∧ yF x.2.2.2.2.2 w.1 ≤ 2) (by grind)))
  apply aB <;> intro hc
  ·refine aH ?_
   apply aB <;> intro hc
   ·apply aA
    first | (intro h; cases h; done) | (intro _; exact wS (nS (P := fun w => 0 ≤ w.1 ∧ w.1 < 3 ∧ yF x.2.2.2.2.2 w.1 ≤ 2) (by grind)))
   refine aH ?_
   apply aB <;> intro hc
   ·refine aH ?_
    apply aB <;> intro hc
    ·apply aA
     first | (intro h; cases h; done) | (intro _; exact wS (nS (P := fun w => 0 ≤ w.1 ∧ w.1 < 3 ∧ yF x.2.2.2.2.2 w.1 ≤ 2) (by grind)))
    apply hL1 <;> grind
   apply hL1 <;> grind
  apply hL1 <;> grind
 apply aA
 first | (intro h; cases h; done) | (intro _; exact wS (nS (P := fun w => 0 ≤ w.1 ∧ w.1 < 3 ∧ yF x.2.2.2.2.2 w.1 ≤ 2) (by grind)))
end
section
attribute [local grind] aLy bT dE dM dG
theorem rJ (x : aT) (h0 : aLy x) : Tot (qQ x) (fun y => y = true → GateG x) := by
 unfold qQ; try dsimp only
 refine bF (P := fun (z6 : aT) => z6 = x ∧ x.2.2.2.1.length ≤ 60 ∧ (∀ r ∈ x.2.2.2.1, RecordG r) ∧ x.2.2.2.2.1.length ≤ 3) ?_ fun z6 hz => ?_
 ·refine bF (P := fun (z5 : aT × Bool) => z5.1 = x ∧ (z5.2 = false → x.2.2.2.1.length ≤ 60 ∧ (∀ r ∈ x.2.2.2.1, RecordG r) ∧ x.2.2.2.2.1.length ≤ 3)) ?_ fun z5 hz => ?_
  ·refine aC (bG _) fun r1 hr1 => ?_
   apply aB <;> intro hc
   ·apply aA
    first | (intro h; cases h; done) | (intro _; exact ⟨by grind, by grind, by grind, iV (P := LiveS) (by grind), by grind⟩) | grind
   refine aC (bG _) fun r2 hr2 => ?_
   apply aB <;> intro hc
   ·apply aA
    first | (intro h; cases h; done) | (intro _; exact ⟨by grind, by grind, by grind, iV (P := LiveS) (by grind), by grind⟩) | grind
   refine aC (aSy _ (by grind) (by grind)) fun r3 hr3 => ?_
   apply aB <;> intro hc
   ·apply aA
    first | (intro h; cases h; done) | (intro _; exact ⟨by grind, by grind, by grind, iV (P := LiveS) (by grind), by grind⟩) | grind
   apply aB <;> intro hc
   ·apply aA
    first | (intro h; cases h; done) | (intro _; exact ⟨by grind, by grind, by grind, iV (P := LiveS) (by grind), by grind⟩) | grind
   apply aB <;> intro hc
   ·apply aA
    first | (intro h; cases h; done) | (intro _; exact ⟨by grind, by grind, by grind, iV (P := LiveS) (by grind), by grind⟩) | grind
   apply aA
   first | (intro h; cases h; done) | (intro _; exact ⟨by grind, by grind, by grind, iV (P := LiveS) (by grind), by grind⟩) | grind
  apply aB <;> intro hc
  ·apply aA
   first | (intro h; cases h; done) | (intro _; exact ⟨by grind, by grind, by grind, iV (P := LiveS) (by grind), by grind⟩) | grind
  apply aA
  first | (intro h; cases h; done) | (intro _; exact ⟨by grind, by grind, by grind, iV (P := LiveS) (by grind), by grind⟩) | grind
 refine aX (fun z8 => z8.2 ≤ (z8.1.2.2.2.2.1.length : Int) ∧ 0 ≤ z8.2 ∧ z8.1 = x ∧ (∀ k : Int, 0 ≤ k → k < z8.2 → LiveS (aK x.2.2.2.2.1 k))) (fun z8 => ((z8.1.2.2.2.2.1.length : Int) - z8.2).toNat) fun L7 z8 hz7 hL7 => ?_
 apply aB <;> intro hc
 ·refine aH ?_
  refine bF (P := fun (z12 : aT × bI) => z12.1 = x ∧ LiveS (aK x.2.2.2.2.1 z8.2)) ?_ fun z12 hz => ?_
  ·refine bF (P := fun (z11 : aT × bI × Bool) => z11.1 = x ∧ (z11.2.2 = false → LiveS (aK x.2.2.2.2.1 z8.2))) ?_ fun z11 hz => ?_
   ·refine aC (aPs _ (by grind)) fun r9 hr9 => ?_
    apply aB <;> intro hc
    ·apply aA
     first | (intro h; cases h; done) | (intro _; exact ⟨by grind, by grind, by grind, iV (P := LiveS) (by grind), by grind⟩) | grind
    apply aB <;> intro hc
    ·refine aH ?_
     apply aA
     first | (intro h; cases h; done) | (intro _; exact ⟨by grind, by grind, by grind, iV (P := LiveS) (by grind), by grind⟩) | grind
    apply aA
    first | (intro h; cases h; done) | (intro _; exact ⟨by grind, by grind, by grind, iV (P := LiveS) (by grind), by grind⟩) | grind
   apply aB <;> intro hc
   ·apply aA
    first | (intro h; cases h; done) | (intro _; exact ⟨by grind, by grind, by grind, iV (P := LiveS) (by grind), by grind⟩) | grind
   apply aA
   first | (intro h; cases h; done) | (intro _; exact ⟨by grind, by grind, by grind, iV (P := LiveS) (by grind), by grind⟩) | grind
  refine aX (fun z14 => z14.1 = z12.1 ∧ z14.2.1 = z12.2 ∧ z14.2.2 ≤ (z14.1.2.2.2.1.length : Int) ∧ 0 ≤ z14.2.2) (fun z14 => ((z14.1.2.2.2.1.length : Int) - z14.2.2).toNat) fun L13 z14 hz13 hL13 => ?_
  apply aB <;> intro hc
  ·refine aH ?_
   apply aB <;> intro hc
   ·apply aA
    first | (intro h; cases h; done) | (intro _; exact ⟨by grind, by grind, by grind, iV (P := LiveS) (by grind), by grind⟩) | grind
   apply hL13 <;> grind
  refine aX (fun z16 => z16.1 = z14.2.1 ∧ z16.2.1 = z14.1 ∧ z16.2.2 ≤ z8.2 ∧ 0 ≤ z16.2.2) (fun z16 => (z8.2 - z16.2.2).toNat) fun L15 z16 hz15 hL15 => ?_
  apply aB <;> intro hc
  ·refine aH ?_
   apply aB <;> intro hc
   ·apply aA
    first | (intro h; cases h; done) | (intro _; exact ⟨by grind, by grind, by grind, iV (P := LiveS) (by grind), by grind⟩) | grind
   apply hL15 <;> grind
  refine aC (aDz _ (by grind)) fun r18 hr18 => ?_
  apply aB <;> intro hc
  ·apply aB <;> intro hc
   ·apply aA
    first | (intro h; cases h; done) | (intro _; exact ⟨by grind, by grind, by grind, iV (P := LiveS) (by grind), by grind⟩) | grind
   apply hL7 <;> grind
  apply hL7 <;> grind
 refine aC (aPo _ (by grind)) fun r19 hr19 => ?_
 apply aA
 first | (intro h; cases h; done) | (intro _; exact ⟨by grind, by grind, by grind, iV (P := LiveS) (by grind), by grind⟩) | grind
end
section
attribute [local grind] dV
theorem aAb (x : bO × Int × List Int) (h0 : x.2.2.length ≤ 40) : Tot (nJ x) (fun y => dV y) := by
 unfold nJ; try dsimp only
 refine aH ?_
 apply aA
 grind
end
section
attribute [local grind] dV
theorem wW (x : Int × Int × Int × Bool × List aN) (h0 : x.2.2.2.2.length ≤ 40) : Tot (tZ x) (fun y => dV y) := by
 unfold tZ; try dsimp only
 apply aB <;> intro hc
 ·refine aH ?_
  apply aA
  grind
 apply aA
 grind
end
theorem aD0 (x : Int × Int × Bool × List aN) (h0 : x.2.2.2.length ≤ 40) : Tot (rR x) (fun y => y.length = 3 ∧ ∀ w ∈ y, dV w) := by
 unfold rR; try dsimp only
 refine aX (fun z2 => z2.2 ≤ 3 ∧ 0 ≤ z2.2 ∧ z2.1.length = z2.2 ∧ (∀ w ∈ z2.1, dV w)) (fun z2 => (3 - z2.2).toNat) fun L1 z2 hz1 hL1 => ?_
 apply aB <;> intro hc
 ·refine aC (wW _ (by grind)) fun r3 hr3 => ?_
  refine aH ?_
  apply hL1 <;> grind
 apply aA
 grind
theorem wV (x : aT × Int) (h0 : x.1.2.2.2.2.2.length ≤ 1000000) : Tot (lS x) (fun y => y.1 = x.1.1 ∧ y.2.1 = x.1.2.1 ∧ y.2.2.1 = x.1.2.2.1 ∧ y.2.2.2.1 = x.1.2.2.2.1 ∧ y.2.2.2.2.1 = x.1.2.2.2.2.1 ∧ y.2.2.2.2.2.length ≤ x.1.2.2.2.2.2.length) := by
 unfold lS; try dsimp only
 refine aX (fun z2 => z2.1 = x.1 ∧ z2.2.1.1 = false ∧ z2.2.1.2.1 = 0 ∧ z2.2.1.2.2.1 = 0 ∧ z2.2.1.2.2.2.1 = [] ∧ z2.2.1.2.2.2.2.1 = [] ∧ z2.2.1.2.2.2.2.2 = [] ∧ z2.2.2.2 ≤ (z2.1.2.2.2.2.2.length : Int) ∧ 0 ≤ z2.2.2.2 ∧ z2.2.2.1.length ≤ z2.2.2.2) (fun z2 => ((z2.1.2.2.2.2.2.length : Int) - z2.2.2.2).toNat) fun L1 z2 hz1 hL1 => ?_
 apply aB <;> intro hc
 ·refine aH ?_
  apply aB <;> intro hc
  ·iterate 2 refine aH ?_
   apply hL1 <;> grind
  apply hL1 <;> grind
 apply aA
 grind
section
attribute [local grind] jA bT dE dM dG
theorem aRb (x : fT) (h0 : x.2.length ≤ 1000000) : Tot (aB3 x) (fun y => (y = true → jA x) ∧ (jA x → y = true)) := by
 unfold aB3; try dsimp only
 refine aC (bG _) fun r1 hr1 => ?_
 apply aB <;> intro hc
 ·apply aA
  first | grind | (exact ⟨fun _ => ⟨by grind, by grind, by grind, jR (P := fun o => 0 ≤ o ∧ o ≤ 2) (by grind)⟩, by grind⟩)
 apply aB <;> intro hc
 ·apply aA
  first | grind | (exact ⟨fun _ => ⟨by grind, by grind, by grind, jR (P := fun o => 0 ≤ o ∧ o ≤ 2) (by grind)⟩, by grind⟩)
 refine aX (fun z3 => z3.1 = x ∧ z3.2 ≤ (z3.1.2.length : Int) ∧ 0 ≤ z3.2 ∧ (∀ k : Int, 0 ≤ k → k < z3.2 → 0 ≤ aV x.2 k ∧ aV x.2 k ≤ 2)) (fun z3 => ((z3.1.2.length : Int) - z3.2).toNat) fun L2 z3 hz2 hL2 => ?_
 apply aB <;> intro hc
 ·refine aH ?_
  refine aC (bG _) fun r4 hr4 => ?_
  apply aB <;> intro hc
  ·apply aA
   first | grind | (exact ⟨fun _ => ⟨by grind, by grind, by grind, jR (P := fun o => 0 ≤ o ∧ o ≤ 2) (by grind)⟩, by grind⟩)
  apply hL2 <;> grind
 apply aA
 first | grind | (exact ⟨fun _ => ⟨by grind, by grind, by grind, jR (P := fun o => 0 ≤ o ∧ o ≤ 2) (by grind)⟩, by grind⟩)
end
section
attribute [local grind] kL
theorem aNd (x : fT) (h0 : x.2.length ≤ 1000000) : Tot (nI x) (fun y => y = x) := by
 unfold nI; try dsimp only
 refine aH ?_
 apply aA
 grind
end
section
attribute [local grind] jA bT dE dM dG
theorem tT (x : fT × Int × Int) (h0 : x.1.2.length ≤ 1000000) : Tot (mP x) (fun y => jA x.1 → jA y.1) := by
 unfold mP; try dsimp only
 refine aC (aRb _ (by grind)) fun r1 hr1 => ?_
 apply aB <;> intro hc
 ·apply aA
  grind
 refine aC (aNd _ (by grind)) fun r2 hr2 => ?_
 refine aC (bG _) fun r3 hr3 => ?_
 apply aB <;> intro hc
 ·apply aA
  grind
 refine aC (bG _) fun r4 hr4 => ?_
 apply aB <;> intro hc
 ·apply aA
  grind
 apply aB <;> intro hc
 ·apply aA
  grind
 refine aH ?_
 apply aB <;> intro hc
 ·apply aA
  grind
 refine aH ?_
 apply aA
 grind
end
section
attribute [local grind] jA bT dE dM dG
theorem rH (x : List bB) (h0 : x.length ≤ 1000000) : Tot (oQ x) (fun y => jA y) := by
 unfold oQ; try dsimp only
 refine aC (vB _) fun r1 hr1 => ?_
 refine aX (fun z3 => z3.1.1 = 0 ∧ z3.1.2 = [] ∧ z3.2.2 ≤ (x.length : Int) ∧ 0 ≤ z3.2.2 ∧ jA z3.2.1) (fun z3 => ((x.length : Int) - z3.2.2).toNat) fun L2 z3 hz2 hL2 => ?_
 apply aB <;> intro hc
 ·refine aH ?_
  apply aB <;> intro hc
  ·refine aH ?_
   apply aB <;> intro hc
   ·iterate 2 refine aH ?_
    refine aC (tT _ (by grind)) fun r4 hr4 => ?_
    apply hL2 <;> grind
   apply hL2 <;> grind
  apply hL2 <;> grind
 apply aA
 grind
end
section
attribute [local grind] jA
theorem aVa (x : fT × bO) (h0 : jA x.1) : Tot (aAu x) (fun y => True) := by
 unfold aAu; try dsimp only
 refine aC (tT _ (by grind)) fun r1 hr1 => ?_
 apply aB <;> intro hc
 ·apply aA
  grind
 apply aA
 grind
end
theorem aFe (x : List aN × Int × Int) (h0 : x.1.length ≤ 1000000) : Tot (vK x) (fun y => y.length ≤ x.1.length + 1) := by
 unfold vK; try dsimp only
 refine aX (fun z2 => z2.2.2 ≤ (x.1.length : Int) ∧ 0 ≤ z2.2.2 ∧ z2.1.length ≤ z2.2.2 + (if z2.2.1 then 1 else 0)) (fun z2 => ((x.1.length : Int) - z2.2.2).toNat) fun L1 z2 hz1 hL1 => ?_
 apply aB <;> intro hc
 ·refine bF (P := fun (z3 : List aN × Bool) => z3.1.length ≤ z2.2.2 + (if z3.2 then 1 else 0)) ?_ fun z3 hz => ?_
  ·apply aB <;> intro hc
   ·refine aH ?_
    apply aB <;> intro hc
    ·refine aH ?_
     apply aA
     grind
    apply aA
    grind
   apply aA
   grind
  refine aH ?_
  apply aB <;> intro hc
  ·iterate 2 refine aH ?_
   apply hL1 <;> grind
  apply hL1 <;> grind
 apply aB <;> intro hc
 ·refine aH ?_
  apply aA
  grind
 apply aA
 grind
section
attribute [local grind] bAv
theorem aK2 (x : List aI × List aN) (h0 : x.1.length ≤ 1000000) (h1 : x.2.length ≤ 1000000) : Tot (rX x) (fun y => y.2.1.length ≤ 6 ∧ y.2.2.length ≤ 6) := by
 unfold rX; try dsimp only
 refine aC (aNn _ (by grind)) fun r1 hr1 => ?_
 apply aB <;> intro hc
 ·apply aA
  grind
 refine aC (kG _ (by grind)) fun r2 hr2 => ?_
 apply aB <;> intro hc
 ·apply aA
  grind
 refine aX (fun z4 => z4.2.2.2 ≤ (x.1.length : Int) ∧ 0 ≤ z4.2.2.2 ∧ z4.1.length ≤ 32 + z4.2.2.2 ∧ z4.2.1.length ≤ z4.2.2.2 ∧ z4.2.2.1.length ≤ z4.2.2.2) (fun z4 => ((x.1.length : Int) - z4.2.2.2).toNat) fun L3 z4 hz3 hL3 => ?_
 apply aB <;> intro hc
 ·refine aH ?_
  refine aC (aQ9 _ (by grind)) fun r5 hr5 => ?_
  apply aB <;> intro hc
  ·refine aH ?_
   apply hL3 <;> grind
  apply aB <;> intro hc
  ·apply aB <;> intro hc
   ·apply aA
    grind
   apply hL3 <;> grind
  apply aB <;> intro hc
  ·refine aC (mI _) fun r6 hr6 => ?_
   apply aB <;> intro hc
   ·apply aA
    grind
   refine aC (aFe _ (by grind)) fun r7 hr7 => ?_
   refine aC (aFe _ (by grind)) fun r8 hr8 => ?_
   apply hL3 <;> grind
  refine aC (mI _) fun r9 hr9 => ?_
  apply aB <;> intro hc
  ·apply aA
   grind
  refine aC (aFe _ (by grind)) fun r10 hr10 => ?_
  refine aC (aFe _ (by grind)) fun r11 hr11 => ?_
  apply hL3 <;> grind
 apply aA
 grind
end
section
attribute [local grind] GateI LiveG RecordG jA bT dE dM dG
theorem aPq (x : aT × bI) (h0 : GateI x.1) (h1 : LiveG x.2) : Tot (tX x) (fun y => RecordG y) := by
 unfold tX; try dsimp only
 refine aX (fun z2 => z2.1 = x.1 ∧ z2.2.1 = x.2 ∧ z2.2.2.1.1 = 0 ∧ z2.2.2.1.2.1 = 0 ∧ z2.2.2.1.2.2.1 = 0 ∧ z2.2.2.1.2.2.2.1 = 0 ∧ z2.2.2.1.2.2.2.2.1 = 0 ∧ z2.2.2.1.2.2.2.2.2.1 = emptyS ∧ z2.2.2.1.2.2.2.2.2.2.1 = 0 ∧ z2.2.2.1.2.2.2.2.2.2.2.1 = 0 ∧ z2.2.2.1.2.2.2.2.2.2.2.2.1 = 0 ∧ z2.2.2.1.2.2.2.2.2.2.2.2.2.1 = [] ∧ z2.2.2.1.2.2.2.2.2.2.2.2.2.2 = [] ∧ z2.2.2.2.2 ≤ (z2.2.1.2.2.2.2.2.2.2.2.2.2.2.length : Int) ∧ 0 ≤ z2.2.2.2.2 ∧ z2.2.2.2.1.length ≤ 32) (fun z2 => ((z2.2.1.2.2.2.2.2.2.2.2.2.2.2.length : Int) - z2.2.2.2.2).toNat) fun L1 z2 hz1 hL1 => ?_
 apply aB <;> intro hc
 ·refine aH ?_
  refine aC (uZ _ (by grind) (by grind)) fun r4 hr4 => ?_
  apply hL1 <;> grind
 apply aB <;> intro hc
 ·refine aC (rH _ (by grind)) fun r5 hr5 => ?_
  refine aC (tT _ (by grind)) fun r6 hr6 => ?_
  apply aA
  grind
 refine aC (vC _) fun r7 hr7 => ?_
 refine aC (aK2 _ (by grind) (by grind)) fun r8 hr8 => ?_
 apply aA
 grind
end
section
attribute [local grind] SlotsG
theorem aGj (x : bO) (h0 : x.2.2.2.1.size ≤ 1000000) : Tot (uB x) (fun y => SlotsG y) := by
 unfold uB; try dsimp only
 refine aC (wX _ (by grind)) fun r1 hr1 => ?_
 apply aB <;> intro hc
 ·apply aA
  grind
 refine aC (vC _) fun r2 hr2 => ?_
 refine aX (fun z4 => z4.2.2.2 ≤ 8 ∧ 0 ≤ z4.2.2.2 ∧ z4.1 = x ∧ z4.2.1.length ≤ z4.2.2.2 ∧ (∀ s ∈ z4.2.1, 0 ≤ s ∧ s < 8) ∧ z4.2.2.1.length ≤ 100) (fun z4 => (8 - z4.2.2.2).toNat) fun L3 z4 hz3 hL3 => ?_
 apply aB <;> intro hc
 ·refine bF (P := fun (z5 : bO × List Int × List aI × Bool) => z5.1 = z4.1 ∧ z5.2.1 = z4.2.1 ∧ z5.2.2.1 = z4.2.2.1) ?_ fun z5 hz => ?_
  ·apply aB <;> intro hc
   ·apply aA
    grind
   apply aA
   grind
  refine aX (fun z7 => z7.1 = z5.2.2.1 ∧ z7.2.1 = z5.2.1 ∧ z7.2.2.1 = z5.1 ∧ z7.2.2.2.2 ≤ (z7.1.length : Int) ∧ 0 ≤ z7.2.2.2.2) (fun z7 => ((z7.1.length : Int) - z7.2.2.2.2).toNat) fun L6 z7 hz6 hL6 => ?_
  apply aB <;> intro hc
  ·apply aB <;> intro hc
   ·apply hL6 <;> grind
   refine aH ?_
   refine aC (yL _) fun r8 hr8 => ?_
   apply hL6 <;> grind
  apply aB <;> intro hc
  ·refine aH ?_
   apply hL3 <;> grind
  apply hL3 <;> grind
 apply aA
 grind
end
section
attribute [local grind] jA SlotsG bT dE dM dG
theorem aPt (x : fT × bO) (h0 : jA x.1) (h1 : x.2.2.2.2.1.size ≤ 1000000) : Tot (tY x) (fun y => y.length ≤ 3) := by
 unfold tY; try dsimp only
 refine aC (aGj _ (by grind)) fun r1 hr1 => ?_
 refine aX (fun z3 => z3.2.2.2.2 ≤ 3 ∧ 0 ≤ z3.2.2.2.2 ∧ z3.1 = x.1 ∧ z3.2.1 = x.2 ∧ z3.2.2.1 = r1 ∧ z3.2.2.2.1.length ≤ z3.2.2.2.2) (fun z3 => (3 - z3.2.2.2.2).toNat) fun L2 z3 hz2 hL2 => ?_
 apply aB <;> intro hc
 ·refine bF (P := fun (z4 : fT × bO × List Int × List Int × Bool) => z4.1 = x.1 ∧ z4.2.1 = x.2 ∧ z4.2.2.1 = r1 ∧ z4.2.2.2.1 = z3.2.2.2.1) ?_ fun z4 hz => ?_
  ·apply aB <;> intro hc
   ·apply aA
    grind
   apply aA
   grind
  refine aX (fun z6 => z6.1 = z4.2.2.2.1 ∧ z6.2.1 = z4.2.2.1 ∧ z6.2.2.1 = z4.2.1 ∧ z6.2.2.2.1 = z4.1 ∧ z6.2.2.2.2.2 ≤ (z6.2.1.length : Int) ∧ 0 ≤ z6.2.2.2.2.2) (fun z6 => ((z6.2.1.length : Int) - z6.2.2.2.2.2).toNat) fun L5 z6 hz5 hL5 => ?_
  apply aB <;> intro hc
  ·apply aB <;> intro hc
   ·apply hL5 <;> grind
   iterate 2 refine aH ?_
   apply hL5 <;> grind
  apply aB <;> intro hc
  ·refine aH ?_
   apply hL2 <;> grind
  apply hL2 <;> grind
 apply aA
 grind
end
theorem aXv (x : List aN × aN) (h0 : x.1.length ≤ 1000000) : Tot (aD8 x) (fun y => y.length ≤ x.1.length + 1) := by
 unfold aD8; try dsimp only
 refine aX (fun z2 => z2.2.2.2 ≤ (x.1.length : Int) ∧ 0 ≤ z2.2.2.2 ∧ z2.1 = x.2 ∧ z2.2.1.length ≤ z2.2.2.2 + (if z2.2.2.1 then 1 else 0)) (fun z2 => ((x.1.length : Int) - z2.2.2.2).toNat) fun L1 z2 hz1 hL1 => ?_
 apply aB <;> intro hc
 ·refine bF (P := fun (z4 : aN × List aN × Bool) => z4.1 = x.2 ∧ z4.2.1.length ≤ z2.2.2.2 + (if z4.2.2 then 1 else 0)) ?_ fun z4 hz => ?_
  ·refine bF (P := fun (z3 : aN × List aN × Bool) => z3.1 = x.2 ∧ z3.2.1 = z2.2.1 ∧ (z3.2.2 = true → z2.2.2.1 = false)) ?_ fun z3 hz => ?_
   ·apply aB <;> intro hc
    ·refine aH ?_
     apply aB <;> intro hc
     ·apply aA
      grind
     refine aH ?_
     apply aB <;> intro hc
     ·refine aH ?_
      apply aA
      grind
     apply aA
     grind
    apply aA
    grind
   apply aB <;> intro hc
   ·refine aH ?_
    apply aA
    grind
   apply aA
   grind
  iterate 2 refine aH ?_
  apply hL1 <;> grind
 apply aB <;> intro hc
 ·refine aH ?_
  apply aA
  grind
 apply aA
 grind
theorem aSx (x : List bB × Int) (h0 : x.1.length ≤ 1000000) : Tot (aBt x) (fun y => jA y) := by
 unfold aBt; try dsimp only
 refine aX (fun z2 => z2.1.1 = 0 ∧ z2.1.2 = [] ∧ 0 ≤ z2.2 ∧ z2.2 ≤ (x.1.length : Int) + 1) (fun z2 => ((x.1.length : Int) + 1 - z2.2).toNat) fun L1 z2 hz1 hL1 => ?_
 apply aB <;> intro hc
 ·refine aH ?_
  refine aC (rH _ (by grind)) fun r3 hr3 => ?_
  apply aB <;> intro hc
  ·apply aA
   grind
  apply hL1 <;> grind
 refine aC (rH _ (by grind)) fun r4 hr4 => ?_
 apply aA
 grind
section
attribute [local grind] GateI LiveG dV jA SlotsG bT dE dM dG
theorem aKy (x : aT × bI × Int) (h0 : GateI x.1) (h1 : LiveG x.2.1) : Tot (wL x) (fun y => dV y) := by
 unfold wL; try dsimp only
 refine aC (aSx _ (by grind)) fun r1 hr1 => ?_
 refine aC (aGj _ (by grind)) fun r2 hr2 => ?_
 refine aX (fun z4 => z4.2.2.2.2.2 ≤ (z4.2.2.2.1.length : Int) ∧ 0 ≤ z4.2.2.2.2.2 ∧ 0 ≤ z4.2.2.2.2.2 ∧ z4.1 = x.2.1 ∧ z4.2.2.1 = r1 ∧ z4.2.2.2.1 = r2 ∧ dV z4.2.2.2.2.1 ∧ z4.2.2.2.2.1.2.2.2.2.2.2.2.1.length ≤ z4.2.2.2.2.2) (fun z4 => (r2.length - z4.2.2.2.2.2).toNat) fun L3 z4 hz3 hL3 => ?_
 apply aB <;> intro hc
 ·refine bF (P := fun (z9 : bI × aP × fT × List Int × aP) => z9.1 = x.2.1 ∧ z9.2.2.1 = r1 ∧ z9.2.2.2.1 = r2 ∧ dV z9.2.2.2.2 ∧ z9.2.2.2.2.2.2.2.2.2.2.2.1.length ≤ z4.2.2.2.2.2 + 1) ?_ fun z9 hz => ?_
  ·refine bF (P := fun (z7 : bI × aP × fT × List Int × aP × Bool) => z7.1 = x.2.1 ∧ z7.2.2.1 = r1 ∧ z7.2.2.2.1 = r2 ∧ z7.2.2.2.2.1 = z4.2.2.2.2.1) ?_ fun z7 hz => ?_
   ·iterate 2 refine aH ?_
    apply aB <;> intro hc
    ·apply aA
     grind
    apply aA
    grind
   apply aB <;> intro hc
   ·iterate 2 refine aH ?_
    apply aA
    grind
   apply aA
   grind
  apply hL3 <;> grind
 apply aB <;> intro hc
 ·apply aB <;> intro hc
  ·apply aA
   grind
  apply aA
  grind
 apply aA
 grind
end
end Ab
end
section
set_option maxRecDepth 100000
set_option linter.unusedVariables false
namespace Ab
open Go
set_option maxHeartbeats 4000000
attribute [local grind] inb dD eX eH aQ aF size_mk dL bL bV dB bW bN aW aZ bK bA
section
attribute [local grind] GateI LiveG bT dE dM dG
theorem aH1 (T : (aT × Int) → Option (aT × List aP)) (n : Nat) (hT : ∀ x : aT × Int, GateI x.1 → x.1.2.2.2.2.2.length + 50 * x.1.2.2.2.2.1.length ≤ 1040 → 0 ≤ x.2 → x.2 < x.1.2.2.2.2.1.length → x.1.2.2.2.2.1.length ≤ n → Tot (T x) (fun y => y.1.2.2.2.2.1.length + 1 ≤ x.1.2.2.2.2.1.length ∧ y.1.2.2.2.1.length + y.1.2.2.2.2.1.length ≤ x.1.2.2.2.1.length + x.1.2.2.2.2.1.length ∧ y.1.2.2.2.2.2.length + 12 ≤ x.1.2.2.2.2.2.length + 12 * x.1.2.2.2.2.1.length ∧ GateI y.1 ∧ y.2.length + 86 ≤ 100 * x.1.2.2.2.2.1.length ∧ ∀ w ∈ y.2, dV w)) (x : aT) (h0 : x.2.2.2.2.1.length ≤ n) (h1 : GateI x) (h2 : x.2.2.2.2.2.length + 50 * x.2.2.2.2.1.length ≤ 1000) : Tot (xD T x) (fun y => y.1.2.2.2.2.1.length ≤ x.2.2.2.2.1.length ∧ y.1.2.2.2.1.length + y.1.2.2.2.2.1.length ≤ x.2.2.2.1.length + x.2.2.2.2.1.length ∧ y.1.2.2.2.2.2.length ≤ x.2.2.2.2.2.length + 12 * x.2.2.2.2.1.length ∧ GateI y.1 ∧ y.2.length ≤ 100 * x.2.2.2.2.1.length + 10 ∧ ∀ w ∈ y.2, dV w) := by
 unfold xD; try dsimp only
 refine aC (rH _ (by grind)) fun r1 hr1 => ?_
 refine aX (fun z3 => z3.2.1.1 = false ∧ z3.2.1.2.1 = 0 ∧ z3.2.1.2.2.1 = 0 ∧ z3.2.1.2.2.2.1 = [] ∧ z3.2.1.2.2.2.2.1 = [] ∧ z3.2.1.2.2.2.2.2 = [] ∧ z3.2.2.2.1 = r1 ∧ z3.2.2.2.2.2 ≤ (z3.1.2.2.2.2.1.length : Int) ∧ 0 ≤ z3.2.2.2.2.2 ∧ 0 ≤ z3.2.2.2.2.2 ∧ GateI z3.1 ∧ z3.1.2.2.2.2.1.length = x.2.2.2.2.1.length ∧ z3.2.2.2.2.2 ≤ x.2.2.2.2.1.length ∧ z3.1.2.2.2.2.2.length ≤ x.2.2.2.2.2.length + 3 * z3.2.2.2.2.2 ∧ z3.1.2.2.2.1.length = x.2.2.2.1.length ∧ z3.2.2.1.length ≤ 3 * z3.2.2.2.2.2 ∧ (∀ w ∈ z3.2.2.1, dV w) ∧ jA z3.2.2.2.1 ∧ z3.2.2.2.2.1.length ≤ 3 * z3.2.2.2.2.2) (fun z3 => (x.2.2.2.2.1.length - z3.2.2.2.2.2).toNat) fun L2 z3 hz2 hL2 => ?_
 apply aB <;> intro hc
 ·refine aH ?_
  apply aB <;> intro hc
  ·apply hL2 <;> grind
  refine aH ?_
  refine aC (aVa _ (by grind)) fun r6 hr6 => ?_
  apply aB <;> intro hc
  ·refine aC (hT _ (by grind) (by grind) (by grind) (by grind) (by grind)) fun r7 hr7 => ?_
   refine aH ?_
   apply aA
   grind
  refine aH ?_
  refine aC (aPt _ (by grind [aF, size_mk, dL, bL, bV, dB, bW, bN, aW, aZ, bK, bA, bT, dE, dM, dG]) (by grind [aF, size_mk, dL, bL, bV, dB, bW, bN, aW, aZ, bK, bA, bT, dE, dM, dG])) fun r8 hr8 => ?_
  refine aX (fun z10 => z10.1 = z3.2.2.2.2.1 ∧ z10.2.1 = z3.2.2.2.1 ∧ z10.2.2.1 = z3.2.2.1 ∧ z10.2.2.2.1 = z3.2.1 ∧ z10.2.2.2.2.1 = z3.1 ∧ z10.2.2.2.2.2.1 = r8 ∧ z10.2.2.2.2.2.2.2 ≤ (z10.2.2.2.2.2.1.length : Int) ∧ 0 ≤ z10.2.2.2.2.2.2.2 ∧ 0 ≤ z10.2.2.2.2.2.2.2) (fun z10 => ((z10.2.2.2.2.2.1.length : Int) - z10.2.2.2.2.2.2.2).toNat) fun L9 z10 hz9 hL9 => ?_
  apply aB <;> intro hc
  ·apply aB <;> intro hc
   ·refine aH ?_
    refine aC (aKx _ (by grind)) fun r12 hr12 => ?_
    apply aB <;> intro hc
    ·refine aH ?_
     refine aC (wH _ (by grind)) fun r13 hr13 => ?_
     apply hL9 <;> grind
    apply hL9 <;> grind
   apply hL9 <;> grind
  apply aB <;> intro hc
  ·refine aH ?_
   apply hL2 <;> grind
  iterate 2 refine aH ?_
  refine eZ (fun z17 => z17.1 = z10.2.2.2.2.2.1 ∧ z17.2.1.1 = z10.2.2.2.2.1.1 ∧ z17.2.1.2.1 = z10.2.2.2.2.1.2.1 ∧ z17.2.1.2.2.1 = z10.2.2.2.2.1.2.2.1 ∧ z17.2.1.2.2.2.1 = z10.2.2.2.2.1.2.2.2.1 ∧ z17.2.1.2.2.2.2.1 = (dP (dP z10.2.2.2.2.1.2.2.2.2.1 z3.2.2.2.2.2 ((aK z10.2.2.2.2.1.2.2.2.2.1 z3.2.2.2.2.2).1, ((aK z10.2.2.2.2.1.2.2.2.2.1 z3.2.2.2.2.2).2.1, ((aK z10.2.2.2.2.1.2.2.2.2.1 z3.2.2.2.2.2).2.2.1, (1, (aK z10.2.2.2.2.1.2.2.2.2.1 z3.2.2.2.2.2).2.2.2.2))))) z3.2.2.2.2.2 ((aK (dP z10.2.2.2.2.1.2.2.2.2.1 z3.2.2.2.2.2 ((aK z10.2.2.2.2.1.2.2.2.2.1 z3.2.2.2.2.2).1, ((aK z10.2.2.2.2.1.2.2.2.2.1 z3.2.2.2.2.2).2.1, ((aK z10.2.2.2.2.1.2.2.2.2.1 z3.2.2.2.2.2).2.2.1, (1, (aK z10.2.2.2.2.1.2.2.2.2.1 z3.2.2.2.2.2).2.2.2.2))))) z3.2.2.2.2.2).1, ((aK (dP z10.2.2.2.2.1.2.2.2.2.1 z3.2.2.2.2.2 ((aK z10.2.2.2.2.1.2.2.2.2.1 z3.2.2.2.2.2).1, ((aK z10.2.2.2.2.1.2.2.2.2.1 z3.2.2.2.2.2).2.1, ((aK z10.2.2.2.2.1.2.2.2.2.1 z3.2.2.2.2.2).2.2.1, (1, (aK z10.2.2.2.2.1.2.2.2.2.1 z3.2.2.2.2.2).2.2.2.2))))) z3.2.2.2.2.2).2.1, (z10.2.1.1, (aK (dP z10.2.2.2.2.1.2.2.2.2.1 z3.2.2.2.2.2 ((aK z10.2.2.2.2.1.2.2.2.2.1 z3.2.2.2.2.2).1, ((aK z10.2.2.2.2.1.2.2.2.2.1 z3.2.2.2.2.2).2.1, ((aK z10.2.2.2.2.1.2.2.2.2.1 z3.2.2.2.2.2).2.2.1, (1, (aK z10.2.2.2.2.1.2.2.2.2.1 z3.2.2.2.2.2).2.2.2.2))))) z3.2.2.2.2.2).2.2.2)))) ∧ z17.2.2.1 = z10.2.2.2.1 ∧ z17.2.2.2.2.1 = z10.2.1 ∧ z17.2.2.2.2.2.1 = z10.1 ∧ z17.2.2.2.2.2.2 ≤ (z17.1.length : Int) ∧ 0 ≤ z17.2.2.2.2.2.2 ∧ 0 ≤ z17.2.2.2.2.2.2 ∧ GateI z17.2.1 ∧ z17.2.1.2.2.2.2.1.length = x.2.2.2.2.1.length ∧ z17.2.1.2.2.2.2.2.length ≤ x.2.2.2.2.2.length + 3 * z3.2.2.2.2.2 + z17.2.2.2.2.2.2 ∧ z17.2.1.2.2.2.1.length = x.2.2.2.1.length ∧ z17.2.2.2.1.length ≤ 3 * z3.2.2.2.2.2 + z17.2.2.2.2.2.2 ∧ (∀ w ∈ z17.2.2.2.1, dV w) ∧ jA z17.2.2.2.2.1) (fun z17 => ((z17.1.length : Int) - z17.2.2.2.2.2.2).toNat) (by first | grind | (have ht := GateI.take (g := z10.2.2.2.2.1) (i := z3.2.2.2.2.2) (v := z10.2.1.1) (p := 1) (by grind) (by grind) (by grind); (repeat (any_goals (with_reducible refine And.intro ?_ ?_))) <;> first | exact ht | grind)) (by grind) fun L16 z17 hz16 hL16 => ?_
  apply aB <;> intro hc
  ·iterate 2 refine aH ?_
   refine aC (aXv _ (by grind)) fun r18 hr18 => ?_
   iterate 2 refine aH ?_
   refine aC (aKy _ (by grind) (by grind)) fun r19 hr19 => ?_
   refine aH ?_
   apply hL16 <;> grind
  apply hL2 <;> grind
 apply aA
 grind
end
section
attribute [local grind] GateI LiveG RecordG bT dE dM dG
theorem aGh (T : aT → Option (aT × List aP)) (n : Nat) (hT : ∀ x : aT, GateI x → x.2.2.2.2.2.length + 50 * x.2.2.2.2.1.length ≤ 1000 → x.2.2.2.2.1.length < n → Tot (T x) (fun y => y.1.2.2.2.2.1.length ≤ x.2.2.2.2.1.length ∧ y.1.2.2.2.1.length + y.1.2.2.2.2.1.length ≤ x.2.2.2.1.length + x.2.2.2.2.1.length ∧ y.1.2.2.2.2.2.length ≤ x.2.2.2.2.2.length + 12 * x.2.2.2.2.1.length ∧ GateI y.1 ∧ y.2.length ≤ 100 * x.2.2.2.2.1.length + 10 ∧ ∀ w ∈ y.2, dV w)) (x : aT × Int) (h0 : GateI x.1) (h1 : x.1.2.2.2.2.2.length + 50 * x.1.2.2.2.2.1.length ≤ 1040) (h2 : 0 ≤ x.2) (h3 : x.2 < x.1.2.2.2.2.1.length) (h4 : x.1.2.2.2.2.1.length ≤ n) : Tot (qA T x) (fun y => y.1.2.2.2.2.1.length + 1 ≤ x.1.2.2.2.2.1.length ∧ y.1.2.2.2.1.length + y.1.2.2.2.2.1.length ≤ x.1.2.2.2.1.length + x.1.2.2.2.2.1.length ∧ y.1.2.2.2.2.2.length + 12 ≤ x.1.2.2.2.2.2.length + 12 * x.1.2.2.2.2.1.length ∧ GateI y.1 ∧ y.2.length + 86 ≤ 100 * x.1.2.2.2.2.1.length ∧ ∀ w ∈ y.2, dV w) := by
 unfold qA; try dsimp only
 refine aH ?_
 refine aC (aPq _ (by grind) (by grind)) fun r1 hr1 => ?_
 refine aH ?_
 refine aC (aAb _ (by grind)) fun r2 hr2 => ?_
 refine bF (P := fun (z4 : aT × aT × bI × List aP) => z4.1 = (x.1.1, (x.1.2.1, (x.1.2.2.1, (x.1.2.2.2.1 ++ ([r1] : List bB), x.1.2.2.2.2)))) ∧ z4.2.2.2.length ≤ 4 ∧ ∀ w ∈ z4.2.2.2, dV w) ?_ fun z4 hz => ?_
 ·apply aB <;> intro hc
  ·refine aC (aD0 _ (by grind)) fun r3 hr3 => ?_
   refine aH ?_
   apply aA
   grind
  apply aA
  grind
 refine aC (wV _ (by grind)) fun r5 hr5 => ?_
 iterate 4 refine aH ?_
 refine aC (hT _ (by grind) (by grind) (by grind)) fun r8 hr8 => ?_
 refine aH ?_
 apply aA
 grind
end
theorem aPp : ∀ (n m : Nat) (x : aT), x.2.2.2.2.1.length ≤ n → n < m → GateI x → x.2.2.2.2.2.length + 50 * x.2.2.2.2.1.length ≤ 1000 → Tot (yS m x) (fun y => y.1.2.2.2.2.1.length ≤ x.2.2.2.2.1.length ∧ y.1.2.2.2.1.length + y.1.2.2.2.2.1.length ≤ x.2.2.2.1.length + x.2.2.2.2.1.length ∧ y.1.2.2.2.2.2.length ≤ x.2.2.2.2.2.length + 12 * x.2.2.2.2.1.length ∧ GateI y.1 ∧ y.2.length ≤ 100 * x.2.2.2.2.1.length + 10 ∧ ∀ w ∈ y.2, dV w) := by
 intro n
 induction n with
 | zero =>
  intro m x h0 hm h1 h2
  obtain ⟨m, rfl⟩ : ∃ q, m = q + 1 := ⟨m - 1, by omega⟩
  exact aH1 _ 0 (fun x a b c d e => absurd e (by omega)) x h0 h1 h2
 | succ n ih =>
  intro m x h0 hm h1 h2
  obtain ⟨m, rfl⟩ : ∃ q, m = q + 1 := ⟨m - 1, by omega⟩
  exact aH1 _ (n + 1) (fun x a b c d e => aGh _ (n + 1) (fun x a b c => ih m x (by omega) (by omega) a b) x a b c d e) x h0 h1 h2
theorem yI (x : aT) (h0 : GateI x) (h1 : x.2.2.2.2.2.length + 50 * x.2.2.2.2.1.length ≤ 1000) : Tot (wK x) (fun y => y.1.2.2.2.2.1.length ≤ x.2.2.2.2.1.length ∧ y.1.2.2.2.1.length + y.1.2.2.2.2.1.length ≤ x.2.2.2.1.length + x.2.2.2.2.1.length ∧ y.1.2.2.2.2.2.length ≤ x.2.2.2.2.2.length + 12 * x.2.2.2.2.1.length ∧ GateI y.1 ∧ y.2.length ≤ 100 * x.2.2.2.2.1.length + 10 ∧ ∀ w ∈ y.2, dV w) := aPp 4 1000000 x (by have := h0.2.2.1; omega) (by decide) h0 h1
theorem aSw (x : aT × Int) (h0 : GateI x.1) (h1 : x.1.2.2.2.2.2.length + 50 * x.1.2.2.2.2.1.length ≤ 1040) (h2 : 0 ≤ x.2) (h3 : x.2 < x.1.2.2.2.2.1.length) : Tot (aG6 x) (fun y => y.1.2.2.2.2.1.length + 1 ≤ x.1.2.2.2.2.1.length ∧ y.1.2.2.2.1.length + y.1.2.2.2.2.1.length ≤ x.1.2.2.2.1.length + x.1.2.2.2.2.1.length ∧ y.1.2.2.2.2.2.length + 12 ≤ x.1.2.2.2.2.2.length + 12 * x.1.2.2.2.2.1.length ∧ GateI y.1 ∧ y.2.length + 86 ≤ 100 * x.1.2.2.2.2.1.length ∧ ∀ w ∈ y.2, dV w) :=
  aGh _ 4 (fun x a b _ => yI x a b) x h0 h1 h2 h3 (by have := h0.2.2.1; omega)
end Ab
end
section
set_option maxRecDepth 100000
set_option linter.unusedVariables false
namespace Ab
open Go
set_option maxHeartbeats 4000000
attribute [local grind] inb dD eX eH aQ aF size_mk dL bL bV dB bW bN aW aZ bK bA
section
attribute [local grind] GateI GateG LiveS.g bT dE dM dG
attribute [local grind →] GateG.i
theorem aVb (x : aT × Int) (h0 : GateG x.1) (h1 : 0 ≤ x.2) (h2 : x.2 < x.1.2.2.2.2.1.length) : Tot (aFn x) (fun y => GateI y.1 ∧ y.1.2.2.2.2.1.length ≤ 2 ∧ y.1.2.2.2.2.2.length ≤ 100 ∧ y.1.2.2.2.1.length + y.1.2.2.2.2.1.length ≤ 63 ∧ y.2.length ≤ 500 ∧ ∀ w ∈ y.2, dV w) := by
 unfold aFn; try dsimp only
 refine aH ?_
 refine aC (aD0 _ (by grind)) fun r1 hr1 => ?_
 refine aC (wV _ (by grind)) fun r2 hr2 => ?_
 iterate 4 refine aH ?_
 refine aC (yI _ (by grind) (by grind)) fun r5 hr5 => ?_
 refine aH ?_
 apply aA
 grind
end
theorem aG5 (x : List aN × Int × Int) (h0 : x.1.length ≤ 1000000) : Tot (aAv x) (fun y => True) := by
 unfold aAv; try dsimp only
 refine aX (fun z2 => z2 ≤ (x.1.length : Int) ∧ 0 ≤ z2) (fun z2 => ((x.1.length : Int) - z2).toNat) fun L1 z2 hz1 hL1 => ?_
 apply aB <;> intro hc
 ·refine aH ?_
  apply aB <;> intro hc
  ·refine aH ?_
   apply aB <;> intro hc
   ·apply aA
    grind
   apply hL1 <;> grind
  apply hL1 <;> grind
 apply aA
 grind
theorem aU8 (x : List Int × Int) (h0 : x.1.length ≤ 1000000) : Tot (aFl x) (fun y => y.length ≤ 3) := by
 unfold aFl; try dsimp only
 refine aX (fun z2 => z2.2 ≤ 3 ∧ 0 ≤ z2.2 ∧ z2.1.length ≤ z2.2) (fun z2 => (3 - z2.2).toNat) fun L1 z2 hz1 hL1 => ?_
 apply aB <;> intro hc
 ·apply aB <;> intro hc
  ·refine aH ?_
   apply hL1 <;> grind
  refine aC (wH _ (by grind)) fun r3 hr3 => ?_
  apply aB <;> intro hc
  ·refine aH ?_
   apply hL1 <;> grind
  apply hL1 <;> grind
 apply aA
 grind
theorem aDx (x : aT × Int) (h0 : x.1.2.2.2.2.2.length ≤ 1000000) : Tot (wI x) (fun y => y.length ≤ 3) := by
 unfold wI; try dsimp only
 refine aX (fun z2 => z2.1 = x.1 ∧ z2.2.2 ≤ 3 ∧ 0 ≤ z2.2.2 ∧ z2.2.1.length ≤ z2.2.2) (fun z2 => (3 - z2.2.2).toNat) fun L1 z2 hz1 hL1 => ?_
 apply aB <;> intro hc
 ·refine aC (aG5 _ (by grind)) fun r3 hr3 => ?_
  apply aB <;> intro hc
  ·refine aH ?_
   apply hL1 <;> grind
  apply hL1 <;> grind
 apply aA
 grind
theorem aNf (x : List Int × List Int) (h0 : x.1.length ≤ 1000000) (h1 : x.2.length ≤ 1000000) : Tot (aD9 x) (fun y => True) := by
 unfold aD9; try dsimp only
 refine aX (fun z2 => z2 ≤ (x.1.length : Int) ∧ 0 ≤ z2) (fun z2 => ((x.1.length : Int) - z2).toNat) fun L1 z2 hz1 hL1 => ?_
 apply aB <;> intro hc
 ·refine aX (fun z4 => z4.2 ≤ (x.2.length : Int) ∧ 0 ≤ z4.2) (fun z4 => ((x.2.length : Int) - z4.2).toNat) fun L3 z4 hz3 hL3 => ?_
  apply aB <;> intro hc
  ·apply aB <;> intro hc
   ·apply hL3 <;> grind
   iterate 2 refine aH ?_
   apply hL3 <;> grind
  apply aB <;> intro hc
  ·apply aA
   grind
  apply hL1 <;> grind
 apply aA
 grind
section
attribute [local grind] bT dE dM dG
theorem aU9 (x : List gY × gY) (h0 : x.1.length ≤ 1000000) : Tot (aFm x) (fun y => y.length ≤ x.1.length + 1 ∧ ∀ w ∈ y, w ∈ x.1 ∨ w = x.2) := by
 unfold aFm; try dsimp only
 refine aX (fun z2 => z2.2.2.2 ≤ (x.1.length : Int) ∧ 0 ≤ z2.2.2.2 ∧ z2.1 = x.2 ∧ 0 ≤ z2.2.2.2 ∧ z2.2.1.length ≤ z2.2.2.2 + (if z2.2.2.1 then 1 else 0) ∧ (∀ w ∈ z2.2.1, w ∈ x.1 ∨ w = x.2)) (fun z2 => ((x.1.length : Int) - z2.2.2.2).toNat) fun L1 z2 hz1 hL1 => ?_
 apply aB <;> intro hc
 ·refine bF (P := fun (z3 : gY × List gY × Bool) => z3.1 = x.2 ∧ z3.2.1.length ≤ z2.2.2.2 + (if z3.2.2 then 1 else 0) ∧ ∀ w ∈ z3.2.1, w ∈ x.1 ∨ w = x.2) ?_ fun z3 hz => ?_
  ·apply aB <;> intro hc
   ·refine aH ?_
    apply aB <;> intro hc
    ·refine aH ?_
     apply aA
     grind
    apply aA
    grind
   apply aA
   grind
  refine aH ?_
  apply aB <;> intro hc
  ·iterate 2 refine aH ?_
   apply hL1 <;> grind
  apply hL1 <;> grind
 apply aB <;> intro hc
 ·refine aH ?_
  apply aA
  grind
 apply aA
 grind
end
theorem aNe (x : List gY) (h0 : x.length ≤ 1000000) : Tot (vG x) (fun y => y.length ≤ x.length) := by
 unfold vG; try dsimp only
 refine aX (fun z2 => z2.2 ≤ (x.length : Int) ∧ 0 ≤ z2.2 ∧ z2.1.length ≤ z2.2) (fun z2 => ((x.length : Int) - z2.2).toNat) fun L1 z2 hz1 hL1 => ?_
 apply aB <;> intro hc
 ·iterate 2 refine aH ?_
  apply hL1 <;> grind
 apply aA
 grind
section
attribute [local grind] GateI LiveG bT dE dM dG
theorem aBm (x : aT × Int) (h0 : GateI x.1) (h1 : x.1.2.2.2.2.1.length ≤ 3) (h2 : x.1.2.2.2.2.2.length ≤ 100) (h3 : 0 ≤ x.2) (h4 : x.2 < x.1.2.2.2.2.1.length) : Tot (rT x) (fun y => GateI y.1 ∧ y.2.length ≤ 1000 ∧ ∀ w ∈ y.2, dV w) := by
 unfold rT; try dsimp only
 refine aH ?_
 refine aC (aD0 _ (by grind)) fun r1 hr1 => ?_
 refine aC (wV _ (by grind)) fun r2 hr2 => ?_
 refine aH ?_
 refine aC (yI _ (by grind [aF, size_mk, dL, bL, bV, dB, bW, bN, aW, aZ, bK, bA, bT, dE, dM, dG]) (by grind [aF, size_mk, dL, bL, bV, dB, bW, bN, aW, aZ, bK, bA, bT, dE, dM, dG])) fun r4 hr4 => ?_
 refine aH ?_
 apply aA
 grind
end
section
attribute [local grind] GateG RecordG bT dE dM dG
theorem aSz (x : aT × aP) (h0 : GateG x.1) : Tot (aBv x) (fun y => y.length ≤ 1000 ∧ ∀ w ∈ y, dV w) := by
 unfold aBv; try dsimp only
 refine aX (fun z2 => z2.1 = x.1 ∧ z2.2.1 = x.2 ∧ z2.2.2 ≤ (z2.1.2.2.2.1.length : Int) ∧ 0 ≤ z2.2.2) (fun z2 => ((z2.1.2.2.2.1.length : Int) - z2.2.2).toNat) fun L1 z2 hz1 hL1 => ?_
 apply aB <;> intro hc
 ·refine aH ?_
  apply aB <;> intro hc
  ·apply aB <;> intro hc
   ·refine aC (wW _ (by grind [aF, size_mk, dL, bL, bV, dB, bW, bN, aW, aZ, bK, bA, bT, dE, dM, dG])) fun r6 hr6 => ?_
    apply aA
    grind
   refine aC (wW _ (by grind [aF, size_mk, dL, bL, bV, dB, bW, bN, aW, aZ, bK, bA, bT, dE, dM, dG])) fun r7 hr7 => ?_
   apply aA
   grind
  apply hL1 <;> grind
 refine aC (aDy _ (by grind)) fun r8 hr8 => ?_
 apply aB <;> intro hc
 ·refine aH ?_
  apply aB <;> intro hc
  ·apply aA
   grind
  refine aC (wW _ (by grind)) fun r10 hr10 => ?_
  apply aA
  grind
 refine aC (wW _ (by grind)) fun r11 hr11 => ?_
 apply aA
 grind
end
section
attribute [local grind] GateI GateG LiveG LiveS LiveS.g RecordG jA bT dE dM dG
attribute [local grind →] GateG.i
theorem aXw (x : aT × aP) (h0 : GateG x.1) (h1 : x.2.2.2.2.2.2.2.2.2.2.2.2.2.2.2.1.size ≤ 80) : Tot (aH8 x) (fun y => GateI y.1 ∧ y.2.length ≤ 1000 ∧ ∀ w ∈ y.2, dV w) := by
 unfold aH8; try dsimp only
 refine aC (bG _) fun r1 hr1 => ?_
 apply aB <;> intro hc
 ·apply aA
  grind
 refine aC (bG _) fun r2 hr2 => ?_
 apply aB <;> intro hc
 ·apply aA
  grind
 apply aB <;> intro hc
 ·apply aA
  grind
 refine aC (wX _ (by grind)) fun r4 hr4 => ?_
 apply aB <;> intro hc
 ·refine aC (aAb _ (by grind)) fun r5 hr5 => ?_
  refine dO (by first | rfl | simp only [dC]) ?_
  apply aA
  grind
 refine aC (aDz _ (by grind)) fun r6 hr6 => ?_
 refine bF (P := fun (z9 : aT × aT × bO × List aP × bB) => z9.1 = x.1 ∧ z9.2.2.1 = x.2.2.2.2.2.2.2.2.2.2.2.2 ∧ z9.2.2.2.1 = [] ∧ z9.2.2.2.2 = r6.1) ?_ fun z9 hz => ?_
 ·refine bF (P := fun (z7 : aT × aT × bO × List aP × bB × Bool) => z7.1 = x.1 ∧ z7.2.2.1 = x.2.2.2.2.2.2.2.2.2.2.2.2 ∧ z7.2.2.2.1 = [] ∧ z7.2.2.2.2.1 = r6.1 ∧ (z7.2.2.2.2.2 = true → r6.2 = true)) ?_ fun z7 hz => ?_
  ·apply aB <;> intro hc
   ·apply aA
    grind
   apply aA
   grind
  apply aB <;> intro hc
  ·refine aC (aAb _ (by grind)) fun r8 hr8 => ?_
   refine dO (by first | rfl | simp only [dC]) ?_
   apply aA
   grind
  apply aA
  grind
 refine bF (P := fun (z13 : aT × aT × bO × List aP) => z13.1 = x.1 ∧ z13.2.2.1 = x.2.2.2.2.2.2.2.2.2.2.2.2 ∧ z13.2.2.2 = []) ?_ fun z13 hz => ?_
 ·refine bF (P := fun (z12 : aT × aT × bO × List aP × Bool) => z12.1 = x.1 ∧ z12.2.2.1 = x.2.2.2.2.2.2.2.2.2.2.2.2 ∧ z12.2.2.2.1 = []) ?_ fun z12 hz => ?_
  ·apply aB <;> intro hc
   ·apply aB <;> intro hc
    ·apply aA
     grind
    apply aB <;> intro hc
    ·apply aA
     grind
    apply aA
    grind
   apply aB <;> intro hc
   ·apply aA
    grind
   apply aA
   grind
  apply aB <;> intro hc
  ·apply aA
   grind
  apply aA
  grind
 refine bF (P := fun (z20 : aT × aT × bO × List aP) => GateI z20.1 ∧ z20.1.2.2.2.2.1.length ≤ 3 ∧ z20.1.2.2.2.2.2.length ≤ 100 ∧ z20.1.2.2.2.1.length + z20.1.2.2.2.2.1.length ≤ 63 ∧ z20.2.2.2.length ≤ 500 ∧ (∀ w ∈ z20.2.2.2, dV w) ∧ z20.2.2.1 = x.2.2.2.2.2.2.2.2.2.2.2.2) ?_ fun z20 hz => ?_
 ·refine aX (fun z15 => z15.1 = z13.1 ∧ z15.2.1 = z13.2.1 ∧ z15.2.2.1 = z13.2.2.1 ∧ z15.2.2.2.1 = z13.2.2.2 ∧ z15.2.2.2.2 ≤ (z15.1.2.2.2.2.1.length : Int) ∧ 0 ≤ z15.2.2.2.2) (fun z15 => ((z15.1.2.2.2.2.1.length : Int) - z15.2.2.2.2).toNat) fun L14 z15 hz14 hL14 => ?_
  apply aB <;> intro hc
  ·refine aH ?_
   apply aB <;> intro hc
   ·apply hL14 <;> grind
   refine aH ?_
   apply aB <;> intro hc
   ·apply aA
    grind
   refine aC (aVb _ (by grind) (by grind) (by grind)) fun r19 hr19 => ?_
   apply aA
   grind
  apply aA
  grind
 refine aC (rH _ (by grind)) fun r21 hr21 => ?_
 refine aH ?_
 refine aC (yI _ (by grind) (by grind)) fun r23 hr23 => ?_
 refine aH ?_
 apply aA
 grind
end
section
attribute [local grind] GateI GateG LiveG LiveS LiveS.g dV gK bT dE dM dG
attribute [local grind →] GateG.i
theorem aPr (x : aT × Int × aP) (h0 : GateG x.1) (h1 : 0 ≤ x.2.1) (h2 : x.2.1 < x.1.2.2.2.2.1.length) : Tot (yT x) (fun y => GateI y.1 ∧ y.2.length ≤ 1000 ∧ ∀ w ∈ y.2, dV w) := by
 unfold yT; try dsimp only
 refine aH ?_
 apply aB <;> intro hc
 ·apply aA
  grind
 refine aC (aG5 _ (by grind)) fun r1 hr1 => ?_
 apply aB <;> intro hc
 ·apply aA
  grind
 refine aC (aU8 _ (by grind [aF, size_mk, gK, dL, bL, bV, dB, bW, bN, aW, aZ, bK, bA, bT, dE, dM, dG])) fun r2 hr2 => ?_
 refine aH ?_
 refine aC (aDx _ (by grind)) fun r4 hr4 => ?_
 refine aH ?_
 refine aC (aNf _ (by grind) (by grind)) fun r5 hr5 => ?_
 apply aB <;> intro hc
 ·apply aA
  grind [aF, size_mk, gK, dL, bL, bV, dB, bW, bN, aW, aZ, bK, bA, bT, dE, dM, dG]
 refine aH ?_
 refine eZ (fun z8 => z8.1.1 = x.1.1 ∧ z8.1.2.1 = x.1.2.1 ∧ z8.1.2.2.1 = x.1.2.2.1 ∧ z8.1.2.2.2.1 = x.1.2.2.2.1 ∧ z8.1.2.2.2.2.1 = (dP (dP x.1.2.2.2.2.1 x.2.1 ((aK x.1.2.2.2.2.1 x.2.1).1, ((aK x.1.2.2.2.2.1 x.2.1).2.1, ((aK x.1.2.2.2.2.1 x.2.1).2.2.1, ((aK x.1.2.2.2.2.1 x.2.1).2.2.2.1, ((aK x.1.2.2.2.2.1 x.2.1).2.2.2.2.1, ((aK x.1.2.2.2.2.1 x.2.1).2.2.2.2.2.1, ((aK x.1.2.2.2.2.1 x.2.1).2.2.2.2.2.2.1, ((aK x.1.2.2.2.2.1 x.2.1).2.2.2.2.2.2.2.1, ((aK x.1.2.2.2.2.1 x.2.1).2.2.2.2.2.2.2.2.1, ((aK x.1.2.2.2.2.1 x.2.1).2.2.2.2.2.2.2.2.2.1, (r2, (aK x.1.2.2.2.2.1 x.2.1).2.2.2.2.2.2.2.2.2.2.2)))))))))))) x.2.1 ((aK (dP x.1.2.2.2.2.1 x.2.1 ((aK x.1.2.2.2.2.1 x.2.1).1, ((aK x.1.2.2.2.2.1 x.2.1).2.1, ((aK x.1.2.2.2.2.1 x.2.1).2.2.1, ((aK x.1.2.2.2.2.1 x.2.1).2.2.2.1, ((aK x.1.2.2.2.2.1 x.2.1).2.2.2.2.1, ((aK x.1.2.2.2.2.1 x.2.1).2.2.2.2.2.1, ((aK x.1.2.2.2.2.1 x.2.1).2.2.2.2.2.2.1, ((aK x.1.2.2.2.2.1 x.2.1).2.2.2.2.2.2.2.1, ((aK x.1.2.2.2.2.1 x.2.1).2.2.2.2.2.2.2.2.1, ((aK x.1.2.2.2.2.1 x.2.1).2.2.2.2.2.2.2.2.2.1, (r2, (aK x.1.2.2.2.2.1 x.2.1).2.2.2.2.2.2.2.2.2.2.2)))))))))))) x.2.1).1, ((aK (dP x.1.2.2.2.2.1 x.2.1 ((aK x.1.2.2.2.2.1 x.2.1).1, ((aK x.1.2.2.2.2.1 x.2.1).2.1, ((aK x.1.2.2.2.2.1 x.2.1).2.2.1, ((aK x.1.2.2.2.2.1 x.2.1).2.2.2.1, ((aK x.1.2.2.2.2.1 x.2.1).2.2.2.2.1, ((aK x.1.2.2.2.2.1 x.2.1).2.2.2.2.2.1, ((aK x.1.2.2.2.2.1 x.2.1).2.2.2.2.2.2.1, ((aK x.1.2.2.2.2.1 x.2.1).2.2.2.2.2.2.2.1, ((aK x.1.2.2.2.2.1 x.2.1).2.2.2.2.2.2.2.2.1, ((aK x.1.2.2.2.2.1 x.2.1).2.2.2.2.2.2.2.2.2.1, (r2, (aK x.1.2.2.2.2.1 x.2.1).2.2.2.2.2.2.2.2.2.2.2)))))))))))) x.2.1).2.1, ((aK (dP x.1.2.2.2.2.1 x.2.1 ((aK x.1.2.2.2.2.1 x.2.1).1, ((aK x.1.2.2.2.2.1 x.2.1).2.1, ((aK x.1.2.2.2.2.1 x.2.1).2.2.1, ((aK x.1.2.2.2.2.1 x.2.1).2.2.2.1, ((aK x.1.2.2.2.2.1 x.2.1).2.2.2.2.1, ((aK x.1.2.2.2.2.1 x.2.1).2.2.2.2.2.1, ((aK x.1.2.2.2.2.1 x.2.1).2.2.2.2.2.2.1, ((aK x.1.2.2.2.2.1 x.2.1).2.2.2.2.2.2.2.1, ((aK x.1.2.2.2.2.1 x.2.1).2.2.2.2.2.2.2.2.1, ((aK x.1.2.2.2.2.1 x.2.1).2.2.2.2.2.2.2.2.2.1, (r2, (aK x.1.2.2.2.2.1 x.2.1).2.2.2.2.2.2.2.2.2.2.2)))))))))))) x.2.1).2.2.1, (2, (aK (dP x.1.2.2.2.2.1 x.2.1 ((aK x.1.2.2.2.2.1 x.2.1).1, ((aK x.1.2.2.2.2.1 x.2.1).2.1, ((aK x.1.2.2.2.2.1 x.2.1).2.2.1, ((aK x.1.2.2.2.2.1 x.2.1).2.2.2.1, ((aK x.1.2.2.2.2.1 x.2.1).2.2.2.2.1, ((aK x.1.2.2.2.2.1 x.2.1).2.2.2.2.2.1, ((aK x.1.2.2.2.2.1 x.2.1).2.2.2.2.2.2.1, ((aK x.1.2.2.2.2.1 x.2.1).2.2.2.2.2.2.2.1, ((aK x.1.2.2.2.2.1 x.2.1).2.2.2.2.2.2.2.2.1, ((aK x.1.2.2.2.2.1 x.2.1).2.2.2.2.2.2.2.2.2.1, (r2, (aK x.1.2.2.2.2.1 x.2.1).2.2.2.2.2.2.2.2.2.2.2)))))))))))) x.2.1).2.2.2.2))))) ∧ z8.1.2.2.2.2.2 = x.1.2.2.2.2.2 ∧ z8.2.1.1 = false ∧ z8.2.1.2.1 = 0 ∧ z8.2.1.2.2.1 = 0 ∧ z8.2.1.2.2.2.1 = [] ∧ z8.2.1.2.2.2.2.1 = [] ∧ z8.2.1.2.2.2.2.2 = [] ∧ z8.2.2.1 = aK x.1.2.2.2.2.1 x.2.1 ∧ z8.2.2.2.1 = r4 ∧ z8.2.2.2.2.2 ≤ (z8.2.2.2.1.length : Int) ∧ 0 ≤ z8.2.2.2.2.2 ∧ z8.2.2.2.2.1.length ≤ z8.2.2.2.2.2 ∧ (∀ w ∈ z8.2.2.2.2.1, dV w) ∧ GateI z8.1) (fun z8 => ((z8.2.2.2.1.length : Int) - z8.2.2.2.2.2).toNat) (by grind [aF, size_mk, gK, dL, bL, bV, dB, bW, bN, aW, aZ, bK, bA, bT, dE, dM, dG]) (by grind [aF, size_mk, gK, dL, bL, bV, dB, bW, bN, aW, aZ, bK, bA, bT, dE, dM, dG]) fun L7 z8 hz7 hL7 => ?_
 apply aB <;> intro hc
 ·iterate 2 refine aH ?_
  apply hL7 <;> grind
 apply aA
 grind
end
section
attribute [local grind] GateI GateG LiveG LiveS LiveS.g jA kL gK bT dE dM dG
attribute [local grind →] GateG.i
theorem aL0 (x : aT × Int × aP) (h0 : GateG x.1) (h1 : 0 ≤ x.2.1) (h2 : x.2.1 < x.1.2.2.2.2.1.length) (h3 : x.2.2.2.2.2.2.2.2.2.2.1.length ≤ 32) : Tot (sQ x) (fun y => GateI y.1 ∧ y.2.length ≤ 1000 ∧ ∀ w ∈ y.2, dV w) := by
 unfold sQ; try dsimp only
 refine aH ?_
 apply aB <;> intro hc
 ·apply aA
  grind
 refine aC (aG5 _ (by grind)) fun r1 hr1 => ?_
 apply aB <;> intro hc
 ·apply aA
  grind
 apply aB <;> intro hc
 ·refine aC (aBm _ (by grind) (by grind) (by grind) (by grind) (by grind)) fun r2 hr2 => ?_
  apply aA
  grind
 refine aH ?_
 refine aC (aU9 _ (by grind [aF, size_mk, gK, dL, bL, bV, dB, bW, bN, aW, aZ, bK, bA, bT, dE, dM, dG])) fun r3 hr3 => ?_
 iterate 2 refine aH ?_
 refine aC (aDx _ (by grind)) fun r5 hr5 => ?_
 refine aC (aNe _ (by grind [aF, size_mk, gK, dL, bL, bV, dB, bW, bN, aW, aZ, bK, bA, bT, dE, dM, dG])) fun r6 hr6 => ?_
 refine aC (aNf _ (by grind [aF, size_mk, gK, dL, bL, bV, dB, bW, bN, aW, aZ, bK, bA, bT, dE, dM, dG]) (by grind [aF, size_mk, gK, dL, bL, bV, dB, bW, bN, aW, aZ, bK, bA, bT, dE, dM, dG])) fun r7 hr7 => ?_
 apply aB <;> intro hc
 ·apply aA
  grind [aF, size_mk, gK, dL, bL, bV, dB, bW, bN, aW, aZ, bK, bA, bT, dE, dM, dG]
 refine aC (rH _ (by grind)) fun r8 hr8 => ?_
 apply aB <;> intro hc
 ·refine aC (aBm _ (by grind [aF, size_mk, gK, dL, bL, bV, dB, bW, bN, aW, aZ, bK, bA, bT, dE, dM, dG]) (by grind [aF, size_mk, gK, dL, bL, bV, dB, bW, bN, aW, aZ, bK, bA, bT, dE, dM, dG]) (by grind [aF, size_mk, gK, dL, bL, bV, dB, bW, bN, aW, aZ, bK, bA, bT, dE, dM, dG]) (by grind [aF, size_mk, gK, dL, bL, bV, dB, bW, bN, aW, aZ, bK, bA, bT, dE, dM, dG]) (by grind [aF, size_mk, gK, dL, bL, bV, dB, bW, bN, aW, aZ, bK, bA, bT, dE, dM, dG])) fun r9 hr9 => ?_
  apply aA
  grind
 refine aC (aSw _ (by grind [aF, size_mk, gK, dL, bL, bV, dB, bW, bN, aW, aZ, bK, bA, bT, dE, dM, dG]) (by grind [aF, size_mk, gK, dL, bL, bV, dB, bW, bN, aW, aZ, bK, bA, bT, dE, dM, dG]) (by grind [aF, size_mk, gK, dL, bL, bV, dB, bW, bN, aW, aZ, bK, bA, bT, dE, dM, dG]) (by grind [aF, size_mk, gK, dL, bL, bV, dB, bW, bN, aW, aZ, bK, bA, bT, dE, dM, dG])) fun r10 hr10 => ?_
 apply aA
 grind
end
section
attribute [local grind] GateI.w GateG.w dE GateG.zero GateG.lives GateG.ways
attribute [local grind →] GateG.i
theorem aS7 (x : aT × aP) (h0 : GateG x.1) (h1 : dV x.2) : Tot (aB8 x) (fun y => GateG y.1 ∧ y.2.length ≤ 1000 ∧ ∀ w ∈ y.2, dV w) := by
 unfold aB8; try dsimp only
 refine aC (rJ _ (by grind)) fun r1 hr1 => ?_
 apply aB <;> intro hc
 ·apply aA
  grind
 refine aC (pQ _ (by grind)) fun r2 hr2 => ?_
 apply aB <;> intro hc
 ·apply aA
  grind
 refine aC (aNl _ (by grind)) fun r3 hr3 => ?_
 apply aB <;> intro hc
 ·apply aA
  grind
 apply aB <;> intro hc
 ·apply aA
  grind
 refine aC (aDy _ (by grind [aF, size_mk, dE, GateG.lives, GateG.ways])) fun r4 hr4 => ?_
 refine bF (P := fun (z6 : aT × aP × aT × List aP × aT × List aP × Bool) => z6.1 = x.1 ∧ z6.2.1 = x.2 ∧ z6.2.2.2.1 = [] ∧ z6.2.2.2.2.1 = x.1 ∧ z6.2.2.2.2.2.1 = [] ∧ (z6.2.2.2.2.2.2 = true → 0 ≤ r4)) ?_ fun z6 hz => ?_
 ·apply aB <;> intro hc
  ·refine aH ?_
   apply aB <;> intro hc
   ·refine aC (iJ _) fun r5 hr5 => ?_
    apply aA
    grind
   apply aA
   grind
  apply aA
  grind
 refine bF (P := fun (z18 : aT × aT × List aP × aT × List aP) => z18.1 = x.1 ∧ z18.2.2.1 = [] ∧ GateI z18.2.2.2.1 ∧ z18.2.2.2.2.length ≤ 1000 ∧ ∀ w ∈ z18.2.2.2.2, dV w) ?_ fun z18 hz => ?_
 ·apply aB <;> intro hc
  ·refine aC (aXw _ (by grind) (by grind)) fun r7 hr7 => ?_
   apply aA
   grind
  refine bF (P := fun (z9 : aT × aP × aT × List aP × aT × List aP × Bool) => z9.1 = x.1 ∧ z9.2.1 = x.2 ∧ z9.2.2.2.1 = [] ∧ z9.2.2.2.2.1 = x.1 ∧ z9.2.2.2.2.2.1 = []) ?_ fun z9 hz => ?_
  ·apply aB <;> intro hc
   ·refine aC (iJ _) fun r8 hr8 => ?_
    apply aB <;> intro hc
    ·apply aB <;> intro hc
     ·apply aA
      grind
     apply aA
     grind
    apply aA
    grind
   apply aA
   grind
  apply aB <;> intro hc
  ·refine aC (aSz _ (by grind)) fun r10 hr10 => ?_
   apply aA
   grind
  refine bF (P := fun (z11 : aT × aP × aT × List aP × aT × List aP × Bool) => z11.1 = x.1 ∧ z11.2.1 = x.2 ∧ z11.2.2.2.1 = [] ∧ z11.2.2.2.2.1 = x.1 ∧ z11.2.2.2.2.2.1 = [] ∧ (z11.2.2.2.2.2.2 = true → 0 ≤ r4)) ?_ fun z11 hz => ?_
  ·apply aB <;> intro hc
   ·apply aA
    grind
   apply aA
   grind
  apply aB <;> intro hc
  ·refine aC (aPr _ (by grind) (by grind) (by grind)) fun r12 hr12 => ?_
   apply aA
   grind
  refine bF (P := fun (z13 : aT × aP × aT × List aP × aT × List aP × Bool) => z13.1 = x.1 ∧ z13.2.1 = x.2 ∧ z13.2.2.2.1 = [] ∧ z13.2.2.2.2.1 = x.1 ∧ z13.2.2.2.2.2.1 = [] ∧ (z13.2.2.2.2.2.2 = true → 0 ≤ r4)) ?_ fun z13 hz => ?_
  ·apply aB <;> intro hc
   ·apply aA
    grind
   apply aA
   grind
  apply aB <;> intro hc
  ·refine aC (aL0 _ (by grind) (by grind) (by grind) (by grind)) fun r14 hr14 => ?_
   apply aA
   grind
  apply aB <;> intro hc
  ·apply aB <;> intro hc
   ·refine aH ?_
    apply aB <;> intro hc
    ·refine aH ?_
     apply aB <;> intro hc
     ·refine aC (aBm _ (by grind [aF, size_mk, dE, GateG.lives, GateG.ways]) (by grind [aF, size_mk, dE, GateG.lives, GateG.ways]) (by grind [aF, size_mk, dE, GateG.lives, GateG.ways]) (by grind [aF, size_mk, dE, GateG.lives, GateG.ways]) (by grind [aF, size_mk, dE, GateG.lives, GateG.ways])) fun r17 hr17 => ?_
      apply aA
      grind
     apply aA
     grind
    apply aA
    grind
   apply aA
   grind
  apply aA
  grind
 refine aC (rJ _ (by grind)) fun r19 hr19 => ?_
 apply aB <;> intro hc
 ·refine aC (pQ _ (by grind)) fun r20 hr20 => ?_
  apply aA
  grind
 refine aC (pQ _ (by grind)) fun r21 hr21 => ?_
 refine aC (aBn _ (by grind) (by grind)) fun r22 hr22 => ?_
 apply aA
 grind
end
section
attribute [local grind] dG
theorem tN (x : List aP × List aP) (h0 : x.1.length ≤ 60) (h1 : x.2.length ≤ 1000000) (h2 : ∀ w ∈ x.1, dV w) (h3 : ∀ w ∈ x.2, dV w) : Tot (pW x) (fun y => y.length ≤ 60 ∧ ∀ w ∈ y, dV w) := by
 unfold pW; try dsimp only
 refine aX (fun z2 => z2.2 ≤ (x.2.length : Int) ∧ 0 ≤ z2.2 ∧ z2.1.length ≤ 60 ∧ (∀ w ∈ z2.1, dV w)) (fun z2 => ((x.2.length : Int) - z2.2).toNat) fun L1 z2 hz1 hL1 => ?_
 apply aB <;> intro hc
 ·apply aB <;> intro hc
  ·iterate 2 refine aH ?_
   apply hL1 <;> grind
  apply aA
  grind
 apply aA
 grind
end
section
attribute [local grind] fQ
theorem aBk (x : List aU × Int) (h0 : x.1.length ≤ 1000000) : Tot (xA x) (fun y => -1 ≤ y ∧ y < x.1.length) := by
 unfold xA; try dsimp only
 refine aX (fun z2 => z2 ≤ (x.1.length : Int) ∧ 0 ≤ z2) (fun z2 => ((x.1.length : Int) - z2).toNat) fun L1 z2 hz1 hL1 => ?_
 apply aB <;> intro hc
 ·refine aH ?_
  apply aB <;> intro hc
  ·refine aH ?_
   apply aB <;> intro hc
   ·refine aH ?_
    apply aB <;> intro hc
    ·apply aA
     grind
    apply hL1 <;> grind
   apply hL1 <;> grind
  apply hL1 <;> grind
 apply aA
 grind
end
section
attribute [local grind] bY aXt aPj kL GateG.w HouseB.w gV jQ mZ fQ
theorem aU7 (x : bD) (h0 : gV x) : Tot (aAs x) (fun y => y = x) := by
 unfold aAs; try dsimp only
 simp only [List.nil_append, aEh]
 refine bF (P := fun (z6 : bD × bD × bD) => z6 = (x, ((0, (false, (0, (0, ([], ([], ([], ([], ([], []))))))))), (x.1, (x.2.1, (x.2.2.1, (x.2.2.2.1, (x.2.2.2.2.1, (x.2.2.2.2.2.1, (x.2.2.2.2.2.2.1, ([], (x.2.2.2.2.2.2.2.2.1, [])))))))))))) ?_ fun z6 hz => ?_
 ·refine dO (by first | rfl | simp only [dC]) ?_
  refine aC (pQ _ (by grind)) fun r1 hr1 => ?_
  refine dO (by first | rfl | simp only [dC]) ?_
  refine aC (aBn _ (by grind) (by grind)) fun r2 hr2 => ?_
  apply aA
  grind
 refine aX (fun z8 => z8.1 = z6.1 ∧ z8.2.1 = z6.2.1 ∧ z8.2.2.1.1 = z6.2.2.1 ∧ z8.2.2.1.2.1 = z6.2.2.2.1 ∧ z8.2.2.1.2.2.1 = z6.2.2.2.2.1 ∧ z8.2.2.1.2.2.2.1 = z6.2.2.2.2.2.1 ∧ z8.2.2.1.2.2.2.2.1 = z6.2.2.2.2.2.2.1 ∧ z8.2.2.1.2.2.2.2.2.1 = z6.2.2.2.2.2.2.2.1 ∧ z8.2.2.1.2.2.2.2.2.2.1 = z6.2.2.2.2.2.2.2.2.1 ∧ z8.2.2.1.2.2.2.2.2.2.2.2 = z6.2.2.2.2.2.2.2.2.2.2 ∧ z8.2.2.2 ≤ (z8.1.2.2.2.2.2.2.2.1.length : Int) ∧ 0 ≤ z8.2.2.2 ∧ z8.2.2.1.2.2.2.2.2.2.2.1 = x.2.2.2.2.2.2.2.1.take z8.2.2.2.toNat) (fun z8 => ((z8.1.2.2.2.2.2.2.2.1.length : Int) - z8.2.2.2).toNat) fun L7 z8 hz7 hL7 => ?_
 apply aB <;> intro hc
 ·refine aH ?_
  refine aC (kF _ (by grind)) fun r10 hr10 => ?_
  refine aH ?_
  apply hL7 <;> grind
 refine aX (fun z13 => z13.1.1 = z8.2.2.1.1 ∧ z13.1.2.1 = z8.2.2.1.2.1 ∧ z13.1.2.2.1 = z8.2.2.1.2.2.1 ∧ z13.1.2.2.2.1 = z8.2.2.1.2.2.2.1 ∧ z13.1.2.2.2.2.1 = z8.2.2.1.2.2.2.2.1 ∧ z13.1.2.2.2.2.2.1 = z8.2.2.1.2.2.2.2.2.1 ∧ z13.1.2.2.2.2.2.2.1 = z8.2.2.1.2.2.2.2.2.2.1 ∧ z13.1.2.2.2.2.2.2.2.1 = z8.2.2.1.2.2.2.2.2.2.2.1 ∧ z13.1.2.2.2.2.2.2.2.2.1 = z8.2.2.1.2.2.2.2.2.2.2.2.1 ∧ z13.2.1 = z8.2.1 ∧ z13.2.2.1 = z8.1 ∧ z13.2.2.2 ≤ (z13.2.2.1.2.2.2.2.2.2.2.2.2.length : Int) ∧ 0 ≤ z13.2.2.2 ∧ z13.1.2.2.2.2.2.2.2.2.2 = x.2.2.2.2.2.2.2.2.2.take z13.2.2.2.toNat) (fun z13 => ((z13.2.2.1.2.2.2.2.2.2.2.2.2.length : Int) - z13.2.2.2).toNat) fun L12 z13 hz12 hL12 => ?_
 apply aB <;> intro hc
 ·iterate 3 refine dH (by grind [aF, size_mk, mZ, fQ]) ?_
  apply hL12 <;> grind
 apply aA
 grind
end
theorem aPm (x : aU × Int) (h0 : x.1.2.2.2.2.2.2.2.2.2.2.length ≤ 1000000) : Tot (yQ x) (fun y => y = true → x.1.2.2.2.1.size ≤ 80 ∧ x.1.2.2.2.2.2.2.2.2.2.2.length ≤ 6) := by
 unfold yQ; try dsimp only
 refine aC (bG _) fun r1 hr1 => ?_
 apply aB <;> intro hc
 ·apply aA
  grind
 refine aC (bG _) fun r2 hr2 => ?_
 apply aB <;> intro hc
 ·apply aA
  grind
 refine aC (bG _) fun r3 hr3 => ?_
 apply aB <;> intro hc
 ·apply aA
  grind
 refine aC (aK1 _) fun r4 hr4 => ?_
 apply aB <;> intro hc
 ·apply aA
  grind
 refine aC (aBl _ (by grind)) fun r5 hr5 => ?_
 apply aB <;> intro hc
 ·apply aA
  grind
 apply aB <;> intro hc
 ·apply aB <;> intro hc
  ·apply aA
   grind
  apply aA
  grind
 apply aB <;> intro hc
 ·refine aC (bG _) fun r6 hr6 => ?_
  apply aB <;> intro hc
  ·refine aC (bG _) fun r7 hr7 => ?_
   apply aA
   grind
  apply aA
  grind
 apply aA
 grind
section
attribute [local grind] jQ fQ
theorem aNa (x : List aU × Int) (h0 : x.1.length ≤ 1000000) (h1 : ∀ c ∈ x.1, c.2.2.2.2.2.2.2.2.2.2.length ≤ 1000) : Tot (vF x) (fun y => y = true → x.1.length ≤ 18 ∧ ∀ c ∈ x.1, jQ c) := by
 unfold vF; try dsimp only
 apply aB <;> intro hc
 ·apply aA
  first | (intro h; cases h; done) | (intro _; exact ⟨by grind, iM (P := jQ) (by grind)⟩) | grind
 refine aX (fun z2 => z2 ≤ (x.1.length : Int) ∧ 0 ≤ z2 ∧ (∀ k : Int, 0 ≤ k → k < z2 → jQ (bH x.1 k))) (fun z2 => ((x.1.length : Int) - z2).toNat) fun L1 z2 hz1 hL1 => ?_
 apply aB <;> intro hc
 ·refine bF (P := fun (z : Unit) => jQ (bH x.1 z2)) ?_ fun z hz => ?_
  ·refine bF (P := fun (z5 : Bool) => z5 = false → jQ (bH x.1 z2)) ?_ fun z5 hz => ?_
   ·refine aH ?_
    refine aC (aPm _ (by grind)) fun r3 hr3 => ?_
    apply aB <;> intro hc
    ·apply aA
     first | (intro h; cases h; done) | (intro _; exact ⟨by grind, iM (P := jQ) (by grind)⟩) | grind
    apply aB <;> intro hc
    ·iterate 2 refine aH ?_
     apply aA
     first | (intro h; cases h; done) | (intro _; exact ⟨by grind, iM (P := jQ) (by grind)⟩) | grind
    apply aA
    first | (intro h; cases h; done) | (intro _; exact ⟨by grind, iM (P := jQ) (by grind)⟩) | grind
   apply aB <;> intro hc
   ·apply aA
    first | (intro h; cases h; done) | (intro _; exact ⟨by grind, iM (P := jQ) (by grind)⟩) | grind
   apply aA
   first | (intro h; cases h; done) | (intro _; exact ⟨by grind, iM (P := jQ) (by grind)⟩) | grind
  refine aX (fun z8 => z8.2 ≤ z2 ∧ 0 ≤ z8.2 ∧ jQ (bH x.1 z2)) (fun z8 => (z2 - z8.2).toNat) fun L7 z8 hz7 hL7 => ?_
  apply aB <;> intro hc
  ·iterate 2 refine aH ?_
   apply aB <;> intro hc
   ·apply hL7 <;> grind
   iterate 2 refine aH ?_
   apply aB <;> intro hc
   ·refine aH ?_
    apply aB <;> intro hc
    ·apply aA
     first | (intro h; cases h; done) | (intro _; exact ⟨by grind, iM (P := jQ) (by grind)⟩) | grind
    iterate 2 refine aH ?_
    apply aB <;> intro hc
    ·apply aA
     first | (intro h; cases h; done) | (intro _; exact ⟨by grind, iM (P := jQ) (by grind)⟩) | grind
    apply hL7 <;> grind
   apply hL7 <;> grind
  refine aH ?_
  apply aB <;> intro hc
  ·apply aA
   first | (intro h; cases h; done) | (intro _; exact ⟨by grind, iM (P := jQ) (by grind)⟩) | grind
  apply hL1 <;> grind
 apply aA
 first | (intro h; cases h; done) | (intro _; exact ⟨by grind, iM (P := jQ) (by grind)⟩) | grind
end
section
attribute [local grind] gV EvG jQ fQ
theorem aPk (x : bD × aR) (h0 : gV x.1) (h1 : EvG x.2) : Tot (yO x) (fun y => y.2 = true → gV y.1) := by
 unfold yO; try dsimp only
 refine aC (bG _) fun r1 hr1 => ?_
 apply aB <;> intro hc
 ·apply aA
  grind
 refine aC (aBk _ (by grind)) fun r2 hr2 => ?_
 apply aB <;> intro hc
 ·apply aA
  grind
 refine aX (fun z4 => z4.1 = x.1 ∧ z4.2.1 = x.2 ∧ z4.2.2.1.1 = 0 ∧ z4.2.2.1.2.1 = false ∧ z4.2.2.1.2.2.1 = 0 ∧ z4.2.2.1.2.2.2.1 = 0 ∧ z4.2.2.1.2.2.2.2.1 = [] ∧ z4.2.2.1.2.2.2.2.2.1 = [] ∧ z4.2.2.1.2.2.2.2.2.2.1 = [] ∧ z4.2.2.1.2.2.2.2.2.2.2.1 = [] ∧ z4.2.2.1.2.2.2.2.2.2.2.2.1 = [] ∧ z4.2.2.1.2.2.2.2.2.2.2.2.2 = [] ∧ z4.2.2.2.1.1 = x.2.2.2.1 ∧ z4.2.2.2.1.2.2.1 = x.2.2.2.2.2.2.2.2.1 ∧ z4.2.2.2.1.2.2.2.1 = x.2.2.2.2.2.2.2.2.2.1 ∧ z4.2.2.2.1.2.2.2.2.1 = x.2.2.2.2.2.2.2.2.2.2.1 ∧ z4.2.2.2.1.2.2.2.2.2.1 = x.2.2.2.2.2.2.2.2.2.2.2 ∧ z4.2.2.2.1.2.2.2.2.2.2.1 = x.1.1 ∧ z4.2.2.2.1.2.2.2.2.2.2.2.1 = 0 ∧ z4.2.2.2.1.2.2.2.2.2.2.2.2.1 = false ∧ z4.2.2.2.1.2.2.2.2.2.2.2.2.2.1 = 0 ∧ z4.2.2.2.1.2.2.2.2.2.2.2.2.2.2 = [] ∧ z4.2.2.2.2 ≤ (z4.1.2.2.2.2.2.2.2.2.2.length : Int) ∧ 0 ≤ z4.2.2.2.2 ∧ z4.2.2.2.1.2.2.2.2.2.2.2.2.2.2 = []) (fun z4 => ((z4.1.2.2.2.2.2.2.2.2.2.length : Int) - z4.2.2.2.2).toNat) fun L3 z4 hz3 hL3 => ?_
 apply aB <;> intro hc
 ·refine aH ?_
  apply aB <;> intro hc
  ·refine aH ?_
   apply hL3 <;> grind
  apply hL3 <;> grind
 refine aH ?_
 refine aC (aNa _ (by grind) (by grind)) fun r9 hr9 => ?_
 apply aA
 grind
end
section
attribute [local grind] GateI GateG GateG.w gV HouseB jQ dV mZ fQ dG kL
attribute [local grind →] GateG.i
theorem aAa (x : bD × aR) (h0 : gV x.1) (h1 : EvG x.2) : Tot (pX x) (fun y => y.2 = true → gV y.1) := by
 unfold pX; try dsimp only
 refine aC (aBk _ (by grind)) fun r1 hr1 => ?_
 apply aB <;> intro hc
 ·refine aC (aPk _ (by grind) (by grind)) fun r2 hr2 => ?_
  apply aA
  grind
 apply aB <;> intro hc
 ·apply aA
  grind
 apply aB <;> intro hc
 ·refine aH ?_
  apply aA
  grind [aF, size_mk, mZ, fQ, aW, aZ, dG, bK, bA]
 refine aH ?_
 refine aC (tN _ (by grind [aF, size_mk, mZ, fQ, aW, aZ, dG, bK, bA]) (by grind [aF, size_mk, mZ, fQ, aW, aZ, dG, bK, bA]) (by grind [aF, size_mk, mZ, fQ, aW, aZ, dG, bK, bA]) (by grind [aF, size_mk, mZ, fQ, aW, aZ, dG, bK, bA])) fun r4 hr4 => ?_
 apply aA
 grind
end
section
attribute [local grind] GateI GateG GateG.w gV HouseB jQ dV mZ fQ dG kL
attribute [local grind →] GateG.i
theorem aPl (x : bD × aP) (h0 : gV x.1) (h1 : dV x.2) : Tot (yP x) (fun y => gV y) := by
 unfold yP; try dsimp only
 refine aC (aBk _ (by grind)) fun r1 hr1 => ?_
 apply aB <;> intro hc
 ·apply aA
  grind
 apply aB <;> intro hc
 ·apply aA
  grind
 refine aH ?_
 apply aB <;> intro hc
 ·apply aA
  grind
 apply aB <;> intro hc
 ·apply aA
  grind
 apply aB <;> intro hc
 ·apply aA
  grind
 iterate 2 refine aH ?_
 apply aA
 grind [aF, size_mk, mZ, fQ, aW, aZ, dG, bK, bA]
end
section
attribute [local grind] GateI GateG GateG.w gV HouseB jQ dV mZ fQ dG kL
attribute [local grind →] GateG.i
theorem aH0 (x : bD × aR) (h0 : gV x.1) : Tot (wZ x) (fun y => gV y.1) := by
 unfold wZ; try dsimp only
 refine aC (bG _) fun r1 hr1 => ?_
 apply aB <;> intro hc
 ·apply aA
  grind
 refine aH ?_
 refine bF (P := fun (z5 : bD × aR × bD × aP) => gV z5.1 ∧ z5.2.1 = x.2 ∧ dV z5.2.2.2) ?_ fun z5 hz => ?_
 ·refine bF (P := fun (z2 : bD × aR × bD × aP × Bool) => z2.1 = x.1 ∧ z2.2.1 = x.2 ∧ dV z2.2.2.2.1) ?_ fun z2 hz => ?_
  ·apply aB <;> intro hc
   ·apply aA
    grind
   apply aA
   grind
  apply aB <;> intro hc
  ·iterate 4 refine aH ?_
   apply aA
   grind
  apply aA
  grind
 apply aB <;> intro hc
 ·apply aA
  grind
 apply aB <;> intro hc
 ·refine aC (aS7 _ (by grind) (by grind)) fun r6 hr6 => ?_
  refine aC (tN _ (by grind) (by grind) (by grind) (by grind)) fun r7 hr7 => ?_
  apply aA
  grind
 refine aC (iJ _) fun r8 hr8 => ?_
 apply aB <;> intro hc
 ·refine aH ?_
  refine aC (aPx _ (by grind) (by grind)) fun r9 hr9 => ?_
  refine aH ?_
  refine aC (tN _ (by grind) (by grind) (by grind) (by grind)) fun r10 hr10 => ?_
  apply aA
  grind
 refine aC (aPl _ (by grind) (by grind)) fun r11 hr11 => ?_
 apply aA
 grind
end
section
attribute [local grind] GateG.w GateG
theorem aS6 (x : aT) (h0 : GateG x) : Tot (aB7 x) (fun y => GateG y) := by
 unfold aB7; try dsimp only
 refine aC (rJ _ (by grind)) fun r1 hr1 => ?_
 apply aB <;> intro hc
 ·apply aA
  grind
 refine aC (pQ _ (by grind)) fun r2 hr2 => ?_
 apply aB <;> intro hc
 ·apply aB <;> intro hc
  ·apply aA
   grind
  apply aA
  grind
 apply aA
 grind
end
section
attribute [local grind] GateG.w GateG
theorem aS8 (x : aT) (h0 : GateG x) : Tot (aB9 x) (fun y => GateG y) := by
 unfold aB9; try dsimp only
 refine aC (rJ _ (by grind)) fun r1 hr1 => ?_
 apply aB <;> intro hc
 ·apply aA
  grind
 refine aC (pQ _ (by grind)) fun r2 hr2 => ?_
 apply aA
 grind
end
section
attribute [local grind] GateG.w GateG LiveS LiveS.g dE dM dV
attribute [local grind →] GateG.i
theorem aS5 (x : aT) (h0 : GateG x) : Tot (aB6 x) (fun y => y.length ≤ 1000000 ∧ ∀ w ∈ y, dV w) := by
 unfold aB6; try dsimp only
 refine aC (rJ _ (by grind)) fun r1 hr1 => ?_
 apply aB <;> intro hc
 ·apply aA
  grind
 apply aB <;> intro hc
 ·apply aA
  grind
 refine aX (fun z3 => z3.2.2 ≤ (z3.1.2.2.2.2.1.length : Int) ∧ 0 ≤ z3.2.2 ∧ z3.1 = x ∧ z3.2.1.length ≤ 10 * z3.2.2 ∧ (∀ w ∈ z3.2.1, dV w)) (fun z3 => ((z3.1.2.2.2.2.1.length : Int) - z3.2.2).toNat) fun L2 z3 hz2 hL2 => ?_
 apply aB <;> intro hc
 ·refine aH ?_
  refine aC (aDx _ (by grind)) fun r4 hr4 => ?_
  refine aX (fun z6 => z6.2.2.2.2 ≤ (z6.2.2.2.1.length : Int) ∧ 0 ≤ z6.2.2.2.2 ∧ z6.2.1 = x ∧ z6.2.2.1 = aK x.2.2.2.2.1 z3.2.2 ∧ z6.2.2.2.1 = r4 ∧ z6.1.length ≤ 10 * z3.2.2 + 2 * z6.2.2.2.2 ∧ (∀ w ∈ z6.1, dV w)) (fun z6 => ((z6.2.2.2.1.length : Int) - z6.2.2.2.2).toNat) fun L5 z6 hz5 hL5 => ?_
  apply aB <;> intro hc
  ·refine bF (P := fun (z16 : aT × List aP × bI × List Int) => z16.1 = x ∧ z16.2.2.1 = z6.2.2.1 ∧ z16.2.2.2 = z6.2.2.2.1 ∧ z16.2.1.length ≤ z6.1.length + 2 ∧ ∀ w ∈ z16.2.1, dV w) ?_ fun z16 hz => ?_
   ·refine eZ (fun z8 => z8.1 = z6.2.2.2.1 ∧ z8.2.1 = z6.2.2.1 ∧ z8.2.2.1 = z6.2.1 ∧ z8.2.2.2.1 = z6.1 ∧ z8.2.2.2.2.2 ≤ (z8.2.1.2.2.2.2.2.2.2.2.2.2.2.length : Int) ∧ 0 ≤ z8.2.2.2.2.2) (fun z8 => ((z8.2.1.2.2.2.2.2.2.2.2.2.2.2.length : Int) - z8.2.2.2.2.2).toNat) (by grind [aF, size_mk, dE, dM, dB]) (by grind [aF, size_mk, dE, dM, dB]) fun L7 z8 hz7 hL7 => ?_
    apply aB <;> intro hc
    ·apply aB <;> intro hc
     ·apply hL7 <;> grind [aF, size_mk, dE, dM, dB]
     iterate 2 refine aH ?_
     apply hL7 <;> grind [aF, size_mk, dE, dM, dB]
    refine bF (P := fun (z14 : aT × List aP × bI × List Int) => z14.1 = x ∧ z14.2.2.1 = z6.2.2.1 ∧ z14.2.2.2 = z6.2.2.2.1 ∧ z14.2.1.length ≤ z6.1.length + 1 ∧ ∀ w ∈ z14.2.1, dV w) ?_ fun z14 hz => ?_
    ·refine bF (P := fun (z12 : aT × List aP × bI × List Int × Bool) => z12.1 = x ∧ z12.2.1 = z6.1 ∧ z12.2.2.1 = z6.2.2.1 ∧ z12.2.2.2.1 = z6.2.2.2.1) ?_ fun z12 hz => ?_
     ·apply aB <;> intro hc
      ·refine aH ?_
       refine aC (wH _ (by grind [aF, size_mk, dE, dM, dB])) fun r11 hr11 => ?_
       apply aA
       grind
      apply aA
      grind
     apply aB <;> intro hc
     ·refine aH ?_
      refine aC (aKy _ (by grind) (by grind)) fun r13 hr13 => ?_
      refine aH ?_
      apply aA
      grind
     apply aA
     grind
    apply aB <;> intro hc
    ·apply aB <;> intro hc
     ·iterate 2 refine aH ?_
      apply aA
      grind
     apply aA
     grind
    apply aA
    grind
   apply hL5 <;> grind
  apply hL2 <;> grind
 apply aA
 grind
end
section
attribute [local grind] gV
theorem aU6 (x : bD × aR) (h0 : gV x.1) : Tot (aFj x) (fun y => gV y.1) := by
 unfold aFj; try dsimp only
 apply aB <;> intro hc
 ·refine aC (aS6 _ (by grind)) fun r1 hr1 => ?_
  apply aA
  grind
 apply aB <;> intro hc
 ·refine aC (aS8 _ (by grind)) fun r2 hr2 => ?_
  apply aA
  grind
 apply aB <;> intro hc
 ·refine aC (aS5 _ (by grind)) fun r3 hr3 => ?_
  refine aC (tN _ (by grind) (by grind) (by grind) (by grind)) fun r4 hr4 => ?_
  apply aA
  grind
 apply aA
 grind
end
section
attribute [local grind] GateI GateG GateG.w gV HouseB jQ dV mZ fQ dG kL
attribute [local grind →] GateG.i
theorem aSu (x : bD × aR) (h0 : gV x.1) (h1 : 0 ≤ x.2.2.1) (h2 : x.2.2.1 ≤ 2) : Tot (aBs x) (fun y => gV y.1) := by
 unfold aBs; try dsimp only
 refine aH ?_
 apply aB <;> intro hc
 ·refine aC (aPw _ (by grind)) fun r1 hr1 => ?_
  refine aH ?_
  apply aB <;> intro hc
  ·refine aH ?_
   apply aA
   grind
  apply aA
  grind
 apply aB <;> intro hc
 ·refine aC (aPy _ (by grind)) fun r2 hr2 => ?_
  refine aH ?_
  apply aA
  grind
 apply aB <;> intro hc
 ·refine aC (aPv _ (by grind)) fun r3 hr3 => ?_
  refine aC (tN _ (by grind) (by grind) (by grind) (by grind)) fun r4 hr4 => ?_
  apply aA
  grind
 refine aH ?_
 apply aB <;> intro hc
 ·apply aA
  grind [aF, size_mk, mZ, fQ, aW, aZ, dG, bK, bA]
 apply aA
 grind [aF, size_mk, mZ, fQ, aW, aZ, dG, bK, bA]
end
section
attribute [local grind] gV
theorem bA7 (x : bD × aR) (h0 : gV x.1) (h1 : EvG x.2) : Tot (aFk x) (fun y => y.2 = true → gV y.1) := by
 unfold aFk; try dsimp only
 apply aB <;> intro hc
 ·refine aC (aAa _ (by grind) (by grind)) fun r1 hr1 => ?_
  apply aA
  grind
 apply aB <;> intro hc
 ·refine aC (aAa _ (by grind) (by grind)) fun r2 hr2 => ?_
  apply aA
  grind
 apply aB <;> intro hc
 ·refine aC (aAa _ (by grind) (by grind)) fun r3 hr3 => ?_
  apply aA
  grind
 apply aB <;> intro hc
 ·refine aC (aH0 _ (by grind)) fun r4 hr4 => ?_
  apply aA
  grind
 apply aB <;> intro hc
 ·refine aC (aH0 _ (by grind)) fun r5 hr5 => ?_
  apply aA
  grind
 refine aC (bG _) fun r6 hr6 => ?_
 apply aB <;> intro hc
 ·apply aA
  grind
 apply aB <;> intro hc
 ·refine aC (aU6 _ (by grind)) fun r7 hr7 => ?_
  apply aA
  grind
 refine aC (iJ _) fun r8 hr8 => ?_
 apply aB <;> intro hc
 ·refine aC (aSu _ (by grind) (by grind) (by grind)) fun r9 hr9 => ?_
  apply aA
  grind
 apply aA
 grind
end
end Ab
end
