/-
A part of the proof: pure functions told of the program, and laws about them.
-/
import Derived.Test.YtpkhfddccaljiaaGreatDoorA11
import Derived.Below
import Derived.ChangeSlices
import Derived.OpenShut
import Derived.Carry
import Derived.ReadAgain
import Derived.Test.YtpkhfddccaljiaaGreatDoorCards
import Derived.Test.YtpkhfddccaljiaaGreatDoorTie
import Derived.WalkKit
import Derived.ProofKit
import Derived.Deep.DeepHandedRow
import Derived.Lib.LaidTab
import Derived.Stop.LaidErr
import Derived.Lay
import Derived.Shelf.Vars
set_option linter.all false
section
set_option maxRecDepth 100000
set_option linter.unusedVariables false
namespace Ab
open Go Go.Lib
set_option maxHeartbeats 4000000
attribute [local grind] inb dD eX eH
section
attribute [local grind] aQ aF size_mk bEn eP bY
theorem aSm (x : List aN) (h0 : x.length ≤ 1000000) (h1 : eP x) : Tot (aCu x) (fun y => y = x) := by
 unfold aCu; try dsimp only
 refine aX (fun z2 => z2.2 ≤ (x.length : Int) ∧ 0 ≤ z2.2 ∧ z2.1 = x.take z2.2.toNat) (fun z2 => ((x.length : Int) - z2.2).toNat) fun L1 z2 hz1 hL1 => ?_
 apply aB <;> intro hc
 ·refine aH ?_
  apply hL1 <;> grind
 apply aA
 grind
end
section
attribute [local grind] aQ aF size_mk jA aW
theorem aUw (x : fT × Int × Int) (h0 : x.1.2.length ≤ 1000000) (h1 : jA x.1) : Tot (aF0 x) (fun y => y = lH x) := by
 unfold aF0; try dsimp only
 have h8 := take8 h1.2.2.1
 simp only [h8]
 refine aC (aQ3 _ (by grind)) fun r11 hr11 => ?_
 apply aB <;> intro hc
 ·apply aA
  (unfold lH; grind [aV])
 refine aH ?_
 refine dO (by first | rfl | simp only [dC]) ?_
 refine aC (jJ _ (by grind)) fun r12 hr12 => ?_
 refine aC (aMz _) fun r13 hr13 => ?_
 apply aB <;> intro hc
 ·apply aA
  (unfold lH; grind [aV])
 refine aC (aDq _) fun r14 hr14 => ?_
 apply aB <;> intro hc
 ·apply aA
  (unfold lH; grind [aV])
 apply aB <;> intro hc
 ·apply aA
  (unfold lH; grind [aV])
 refine aH ?_
 apply aB <;> intro hc
 ·apply aA
  (unfold lH; grind [aV])
 refine aH ?_
 refine aC (jJ _ (by grind)) fun r15 hr15 => ?_
 apply aA
 (unfold lH; grind [aV])
end
section
attribute [local grind] aQ aF size_mk
theorem aC8 (x : (List Int × List Bool × List Int) × Int × Int) (h0 : 0 ≤ x.2.1) (h1 : x.2.1 ≤ 31) : Tot (kP x) (fun y => y = (if -9999 ≤ x.2.2 ∧ x.2.2 ≤ 9999 then .inl (dP x.1.1 x.2.1 x.2.2, (dP x.1.2.1 x.2.1 true, x.1.2.2)) else .inr (x.1, .inl 2))) := by
 unfold kP; try dsimp only
 refine aC (aFc _) fun r1 hr1 => ?_
 apply aB <;> intro hc
 ·apply aA
  grind
 iterate 2 refine aH ?_
 apply aA
 grind
end
theorem aM0 (d : List Int × List Bool × List Int) (s : aI) (hs : eD s) (hv : ∀ k, -9999 ≤ pK d.1 k ∧ pK d.1 k ≤ 9999) (hg : d.2.2.length ≤ 6) : Tot (qZ (d, pF s)) (fun y => y = aZv d s) := by
 obtain ⟨a, b, c, e, f, g, _⟩ := hs
 have hk : s.1 = 1 ∨ s.1 = 2 ∨ s.1 = 3 ∨ s.1 = 4 := by omega
 have hin : inb s.2.1 32 = true := aAg c (by omega)
 have hr : aV d.1 s.2.1 = pK d.1 s.2.1 := by unfold pK; rw [if_pos ⟨c, by omega⟩]
 have hb := hv s.2.1
 unfold qZ pF aZv
 rcases hk with h | h | h | h <;> rw [h]
 ·simp only [if_true, isL, aGd, cond_true, hin]
  refine dH (eX (by simp; omega)) (aA ?_)
  rw [hr]
 ·have n1 : ¬ ((2 : Int) = 1) := by decide
  have n4 : ¬ ((2 : Int) = 4) := by decide
  simp only [n1, n4, if_false, if_true, isL, aGd, rM, cond_true, cond_false]
  refine aC (aC8 (d, s.2) c e) fun y hy => ?_
  have hnv : pO (pK d.1) s = s.2.2 := by unfold pO; rw [h]; rfl
  rw [hnv]
  subst hy
  by_cases kv : -9999 ≤ s.2.2 ∧ s.2.2 ≤ 9999
  ·simp only [if_pos kv]; exact aA rfl
  simp only [if_neg kv]; exact aA rfl
 ·have n1 : ¬ ((3 : Int) = 1) := by decide
  have n2 : ¬ ((3 : Int) = 2) := by decide
  have n4 : ¬ ((3 : Int) = 4) := by decide
  simp only [n1, n2, n4, if_false, if_true, isL, aGd, rM, cond_true, cond_false, hin, hr]
  have hnv : pO (pK d.1) s = pK d.1 s.2.1 + s.2.2 := by unfold pO; rw [h]; rfl
  have hw : aG (pK d.1 s.2.1 + s.2.2) = pO (pK d.1) s := by rw [hnv]; exact dD (by omega) (by omega)
  rw [hw]
  refine aC (aC8 (d, (s.2.1, pO (pK d.1) s)) c e) fun y hy => ?_
  subst hy
  by_cases kv : -9999 ≤ pO (pK d.1) s ∧ pO (pK d.1) s ≤ 9999
  ·simp only [if_pos kv]; exact aA rfl
  simp only [if_neg kv]; exact aA rfl
 have n1 : ¬ ((4 : Int) = 1) := by decide
 have n2 : ¬ ((4 : Int) = 2) := by decide
 have n3 : ¬ ((4 : Int) = 3) := by decide
 simp only [n1, n2, n3, if_false, if_true, isL, aGd, rM, cond_true, cond_false, hin, hr]
 apply aB <;> intro hc
 ·rw [if_pos (of_decide_eq_true hc)]; exact aA rfl
 rw [if_neg (of_decide_eq_false hc)]; exact aA rfl
theorem bHo {xs : List aI} {i : Int} (h1 : 0 ≤ i) (h2 : i < (xs.length : Int)) : iG aJn (xs.map pF) i = pF (aJ xs i) := by
 have e1 : iG aJn (xs.map pF) i = (xs.map pF)[i.toNat]'(by simp; omega) := iC (r := aJn) (xs := xs.map pF) (i := i) (by show i.toNat < (xs.map pF).length; simp; omega)
 have e2 : aJ xs i = xs[i.toNat]'(by omega) := iC (r := bZ) (xs := xs) (i := i) (by show i.toNat < xs.length; omega)
 rw [e1, e2, List.getElem_map]
theorem bH4 (a : Int) (g : List Int) (c : List aN) : nN (a, (g, (c, .inr ()))) = some (a, (g, c)) := rfl
theorem bE5 (a k : Int) (g : List Int) (c : List aN) : nN (a, (g, (c, .inl k))) = some (k, ([], [])) := rfl
theorem bD5 {c : Int → Option Int} {k : Int} (h0 : 0 ≤ k) (h1 : k < 32) : kI c (32 - k).toNat k.toNat = match c k with
  | some v => (k, v) :: kI c (32 - (k + 1)).toNat (k + 1).toNat
  | none => kI c (32 - (k + 1)).toNat (k + 1).toNat := by
 rw [show (32 - k).toNat = (32 - (k + 1)).toNat + 1 by omega, kI, show ((k.toNat : Nat) : Int) = k by omega, show k.toNat + 1 = (k + 1).toNat by omega]
 cases c k <;> rfl
theorem jY (f : Int → Int) : after f (gH []) = f := rfl
theorem bGt {c : List aN} {i : Int} {f : Int → Int} {m : List aN} (ha : Asc c) (h1 : 0 ≤ i) (h2 : i < (c.length : Int)) (h : fO m = after f (gH (c.take i.toNat))) :
  fO (uU (.int .i64) (.int .i64) (bM c i).1 (bM c i).2 m) = after f (gH (c.take (i + 1).toNat)) := funext fun k => by
 have hk := congrFun h k
 unfold fO at hk ⊢
 unfold after at hk ⊢
 rw [aVt, fZ ha h1 h2]
 by_cases e : k = (bM c i).1
 ·rw [if_pos e, if_pos e.symm]; rfl
 rw [if_neg e, if_neg fun e2 => e e2.symm]; exact hk
theorem jV {b : bC} {n : Int} {y : Int × Bool} (hB : BooksP b) (h : mV b.2.2.2.2 n y) : (y.2 = true → iR b.2.2.2.2 n = (aS b.2.2.2.2 y.1).2.1 ∧ y.1 < (b.2.2.2.2.length : Int)) ∧ (y.2 = false → iR b.2.2.2.2 n = 0) ∧ 0 ≤ y.1 ∧ y.1 ≤ (b.2.2.2.2.length : Int) :=
  ⟨fun hy => ⟨(aNx h hB.2.2.2.2.2).1 hy, (h.2.2.2.2.1 hy).1⟩, (aNx h hB.2.2.2.2.2).2, h.1, h.2.1⟩
theorem mE {b : bC} {s : aY} {y : Int × Bool} (hB : BooksP b) (h : mV b.2.2.2.2 s.1 y) : (y.2 = true → dP b.2.2.2.2 y.1 s = iA b.2.2.2.2 s) ∧ (y.2 = false → b.2.2.2.2.take y.1.toNat ++ [s] ++ b.2.2.2.2.drop y.1.toNat = iA b.2.2.2.2 s) := by
 have := aXs h hB.2.2.2.2.2
 refine ⟨fun hy => ?_, fun hy => ?_⟩ <;> rw [hy] at this
 ·rw [if_pos rfl] at this; exact this
 rw [if_neg (by decide)] at this; exact this
theorem jG {x : bC × bO} (h : x.2.2.2.1 = 2) : fA x = ((x.1.1 + 1, ((lH ((x.1.2.1, x.1.2.2.1), x.2.2.2.2.2)).1.1, ((lH ((x.1.2.1, x.1.2.2.1), x.2.2.2.2.2)).1.2, (x.1.2.2.2.1, x.1.2.2.2.2)))), (x.2.1, (x.2.2.1, ((lH ((x.1.2.1, x.1.2.2.1), x.2.2.2.2.2)).2, [])))) := by unfold fA; rw [if_pos h]
theorem jH {x : bC × bO} (h : x.2.2.2.1 ≠ 2) : fA x = ((x.1.1 + 1, (x.1.2.1, (x.1.2.2.1, (rowOf (after (fO x.1.2.2.2.1) (lD x.1 x.2).2.2), x.1.2.2.2.2)))), (x.2.1, (x.2.2.1, ((lD x.1 x.2).1, (lD x.1 x.2).2.1)))) := by unfold fA; rw [if_neg h]
theorem aUx (x : List aI × List aN) (h0 : fB x.1) (h1 : eP x.2) : Tot (aF1 x) (fun y => y.1 = (iB x.1 (fO x.2) (fun _ => none) []).1 ∧ y.2.1 = (iB x.1 (fO x.2) (fun _ => none) []).2.1 ∧ eP y.2.2 ∧ gH y.2.2 = (iB x.1 (fO x.2) (fun _ => none) []).2.2) := by
 have hlen := fK h1
 have h6 := h0.2.1
 unfold aF1 xS
 refine aC (aDo x.1 (by omega)) fun r1 hr1 => ?_
 have ht : r1.2 = true := hr1.1.2 h0
 have he := hr1.2 ht
 refine aB (fun hc => by rw [ht] at hc; cases hc) fun _ => ?_
 refine aC (aKt x.2 (by omega)) fun r2 hr2 => ?_
 refine aB (fun hc => by rw [hr2.2 h1] at hc; cases hc) fun _ => ?_
 refine eZ (fun z => z.1 = 0 ∧ z.2.1 = [] ∧ z.2.2.1 = [] ∧ z.2.2.2.1 = x.1.map pF ∧ z.2.2.2.2.1.1.length = 32 ∧ z.2.2.2.2.1.2 = (List.replicate 32 false, []) ∧ 0 ≤ z.2.2.2.2.2 ∧ z.2.2.2.2.2 ≤ (x.2.length : Int) ∧ pK z.2.2.2.2.1.1 = fO (x.2.take z.2.2.2.2.2.toNat))
  (fun z => ((x.2.length : Int) - z.2.2.2.2.2).toNat) ⟨rfl, rfl, rfl, he, List.length_replicate, rfl, by dsimp only; omega, by dsimp only; omega, bBa⟩ (by dsimp only; omega) (fun L z hz hL => ?_)
 obtain ⟨e1, e2, e3, e4, e5, e6, e7, e8, e9⟩ := hz
 apply aB <;> intro hc
 ·have hc := of_decide_eq_true hc
  have hb := h1.1 _ (bN e7 hc)
  have hi : aG (z.2.2.2.2.2 + 1) = z.2.2.2.2.2 + 1 := dD (by omega) (by omega)
  refine dH (aAg e7 hc) ?_
  refine dH (aAg (n := 32) hb.1 (by have := hb.2.1; show (bM x.2 z.2.2.2.2.2).1 < 32; omega)) ?_
  refine hL _ ⟨e1, e2, e3, e4, (aW _ _ _).trans e5, e6, by dsimp only; omega, by dsimp only; omega, ?_⟩ (by dsimp only; omega)
  dsimp only
  rw [hi]
  exact bEo h1 e5 e7 hc e9
 have hc := of_decide_eq_false hc
 have hall : x.2.take z.2.2.2.2.2.toNat = x.2 := bY (by omega)
 rw [hall] at e9
 have hch : chF z.2.2.2.2.1.1 z.2.2.2.2.1.2.1 = fun _ => none := by rw [e6]; exact bFc _
 have hR := aIc x.1 (fO x.2) (fun _ => none) [] (wC h1) (by simp) (by simp)
 have hout := fun k hk => qU x.1 (fO x.2) (fun _ => none) [] k hk rfl
 obtain ⟨R, hRe⟩ : ∃ R, R = iB x.1 (fO x.2) (fun _ => none) [] := ⟨_, rfl⟩
 rw [← hRe] at hR hout ⊢
 refine eZ (fun q => q.2.1 = [] ∧ q.2.2.1 = [] ∧ q.2.2.2.1 = 0 ∧ q.2.2.2.2.1 = x.1.map pF ∧ 0 ≤ q.2.2.2.2.2 ∧ q.2.2.2.2.2 ≤ (x.1.length : Int) ∧ q.1.1.length = 32 ∧ q.1.2.1.length = 32 ∧ (q.1.2.2.length : Int) ≤ q.2.2.2.2.2 ∧ (∀ k, -9999 ≤ pK q.1.1 k ∧ pK q.1.1 k ≤ 9999) ∧
   iB (x.1.drop q.2.2.2.2.2.toNat) (pK q.1.1) (chF q.1.1 q.1.2.1) q.1.2.2 = R)
  (fun q => ((x.1.length : Int) - q.2.2.2.2.2).toNat) ⟨e3, e2, e1, e4, by dsimp only; omega, by dsimp only; omega, e5, by dsimp only; rw [e6]; exact List.length_replicate, by dsimp only; rw [e6]; exact Int.le_refl _, by dsimp only; rw [e9]; exact wC h1, by dsimp only; rw [e9, hch, e6, hRe]; rfl⟩ (by dsimp only; omega) (fun L4 q hq hL4 => ?_)
 obtain ⟨f1, f2, f3, f4, f5, f6, f7, f8, f9, f10, f11⟩ := hq
 have hlm : (z.2.2.2.2.1, z.2.2.2.1).2.length = x.1.length := by show z.2.2.2.1.length = _; rw [e4, List.length_map]
 refine aB (fun hd => ?_) fun hd => ?_
 ·have hd : q.2.2.2.2.2 < (x.1.length : Int) := by have hd := of_decide_eq_true hd; rw [e4, List.length_map] at hd; exact hd
  have hi : aG (q.2.2.2.2.2 + 1) = q.2.2.2.2.2 + 1 := dD (by omega) (by omega)
  have hs : eD (aJ x.1 q.2.2.2.2.2) := h0.2.2 _ (bR f5 hd)
  refine dH (aAg f5 (by rw [f4, List.length_map]; exact hd)) ?_
  have ea : iG aJn q.2.2.2.2.1 q.2.2.2.2.2 = pF (aJ x.1 q.2.2.2.2.2) := by rw [f4]; exact bHo f5 hd
  dsimp only
  rw [ea]
  refine aC (aM0 q.1 (aJ x.1 q.2.2.2.2.2) hs f10 (by omega)) fun y hy => ?_
  subst hy
  rw [aA0 f5 hd] at f11
  obtain ⟨s1, s2, s3, s4, s5, s6, _⟩ := hs
  unfold aZv
  by_cases k1 : (aJ x.1 q.2.2.2.2.2).1 = 1
  ·rw [if_pos k1] at f11 ⊢
   refine hL4 _ ⟨f1, f2, f3, f4, by dsimp only; omega, by dsimp only; omega, f7, f8, by dsimp only; rw [List.length_append, List.length_singleton]; omega, f10, ?_⟩ (by dsimp only; omega)
   dsimp only; rw [hi]; exact f11
  rw [if_neg k1] at f11 ⊢
  by_cases k4 : (aJ x.1 q.2.2.2.2.2).1 = 4
  ·rw [if_pos k4] at f11 ⊢
   by_cases kl : pK q.1.1 (aJ x.1 q.2.2.2.2.2).2.1 < (aJ x.1 q.2.2.2.2.2).2.2
   ·rw [if_pos kl] at f11 ⊢
    dsimp only
    rw [bE5, ← f11]
    exact aA ⟨rfl, rfl, aJ3, rfl⟩
   rw [if_neg kl] at f11 ⊢
   refine hL4 _ ⟨f1, f2, f3, f4, by dsimp only; omega, by dsimp only; omega, f7, f8, by dsimp only; omega, f10, ?_⟩ (by dsimp only; omega)
   dsimp only; rw [hi]; exact f11
  rw [if_neg k4] at f11 ⊢
  by_cases kv : -9999 ≤ pO (pK q.1.1) (aJ x.1 q.2.2.2.2.2) ∧ pO (pK q.1.1) (aJ x.1 q.2.2.2.2.2) ≤ 9999
  ·rw [if_pos kv] at f11 ⊢
   refine hL4 _ ⟨f1, f2, f3, f4, by dsimp only; omega, by dsimp only; omega, (aW _ _ _).trans f7, (aW _ _ _).trans f8, by dsimp only; omega, ?_, ?_⟩ (by dsimp only; omega)
   ·dsimp only
    intro k
    rw [aTe f7 s3 s4]
    unfold upd
    split
    ·exact kv
    exact f10 k
   dsimp only; rw [hi, aTe f7 s3 s4, bH6 f7 f8 s3 s4]; exact f11
  rw [if_neg kv] at f11 ⊢
  dsimp only
  rw [bE5, ← f11]
  exact aA ⟨rfl, rfl, aJ3, rfl⟩
 have hd : ¬ q.2.2.2.2.2 < (x.1.length : Int) := by have hd := of_decide_eq_false hd; rw [e4, List.length_map] at hd; exact hd
 rw [run_end (by omega)] at f11
 rw [← f11] at hR
 obtain ⟨c, hc'⟩ : ∃ c, c = chF q.1.1 q.1.2.1 := ⟨_, rfl⟩
 rw [← hc'] at f11 hR
 have hvan : ∀ k, ¬ (0 ≤ k ∧ k ≤ 31) → c k = none := fun k hk => by rw [hc']; unfold chF; rw [if_neg fun h => hk ⟨h.1, h.2.1⟩]
 refine eZ (fun p => p.2.2.2.1 = q.1 ∧ p.2.2.2.2.1 = q.1.2.1 ∧ 0 ≤ p.2.2.2.2.2 ∧ p.2.2.2.2.2 ≤ 32 ∧ (p.2.2.1.length : Int) ≤ p.2.2.2.2.2 ∧ p.2.2.1 ++ kI c (32 - p.2.2.2.2.2).toNat p.2.2.2.2.2.toNat = kI c 32 0)
  (fun p => (32 - p.2.2.2.2.2).toNat) ⟨rfl, rfl, by dsimp only; omega, by dsimp only; omega, by dsimp only; rw [f1]; exact Int.le_refl _, by dsimp only; rw [f1]; rfl⟩ (by dsimp only; omega) (fun L10 p hp hL10 => ?_)
 obtain ⟨g1, g2, g3, g4, g5, g6⟩ := hp
 refine aB (fun hk => ?_) fun hk => ?_
 ·have hk := of_decide_eq_true hk
  have hi : aG (p.2.2.2.2.2 + 1) = p.2.2.2.2.2 + 1 := dD (by omega) (by omega)
  refine dH (aAg (n := 32) g3 (by omega)) ?_
  have hopt := bD5 (c := c) g3 hk
  rw [hopt] at g6
  refine aB (fun hb => ?_) fun hb => ?_
  ·have hck : c p.2.2.2.2.2 = some (aV q.1.1 p.2.2.2.2.2) := by
    rw [hc']; unfold chF
    have hb : sW q.1.2.1 p.2.2.2.2.2 = true := by rw [← g2]; exact hb
    rw [if_pos ⟨g3, by omega, hb⟩]
   rw [hck] at g6
   refine dH (aAg (n := 32) g3 (by omega)) ?_
   refine dH (eX (by simp; omega)) ?_
   refine hL10 _ ⟨g1, g2, by dsimp only; omega, by dsimp only; omega, by dsimp only; rw [List.length_append, List.length_singleton]; omega, ?_⟩ (by dsimp only; omega)
   dsimp only
   rw [hi, g1, List.append_assoc]
   exact g6
  have hck : c p.2.2.2.2.2 = none := by
   rw [hc']; unfold chF
   have hb : sW q.1.2.1 p.2.2.2.2.2 = false := by rw [← g2]; exact hb
   rw [if_neg fun h => by rw [hb] at h; cases h.2.2]
  rw [hck] at g6
  refine hL10 _ ⟨g1, g2, by dsimp only; omega, by dsimp only; omega, by dsimp only; omega, ?_⟩ (by dsimp only; omega)
  dsimp only
  rw [hi]
  exact g6
 have hk := of_decide_eq_false hk
 have h32 : (32 - p.2.2.2.2.2).toNat = 0 := by omega
 rw [h32] at g6
 have g6 : p.2.2.1 = kI c 32 0 := by rw [← g6]; simp [kI]
 rw [g1, g6, bH4, ← f11]
 refine aA ⟨rfl, rfl, ⟨fun p hp => ?_, zJ⟩, aVy hvan⟩
 have h9 := xM hp
 have := hR.2.2 p.1 p.2 h9.2.2
 exact ⟨by omega, by omega, this.1, this.2⟩
section
attribute [local grind] BooksP
theorem nA (x : bC × bO) (h0 : BooksW x.1) (h1 : x.2.2.2.2.1.size ≤ 1000000) : Tot (mR x) (fun y => y = doM x) := by
 unfold mR; try dsimp only
 refine aC (aUy _ (by grind [aQ, aF, size_mk, BooksW, mV])) fun r28 hr28 => ?_
 apply aB <;> intro hc
 ·apply aA
  first | grind [iU, jS] | (have hB : BooksP x.1 := (by grind); have hpl := jV hB (n := x.2.1) (y := x) (by grind); have h60 : x.1.1 < 60 := (by have := hB.2.1; grind); first | (rw [fD hB h60 (hxj.2.2.1 hc)]; exact hxj.1) | (have ho := jG (x := x) (by grind); rw [ho]; grind) | (have hk : x.2.2.2.1 = 1 := (by grind); have ho := jH (x := x) (by omega); rw [ho]; unfold lD; grind [jY, bY]) | (exfalso; grind [gG]) | (have e := oD hB h60 (by grind) (by grind); have e1 : (fA x).2.1 = x.2.1 := (by unfold fA; split <;> rfl); have e2 : (fA x).1.2.2.2.2 = x.1.2.2.2.2 := (by unfold fA; split <;> rfl); have ht := mE hB (s := (fA x).2) (y := x) (by rw [e1]; grind); rw [e]; grind) | grind | grind [gG])
 apply aB <;> intro hc
 ·apply aA
  first | grind [iU, jS] | (have hB : BooksP x.1 := (by grind); have hpl := jV hB (n := x.2.1) (y := x) (by grind); have h60 : x.1.1 < 60 := (by have := hB.2.1; grind); first | (rw [fD hB h60 (hxj.2.2.1 hc)]; exact hxj.1) | (have ho := jG (x := x) (by grind); rw [ho]; grind) | (have hk : x.2.2.2.1 = 1 := (by grind); have ho := jH (x := x) (by omega); rw [ho]; unfold lD; grind [jY, bY]) | (exfalso; grind [gG]) | (have e := oD hB h60 (by grind) (by grind); have e1 : (fA x).2.1 = x.2.1 := (by unfold fA; split <;> rfl); have e2 : (fA x).1.2.2.2.2 = x.1.2.2.2.2 := (by unfold fA; split <;> rfl); have ht := mE hB (s := (fA x).2) (y := x) (by rw [e1]; grind); rw [e]; grind) | grind | grind [gG])
 refine aC (aM1 _ (by grind [aQ, aF, size_mk, BooksW, mV])) fun r29 hr29 => ?_
 refine aC (aPi _ (by grind [BooksW]) (by grind [nT, mU, jA])) fun r30 hr30 => ?_
 refine bF (P := fun (z34 : bC × bO × bC) => z34.1 = (x.1.1 + 1, x.1.2) ∧ z34.2.1 = x.2 ∧ gG x.2 ∧ iR x.1.2.2.2.2 x.2.1 < x.2.2.1) ?_ fun z34 hz34j => ?_
 ·refine bF (P := fun (z33 : bC × bO × bC × Bool) => z33.1 = (x.1.1 + 1, x.1.2) ∧ z33.2.1 = x.2 ∧ (z33.2.2.2 = true → ¬ (gG x.2 ∧ iR x.1.2.2.2.2 x.2.1 < x.2.2.1)) ∧ (z33.2.2.2 = false → gG x.2 ∧ iR x.1.2.2.2.2 x.2.1 < x.2.2.1)) ?_ fun z33 hz33j => ?_
  ·refine aC (aXp _) fun r31 hr31 => ?_
   apply aB <;> intro hc
   ·apply aA
    first | grind [iU, jS] | (have hB : BooksP x.1 := (by grind); have hpl := jV hB (n := x.2.1) (y := r30) (by grind); have h60 : x.1.1 < 60 := (by have := hB.2.1; grind); first | (rw [fD hB h60 (hz33j.2.2.1 hc)]; exact hz33j.1) | (have ho := jG (x := x) (by grind); rw [ho]; grind) | (have hk : x.2.2.2.1 = 1 := (by grind); have ho := jH (x := x) (by omega); rw [ho]; unfold lD; grind [jY, bY]) | (exfalso; grind [gG]) | (have e := oD hB h60 (by grind) (by grind); have e1 : (fA x).2.1 = x.2.1 := (by unfold fA; split <;> rfl); have e2 : (fA x).1.2.2.2.2 = x.1.2.2.2.2 := (by unfold fA; split <;> rfl); have ht := mE hB (s := (fA x).2) (y := r30) (by rw [e1]; grind); rw [e]; grind) | grind | grind [gG])
   apply aB <;> intro hc
   ·refine dH (by first | grind [BooksW, mV] | (have e2 : (fA x).1.2.2.2.2 = x.1.2.2.2.2 := (by unfold fA; split <;> rfl); grind [mV])) ?_
    apply aA
    first | grind [iU, jS] | (have hB : BooksP x.1 := (by grind); have hpl := jV hB (n := x.2.1) (y := r30) (by grind); have h60 : x.1.1 < 60 := (by have := hB.2.1; grind); first | (rw [fD hB h60 (hz33j.2.2.1 hc)]; exact hz33j.1) | (have ho := jG (x := x) (by grind); rw [ho]; grind) | (have hk : x.2.2.2.1 = 1 := (by grind); have ho := jH (x := x) (by omega); rw [ho]; unfold lD; grind [jY, bY]) | (exfalso; grind [gG]) | (have e := oD hB h60 (by grind) (by grind); have e1 : (fA x).2.1 = x.2.1 := (by unfold fA; split <;> rfl); have e2 : (fA x).1.2.2.2.2 = x.1.2.2.2.2 := (by unfold fA; split <;> rfl); have ht := mE hB (s := (fA x).2) (y := r30) (by rw [e1]; grind); rw [e]; grind) | grind | grind [gG])
   apply aA
   first | grind [iU, jS] | (have hB : BooksP x.1 := (by grind); have hpl := jV hB (n := x.2.1) (y := r30) (by grind); have h60 : x.1.1 < 60 := (by have := hB.2.1; grind); first | (rw [fD hB h60 (hz33j.2.2.1 hc)]; exact hz33j.1) | (have ho := jG (x := x) (by grind); rw [ho]; grind) | (have hk : x.2.2.2.1 = 1 := (by grind); have ho := jH (x := x) (by omega); rw [ho]; unfold lD; grind [jY, bY]) | (exfalso; grind [gG]) | (have e := oD hB h60 (by grind) (by grind); have e1 : (fA x).2.1 = x.2.1 := (by unfold fA; split <;> rfl); have e2 : (fA x).1.2.2.2.2 = x.1.2.2.2.2 := (by unfold fA; split <;> rfl); have ht := mE hB (s := (fA x).2) (y := r30) (by rw [e1]; grind); rw [e]; grind) | grind | grind [gG])
  apply aB <;> intro hc
  ·apply aA
   first | grind [iU, jS] | (have hB : BooksP x.1 := (by grind); have hpl := jV hB (n := x.2.1) (y := r30) (by grind); have h60 : x.1.1 < 60 := (by have := hB.2.1; grind); first | (rw [fD hB h60 (hz33j.2.2.1 hc)]; exact hz33j.1) | (have ho := jG (x := x) (by grind); rw [ho]; grind) | (have hk : x.2.2.2.1 = 1 := (by grind); have ho := jH (x := x) (by omega); rw [ho]; unfold lD; grind [jY, bY]) | (exfalso; grind [gG]) | (have e := oD hB h60 (by grind) (by grind); have e1 : (fA x).2.1 = x.2.1 := (by unfold fA; split <;> rfl); have e2 : (fA x).1.2.2.2.2 = x.1.2.2.2.2 := (by unfold fA; split <;> rfl); have ht := mE hB (s := (fA x).2) (y := r30) (by rw [e1]; grind); rw [e]; grind) | grind | grind [gG])
  apply aA
  first | grind [iU, jS] | (have hB : BooksP x.1 := (by grind); have hpl := jV hB (n := x.2.1) (y := r30) (by grind); have h60 : x.1.1 < 60 := (by have := hB.2.1; grind); first | (rw [fD hB h60 (hz33j.2.2.1 hc)]; exact hz33j.1) | (have ho := jG (x := x) (by grind); rw [ho]; grind) | (have hk : x.2.2.2.1 = 1 := (by grind); have ho := jH (x := x) (by omega); rw [ho]; unfold lD; grind [jY, bY]) | (exfalso; grind [gG]) | (have e := oD hB h60 (by grind) (by grind); have e1 : (fA x).2.1 = x.2.1 := (by unfold fA; split <;> rfl); have e2 : (fA x).1.2.2.2.2 = x.1.2.2.2.2 := (by unfold fA; split <;> rfl); have ht := mE hB (s := (fA x).2) (y := r30) (by rw [e1]; grind); rw [e]; grind) | grind | grind [gG])
 refine aC (aSm _ (by grind [BooksW]) (by grind [nT, mU, jA])) fun r35 hr35 => ?_
 refine bF (P := fun (z44 : bC × bC × aY) => z44.1 = (fA x).1 ∧ z44.2.2 = (fA x).2) ?_ fun z44 hz44j => ?_
 ·apply aB <;> intro hc
  ·refine aC (aUw _ (by grind [nT, mU, jA]) (by grind [nT, mU, jA])) fun r36 hr36 => ?_
   apply aA
   first | grind [iU, jS] | (have hB : BooksP x.1 := (by grind); have hpl := jV hB (n := x.2.1) (y := r30) (by grind); have h60 : x.1.1 < 60 := (by have := hB.2.1; grind); first | (rw [fD hB h60 (hz33j.2.2.1 hc)]; exact hz33j.1) | (have ho := jG (x := x) (by grind); rw [ho]; grind) | (have hk : x.2.2.2.1 = 1 := (by grind); have ho := jH (x := x) (by omega); rw [ho]; unfold lD; grind [jY, bY]) | (exfalso; grind [gG]) | (have e := oD hB h60 (by grind) (by grind); have e1 : (fA x).2.1 = x.2.1 := (by unfold fA; split <;> rfl); have e2 : (fA x).1.2.2.2.2 = x.1.2.2.2.2 := (by unfold fA; split <;> rfl); have ht := mE hB (s := (fA x).2) (y := r30) (by rw [e1]; grind); rw [e]; grind) | grind | grind [gG])
  apply aB <;> intro hc
  ·refine aC (aHu _) fun r37 hr37 => ?_
   refine aC (aUx _ (by grind [gG, iF]) (by grind [nT, mU, jA])) fun r38 hr38 => ?_
   refine eZ (fun z40 => z40.1 = z34.1 ∧ z40.2.1 = z34.2.2 ∧ z40.2.2.1.1 = z34.2.1.1 ∧ z40.2.2.1.2.1 = z34.2.1.2.1 ∧ z40.2.2.1.2.2.1 = r38.1 ∧ z40.2.2.1.2.2.2 = r38.2.1 ∧ z40.2.2.2.2 ≤ (r38.2.2.length : Int) ∧ 0 ≤ z40.2.2.2.2 ∧ aSh z40.2.2.2.1 ∧ fO z40.2.2.2.1 = after (fO x.1.2.2.2.1) (gH (r38.2.2.take z40.2.2.2.2.toNat))) (fun z40 => ((r38.2.2.length : Int) - z40.2.2.2.2).toNat) (by (have hB : BooksP x.1 := (by grind); have hs := hB.2.2.2.1; have e35 : r35 = x.1.2.2.2.1 := (by grind); (repeat' with_reducible refine And.intro ?_ ?_) <;> first | rfl | grind | (dsimp only; rw [e35]; exact aYg hs.1) | (dsimp only; rw [e35]; rfl))) (by (have := fK hr38.2.2.1; dsimp only; omega)) fun L39 z40 hz39 hL39 => ?_
   apply aB <;> intro hc
   ·refine dH (by first | grind [BooksW, mV] | (have e2 : (fA x).1.2.2.2.2 = x.1.2.2.2.2 := (by unfold fA; split <;> rfl); grind [mV])) ?_
    refine hL39 _ ?_ ?_
    ·(clear hL39; have hq := hz39; have hlt : z40.2.2.2.2 < (r38.2.2.length : Int) := (by grind); have hb := hr38.2.2.1.1 _ (bN (by grind) hlt); have hi : aG (z40.2.2.2.2 + 1) = z40.2.2.2.2 + 1 := dD (by have := fK hr38.2.2.1; omega) (by have := fK hr38.2.2.1; omega); (repeat' with_reducible refine And.intro ?_ ?_) <;> first | grind | (dsimp only; exact bBd ⟨hb.1, hb.2.1⟩ (by grind)) | (dsimp only; rw [hi]; exact bGt hr38.2.2.1.2 (by grind) hlt (by grind)))
    (clear hL39; have := fK hr38.2.2.1; grind)
   refine aC (aAm _ (by first | (clear hL39; grind) | grind [gG])) fun r42 hr42 => ?_
   apply aA
   first | grind [iU, jS] | (have hB : BooksP x.1 := (by grind); have hpl := jV hB (n := x.2.1) (y := r30) (by grind); have h60 : x.1.1 < 60 := (by have := hB.2.1; grind); first | (rw [fD hB h60 (hz33j.2.2.1 hc)]; exact hz33j.1) | (have ho := jG (x := x) (by grind); rw [ho]; grind) | (have hk : x.2.2.2.1 = 1 := (by grind); have ho := jH (x := x) (by omega); rw [ho]; unfold lD; grind [jY, bY]) | (exfalso; grind [gG]) | (have e := oD hB h60 (by grind) (by grind); have e1 : (fA x).2.1 = x.2.1 := (by unfold fA; split <;> rfl); have e2 : (fA x).1.2.2.2.2 = x.1.2.2.2.2 := (by unfold fA; split <;> rfl); have ht := mE hB (s := (fA x).2) (y := r30) (by rw [e1]; grind); rw [e]; grind) | grind | grind [gG])
  refine aC (aAm _ (by first | (clear hL39; grind) | grind [gG])) fun r43 hr43 => ?_
  apply aA
  first | grind [iU, jS] | (have hB : BooksP x.1 := (by grind); have hpl := jV hB (n := x.2.1) (y := r30) (by grind); have h60 : x.1.1 < 60 := (by have := hB.2.1; grind); first | (rw [fD hB h60 (hz33j.2.2.1 hc)]; exact hz33j.1) | (have ho := jG (x := x) (by grind); rw [ho]; grind) | (have hk : x.2.2.2.1 = 1 := (by grind); have ho := jH (x := x) (by omega); rw [ho]; unfold lD; grind [jY, bY]) | (exfalso; grind [gG]) | (have e := oD hB h60 (by grind) (by grind); have e1 : (fA x).2.1 = x.2.1 := (by unfold fA; split <;> rfl); have e2 : (fA x).1.2.2.2.2 = x.1.2.2.2.2 := (by unfold fA; split <;> rfl); have ht := mE hB (s := (fA x).2) (y := r30) (by rw [e1]; grind); rw [e]; grind) | grind | grind [gG])
 apply aB <;> intro hc
 ·refine dH (by first | grind [BooksW, mV] | (have e2 : (fA x).1.2.2.2.2 = x.1.2.2.2.2 := (by unfold fA; split <;> rfl); grind [mV])) ?_
  apply aA
  first | grind [iU, jS] | (have hB : BooksP x.1 := (by grind); have hpl := jV hB (n := x.2.1) (y := r30) (by grind); have h60 : x.1.1 < 60 := (by have := hB.2.1; grind); first | (rw [fD hB h60 (hz33j.2.2.1 hc)]; exact hz33j.1) | (have ho := jG (x := x) (by grind); rw [ho]; grind) | (have hk : x.2.2.2.1 = 1 := (by grind); have ho := jH (x := x) (by omega); rw [ho]; unfold lD; grind [jY, bY]) | (exfalso; grind [gG]) | (have e := oD hB h60 (by grind) (by grind); have e1 : (fA x).2.1 = x.2.1 := (by unfold fA; split <;> rfl); have e2 : (fA x).1.2.2.2.2 = x.1.2.2.2.2 := (by unfold fA; split <;> rfl); have ht := mE hB (s := (fA x).2) (y := r30) (by rw [e1]; grind); rw [e]; grind) | grind | grind [gG])
 refine aC (bCg _ (by grind [BooksW, fA, jG, jH]) (by grind [mV]) (by grind [mV, fA]) (by rfl)) fun r45 hr45 => ?_
 apply aA
 first | grind [iU, jS] | (have hB : BooksP x.1 := (by grind); have hpl := jV hB (n := x.2.1) (y := r30) (by grind); have h60 : x.1.1 < 60 := (by have := hB.2.1; grind); first | (rw [fD hB h60 (hz33j.2.2.1 hc)]; exact hz33j.1) | (have ho := jG (x := x) (by grind); rw [ho]; grind) | (have hk : x.2.2.2.1 = 1 := (by grind); have ho := jH (x := x) (by omega); rw [ho]; unfold lD; grind [jY, bY]) | (exfalso; grind [gG]) | (have e := oD hB h60 (by grind) (by grind); have e1 : (fA x).2.1 = x.2.1 := (by unfold fA; split <;> rfl); have e2 : (fA x).1.2.2.2.2 = x.1.2.2.2.2 := (by unfold fA; split <;> rfl); have ht := mE hB (s := (fA x).2) (y := r30) (by rw [e1]; grind); rw [e]; grind) | grind | grind [gG])
end
end Ab
end
section
set_option maxRecDepth 100000
set_option linter.unusedVariables false
namespace Ab
open Go Go.Lib
set_option maxHeartbeats 4000000
attribute [local grind] inb dD eX eH
section
attribute [local grind] List.length_take
theorem aSl (x : Unit) : Tot (lV x) (fun y => y = (1, [0, 1, 2, 0, 1, 2, 0, 1])) := by
 unfold lV; try dsimp only
 refine eZ (fun z2 => z2.1.1 = 0 ∧ z2.1.2 = [] ∧ z2.2.1.1 = 1 ∧ z2.2.2 ≤ 8 ∧ 0 ≤ z2.2.2 ∧ 0 ≤ z2.2.2 ∧ z2.2.2 ≤ 8 ∧ z2.2.1.1 = 1 ∧ z2.2.1.2 = ([0, 1, 2, 0, 1, 2, 0, 1] : List Int).take z2.2.2.toNat) (fun z2 => (8 - z2.2.2).toNat) (by (repeat' refine And.intro ?_ ?_) <;> first | rfl | decide) (by grind) fun L1 z2 hz1 hL1 => ?_
 apply aB <;> intro hc
 ·iterate 2 refine aH ?_
  refine hL1 _ ?_ ?_
  ·(clear hL1; obtain ⟨q1, q2, q3, q4, q5, qa, qb, qc, q6⟩ := hz1; have hc := of_decide_eq_true hc; have hk : z2.2.2 = 0 ∨ z2.2.2 = 1 ∨ z2.2.2 = 2 ∨ z2.2.2 = 3 ∨ z2.2.2 = 4 ∨ z2.2.2 = 5 ∨ z2.2.2 = 6 ∨ z2.2.2 = 7 := (by omega); have hi : aG (z2.2.2 + 1) = z2.2.2 + 1 := dD (by omega) (by omega); rw [hi, q6]; rcases hk with e | e | e | e | e | e | e | e <;> rw [e] <;> exact ⟨q1, q2, q3, by dsimp only; decide, by dsimp only; decide, by dsimp only; decide, by dsimp only; decide, qc, by dsimp only; decide⟩)
  (clear hL1; grind)
 apply aA
 (have h8 : z2.2.2 = 8 := (by grind); obtain ⟨q1, q2, q3, q4, q5, qa, qb, qc, q6⟩ := hz1; rw [h8] at q6; exact Prod.ext qc q6)
end
theorem aMy (x : Unit) : Tot (lW x) (fun y => y = uR) := by
 unfold lW; try dsimp only
 refine aC (aSl _) fun r1 hr1 => ?_
 apply aA
 (rw [hr1]; rfl)
theorem aSn (x : Unit) : Tot (aCv x) (fun y => y = (1, [0, 1, 2, 0, 1, 2, 0, 1])) := by
 unfold aCv
 repeat (first
  | refine dH (by decide) ?_
  | refine aB (fun _ => ?_) (fun h => absurd h (by decide))
  | refine aB (fun h => absurd h (by decide)) (fun _ => ?_))
 refine aC (jJ _ (by decide)) (fun y hy => aA ?_)
 rw [hy]; decide
theorem aM3 (x : Unit) : Tot (vZ x) (fun y => y = uR) := by
 unfold vZ; try dsimp only
 refine aC (aSn _) fun r1 hr1 => ?_
 apply aA
 (rw [hr1]; rfl)
section
attribute [local grind] bY
theorem aUu (x : List bO) (h0 : x.length ≤ 1000000) (h1 : ∀ c ∈ x, c.2.2.2.1.size ≤ 1000) : Tot (rZ x) (fun y => y = ofM x) := by
 unfold rZ; try dsimp only
 refine aC (aMy _) fun r1 hr1 => ?_
 apply aB <;> intro hc
 ·apply aA
  (unfold ofM jS; grind)
 refine eZ (fun z3 => z3.1.1 = 0 ∧ z3.1.2.1 = 0 ∧ z3.1.2.2.1 = [] ∧ z3.1.2.2.2.1 = [] ∧ z3.1.2.2.2.2 = [] ∧ z3.2.2 ≤ (x.length : Int) ∧ 0 ≤ z3.2.2 ∧ BooksW z3.2.1 ∧ z3.2.1 = aA5 uR (x.take z3.2.2.toNat)) (fun z3 => ((x.length : Int) - z3.2.2).toNat) (by (have e : r1 = uR := (by grind); rw [e]; (repeat' with_reducible refine And.intro ?_ ?_) <;> first | rfl | exact aX1 | (dsimp only; omega))) (by grind [aQ, aF, size_mk]) fun L2 z3 hz2 hL2 => ?_
 apply aB <;> intro hc
 ·refine dH (by grind [aQ, aF, size_mk]) ?_
  refine aC (aDn _ (by grind) (by grind [aZo])) fun r4 hr4 => ?_
  refine hL2 _ ?_ ?_
  ·(clear hL2; have hi : aG (z3.2.2 + 1) = z3.2.2 + 1 := dD (by grind) (by grind); have hm := aRl (x := x) (i := z3.2.2) (b := uR) (by grind) (by grind); (repeat' with_reducible refine And.intro ?_ ?_) <;> first | grind | (dsimp only; rw [hr4]; exact gM _))
  (clear hL2; grind)
 apply aA
 (unfold ofM jS; grind)
end
section
attribute [local grind] bY
theorem aUz (x : List bO) (h0 : x.length ≤ 1000000) (h1 : ∀ c ∈ x, c.2.2.2.1.size ≤ 1000) : Tot (aF3 x) (fun y => y = ofM x) := by
 unfold aF3; try dsimp only
 apply aB <;> intro hc
 ·apply aA
  (unfold ofM jS; grind)
 refine aC (aM3 _) fun r1 hr1 => ?_
 refine eZ (fun z3 => z3.1.1 = 0 ∧ z3.1.2.1 = 0 ∧ z3.1.2.2.1 = [] ∧ z3.1.2.2.2.1 = [] ∧ z3.1.2.2.2.2 = [] ∧ z3.2.2 ≤ (x.length : Int) ∧ 0 ≤ z3.2.2 ∧ BooksW z3.2.1 ∧ z3.2.1 = aA5 uR (x.take z3.2.2.toNat)) (fun z3 => ((x.length : Int) - z3.2.2).toNat) (by (have e : r1 = uR := (by grind); rw [e]; (repeat' with_reducible refine And.intro ?_ ?_) <;> first | rfl | exact aX1 | (dsimp only; omega))) (by grind [aQ, aF, size_mk]) fun L2 z3 hz2 hL2 => ?_
 apply aB <;> intro hc
 ·refine dH (by grind [aQ, aF, size_mk]) ?_
  refine aC (nA _ (by grind) (by grind [aZo])) fun r4 hr4 => ?_
  refine hL2 _ ?_ ?_
  ·(clear hL2; have hi : aG (z3.2.2 + 1) = z3.2.2 + 1 := dD (by grind) (by grind); have hm := aRl (x := x) (i := z3.2.2) (b := uR) (by grind) (by grind); (repeat' with_reducible refine And.intro ?_ ?_) <;> first | grind | (dsimp only; rw [hr4]; exact gM _))
  (clear hL2; grind)
 apply aA
 (unfold ofM jS; grind)
end
section
attribute [local grind] aQ aF size_mk
theorem aGz (x : List Int × List Int) (h0 : x.1.length ≤ 1000000) (h1 : x.2.length ≤ 1000000) : Tot (aAn x) (fun y => x.1 = x.2 → y = true) := by
 unfold aAn; try dsimp only
 apply aB <;> intro hc
 ·apply aA
  grind
 refine aX (fun z2 => z2 ≤ (x.1.length : Int) ∧ 0 ≤ z2) (fun z2 => ((x.1.length : Int) - z2).toNat) fun L1 z2 hz1 hL1 => ?_
 apply aB <;> intro hc
 ·iterate 2 refine aH ?_
  apply aB <;> intro hc
  ·apply aA
   grind
  apply hL1 <;> grind
 apply aA
 grind
end
section
attribute [local grind] aQ aF size_mk
theorem bAw (x : fT × fT) (h0 : x.1.2.length ≤ 1000000) (h1 : x.2.2.length ≤ 1000000) : Tot (aMh x) (fun y => x.1 = x.2 → y = true) := by
 unfold aMh; try dsimp only
 apply aB <;> intro hc
 ·refine aC (aGz _ (by grind) (by grind)) fun r1 hr1 => ?_
  apply aA
  grind
 apply aA
 grind
end
section
attribute [local grind] aQ aF size_mk
theorem aUr (x : List aN × List aN) (h0 : x.1.length ≤ 1000000) (h1 : x.2.length ≤ 1000000) : Tot (aFd x) (fun y => x.1 = x.2 → y = true) := by
 unfold aFd; try dsimp only
 apply aB <;> intro hc
 ·apply aA
  grind
 refine aX (fun z2 => z2 ≤ (x.1.length : Int) ∧ 0 ≤ z2) (fun z2 => ((x.1.length : Int) - z2).toNat) fun L1 z2 hz1 hL1 => ?_
 apply aB <;> intro hc
 ·iterate 2 refine aH ?_
  apply aB <;> intro hc
  ·apply aA
   grind
  apply hL1 <;> grind
 apply aA
 grind
end
section
attribute [local grind] aQ aF size_mk bL
theorem aXh (x : List aY × List aY) (h0 : x.1.length ≤ 1000000) (h1 : x.2.length ≤ 1000000) (h2 : ∀ s ∈ x.1, s.2.2.2.length ≤ 1000000) (h3 : ∀ s ∈ x.2, s.2.2.2.length ≤ 1000000) : Tot (aHw x) (fun y => x.1 = x.2 → y = true) := by
 unfold aHw; try dsimp only
 apply aB <;> intro hc
 ·apply aA
  grind
 refine aX (fun z2 => z2 ≤ (x.1.length : Int) ∧ 0 ≤ z2) (fun z2 => ((x.1.length : Int) - z2).toNat) fun L1 z2 hz1 hL1 => ?_
 apply aB <;> intro hc
 ·iterate 2 refine aH ?_
  apply aB <;> intro hc
  ·apply aA
   grind
  iterate 2 refine aH ?_
  apply aB <;> intro hc
  ·apply aA
   grind
  iterate 2 refine aH ?_
  apply aB <;> intro hc
  ·apply aA
   grind
  iterate 2 refine aH ?_
  refine aC (aGz _ (by grind) (by grind)) fun r3 hr3 => ?_
  apply aB <;> intro hc
  ·apply aA
   grind
  apply hL1 <;> grind
 apply aA
 grind
end
section
attribute [local grind] aQ aF size_mk BooksW
theorem gB (x : bC × bC) (h0 : BooksW x.1) (h1 : BooksW x.2) : Tot (gI x) (fun y => x.1 = x.2 → y = true) := by
 unfold gI; try dsimp only
 apply aB <;> intro hc
 ·refine aC (bAw _ (by grind) (by grind)) fun r1 hr1 => ?_
  apply aB <;> intro hc
  ·refine aC (aUr _ (by grind) (by grind)) fun r2 hr2 => ?_
   apply aB <;> intro hc
   ·refine aC (aXh _ (by grind) (by grind) (by grind) (by grind)) fun r3 hr3 => ?_
    apply aA
    grind
   apply aA
   grind
  apply aA
  grind
 apply aA
 grind
end
section
attribute [local grind] aQ aF size_mk BooksW gM BooksG.w
theorem x_w_FnBooksOthers (x : List Int) (h0 : x.length ≤ 2000000) (h1 : ∀ b ∈ x, 0 ≤ b ∧ b ≤ 255) : Tot (w_FnBooksOthers x) (fun y => y = true) := by
 unfold w_FnBooksOthers; try dsimp only
 apply aB <;> intro hc
 ·apply aA
  first | grind | (have hv : (doM x).2.1 ≠ 0 := (by grind); have hs := (aBa hv).2; have hw := hx.1.w; unfold BooksW at hw; grind)
 refine aC (aDb _ (by grind) (by grind)) fun r1 hr1 => ?_
 refine aC (aDn _ (by grind) (by grind)) fun r2 hr2 => ?_
 refine aC (nA _ (by grind) (by grind)) fun r3 hr3 => ?_
 refine aC (gB _ (by first | grind | (simp only [hr2, hr3]; exact gM _)) (by first | grind | (simp only [hr2, hr3]; exact gM _))) fun r4 hr4 => ?_
 apply aB <;> intro hc
 ·refine aC (gB _ (by first | grind | (simp only [hr2, hr3]; exact gM _)) (by first | grind | (simp only [hr2, hr3]; exact gM _))) fun r5 hr5 => ?_
  apply aA
  first | grind | (have hv : (doM r1).2.1 ≠ 0 := (by grind); have hs := (aBa hv).2; have hw := hr1.1.w; unfold BooksW at hw; grind)
 apply aB <;> intro hc
 ·refine aC (gB _ (by first | grind | (simp only [hr2, hr3]; exact gM _)) (by first | grind | (simp only [hr2, hr3]; exact gM _))) fun r6 hr6 => ?_
  apply aA
  first | grind | (have hv : (doM r1).2.1 ≠ 0 := (by grind); have hs := (aBa hv).2; have hw := hr1.1.w; unfold BooksW at hw; grind)
 refine eZ (fun z8 => z8.1 = r1.1 ∧ z8.2.1 = r1.2 ∧ z8.2.2.1 = r3 ∧ z8.2.2.2 ≤ (z8.1.2.2.2.2.length : Int) ∧ 0 ≤ z8.2.2.2 ∧ z8.1 = r1.1 ∧ z8.2.1 = r1.2 ∧ z8.2.2.1 = doM r1 ∧ BooksW r1.1) (fun z8 => ((z8.1.2.2.2.2.length : Int) - z8.2.2.2).toNat) (by grind) (by (have hw := hr1.1.w; have hd := gM r1; unfold BooksW at hw hd; dsimp only; grind)) fun L7 z8 hz7 hL7 => ?_
 apply aB <;> intro hc
 ·refine aH ?_
  apply aB <;> intro hc
  ·apply hL7 <;> grind
  refine eZ (fun z10 => z10.1 = z8.2.2.1 ∧ z10.2.1 = z8.2.1 ∧ z10.2.2.1 = z8.1 ∧ z10.2.2.2.2 ≤ (z10.1.2.2.2.2.length : Int) ∧ 0 ≤ z10.2.2.2.2 ∧ (z10.2.2.2.1 = true ∨ ∃ k : Int, z10.2.2.2.2 ≤ k ∧ k < ((doM r1).2.2.2.2.length : Int) ∧ aS (doM r1).2.2.2.2 k = aS r1.1.2.2.2.2 z8.2.2.2) ∧ z10.1 = doM r1 ∧ z10.2.2.1 = r1.1 ∧ z10.2.1 = r1.2) (fun z10 => ((z10.1.2.2.2.2.length : Int) - z10.2.2.2.2).toNat) (by (have hv : (doM r1).2.1 ≠ 0 := (by grind); have hs := (aBa hv).1 (aS r1.1.2.2.2.2 z8.2.2.2) (bL (by grind) (by grind)) (by grind); obtain ⟨k, k0, k1, k2⟩ := bF0 hs; grind)) (by (have hw := hr1.1.w; have hd := gM r1; unfold BooksW at hw hd; dsimp only; grind)) fun L9 z10 hz9 hL9 => ?_
  apply aB <;> intro hc
  ·apply aB <;> intro hc
   ·apply hL9 <;> grind [aF, size_mk, gM]
   iterate 2 refine aH ?_
   apply aB <;> intro hc
   ·iterate 2 refine aH ?_
    apply aB <;> intro hc
    ·iterate 2 refine aH ?_
     apply aB <;> intro hc
     ·iterate 2 refine aH ?_
      refine aC (aGz _ (by grind [gM, bL]) (by grind [gM, bL])) fun r15 hr15 => ?_
      apply hL9 <;> grind [aF, size_mk, gM]
     apply hL9 <;> grind [aF, size_mk, gM]
    apply hL9 <;> grind [aF, size_mk, gM]
   apply hL9 <;> grind [aF, size_mk, gM]
  apply aB <;> intro hc
  ·apply aA
   first | grind | (have hv : (doM r1).2.1 ≠ 0 := (by grind); have hs := (aBa hv).2; have hw := hr1.1.w; unfold BooksW at hw; grind)
  apply hL7 <;> grind
 apply aA
 first | grind | (have hv : (doM r1).2.1 ≠ 0 := (by grind); have hs := (aBa hv).2; have hw := hr1.1.w; unfold BooksW at hw; grind)
end
section
attribute [local grind] aQ aF size_mk BooksW gM BooksG.w bL
theorem x_w_FnBooksPast (x : List Int) (h0 : x.length ≤ 2000000) (h1 : ∀ b ∈ x, 0 ≤ b ∧ b ≤ 255) : Tot (w_FnBooksPast x) (fun y => y = true) := by
 unfold w_FnBooksPast; try dsimp only
 apply aB <;> intro hc
 ·apply aA
  first | grind | (have hB := hz12.2.2.2.2.2.2.2.2.1; have h60 := hz12.2.2.2.2.2.2.2.2.2.1; have hp := fD (x := (x.1, z3.2.1)) hB h60 (fun h => by have := hz12.2.2.2.2.2.2.2.2.2.2 (by grind); have := h.2; dsimp only at this; omega); grind)
 refine aC (aDb _ (by grind) (by grind)) fun r1 hr1 => ?_
 refine eZ (fun z3 => z3.1 = r1.1 ∧ z3.2.1.1 = r1.2.1 ∧ z3.2.1.2.2 = r1.2.2.2 ∧ z3.2.2 ≤ (z3.1.2.2.2.2.length : Int) ∧ 0 ≤ z3.2.2 ∧ z3.1 = r1.1 ∧ z3.2.1.1 = r1.2.1 ∧ z3.2.1.2.2 = r1.2.2.2 ∧ BooksW r1.1 ∧ r1.2.2.2.2.1.size ≤ 1000) (fun z3 => ((z3.1.2.2.2.2.length : Int) - z3.2.2).toNat) (by exact ⟨rfl, rfl, rfl, by grind, by grind, rfl, rfl, rfl, hr1.1.w, hr1.2⟩) (by (have hw := hr1.1.w; unfold BooksW at hw; dsimp only; grind)) fun L2 z3 hz2 hL2 => ?_
 apply aB <;> intro hc
 ·refine aH ?_
  apply aB <;> intro hc
  ·iterate 2 refine aH ?_
   refine hL2 _ ?_ ?_
   ·first | (clear hL12; have hB := hz12.2.2.2.2.2.2.2.2.1; have hlt : z13.2.2.2.2 < (r1.1.2.2.2.2.length : Int) := (by grind); have hl := uI (l := r1.1.2.2.2.2) hB.2.2.2.2.2 (bL (xs := r1.1.2.2.2.2) (i := z13.2.2.2.2) (by grind) hlt); have hw := hr1.1.w; unfold BooksW at hw; grind) | (have hw := hr1.1.w; unfold BooksW at hw; grind)
   grind
  refine hL2 _ ?_ ?_
  ·first | (clear hL12; have hB := hz12.2.2.2.2.2.2.2.2.1; have hlt : z13.2.2.2.2 < (r1.1.2.2.2.2.length : Int) := (by grind); have hl := uI (l := r1.1.2.2.2.2) hB.2.2.2.2.2 (bL (xs := r1.1.2.2.2.2) (i := z13.2.2.2.2) (by grind) hlt); have hw := hr1.1.w; unfold BooksW at hw; grind) | (have hw := hr1.1.w; unfold BooksW at hw; grind)
  grind
 refine aC (aDn _ (by grind) (by grind)) fun r5 hr5 => ?_
 refine aC (nA _ (by grind) (by grind)) fun r6 hr6 => ?_
 refine aC (gB _ (by first | (simp only [hr5, hr6]; exact gM _) | (have hq := gM (r1.1, z3.2.1); have e := hz12.2.2.2.2.2.2.2.1; rw [← e] at hq; exact hq) | grind) (by first | (simp only [hr5, hr6]; exact gM _) | (have hq := gM (r1.1, z3.2.1); have e := hz12.2.2.2.2.2.2.2.1; rw [← e] at hq; exact hq) | grind)) fun r7 hr7 => ?_
 apply aB <;> intro hc
 ·refine aC (gB _ (by first | (simp only [hr5, hr6]; exact gM _) | (have hq := gM (r1.1, z3.2.1); have e := hz12.2.2.2.2.2.2.2.1; rw [← e] at hq; exact hq) | grind) (by first | (simp only [hr5, hr6]; exact gM _) | (have hq := gM (r1.1, z3.2.1); have e := hz12.2.2.2.2.2.2.2.1; rw [← e] at hq; exact hq) | grind)) fun r8 hr8 => ?_
  apply aA
  first | grind | (have hB := hz12.2.2.2.2.2.2.2.2.1; have h60 := hz12.2.2.2.2.2.2.2.2.2.1; have hp := fD (x := (r1.1, z3.2.1)) hB h60 (fun h => by have := hz12.2.2.2.2.2.2.2.2.2.2 (by grind); have := h.2; dsimp only at this; omega); grind)
 refine aC (aKs _ (by grind)) fun r9 hr9 => ?_
 apply aB <;> intro hc
 ·refine aC (gB _ (by first | (simp only [hr5, hr6]; exact gM _) | (have hq := gM (r1.1, z3.2.1); have e := hz12.2.2.2.2.2.2.2.1; rw [← e] at hq; exact hq) | grind) (by first | (simp only [hr5, hr6]; exact gM _) | (have hq := gM (r1.1, z3.2.1); have e := hz12.2.2.2.2.2.2.2.1; rw [← e] at hq; exact hq) | grind)) fun r10 hr10 => ?_
  apply aA
  first | grind | (have hB := hz12.2.2.2.2.2.2.2.2.1; have h60 := hz12.2.2.2.2.2.2.2.2.2.1; have hp := fD (x := (r1.1, z3.2.1)) hB h60 (fun h => by have := hz12.2.2.2.2.2.2.2.2.2.2 (by grind); have := h.2; dsimp only at this; omega); grind)
 apply aB <;> intro hc
 ·refine aC (gB _ (by first | (simp only [hr5, hr6]; exact gM _) | (have hq := gM (r1.1, z3.2.1); have e := hz12.2.2.2.2.2.2.2.1; rw [← e] at hq; exact hq) | grind) (by first | (simp only [hr5, hr6]; exact gM _) | (have hq := gM (r1.1, z3.2.1); have e := hz12.2.2.2.2.2.2.2.1; rw [← e] at hq; exact hq) | grind)) fun r11 hr11 => ?_
  apply aA
  first | grind | (have hB := hz12.2.2.2.2.2.2.2.2.1; have h60 := hz12.2.2.2.2.2.2.2.2.2.1; have hp := fD (x := (r1.1, z3.2.1)) hB h60 (fun h => by have := hz12.2.2.2.2.2.2.2.2.2.2 (by grind); have := h.2; dsimp only at this; omega); grind)
 refine eZ (fun z13 => z13.1 = z3.2.1 ∧ z13.2.1 = z3.1 ∧ z13.2.2.1 = r6 ∧ z13.2.2.2.2 ≤ (z13.2.1.2.2.2.2.length : Int) ∧ 0 ≤ z13.2.2.2.2 ∧ z13.1 = z3.2.1 ∧ z13.2.1 = r1.1 ∧ z13.2.2.1 = doM (r1.1, z3.2.1) ∧ BooksP r1.1 ∧ r1.1.1 < 60 ∧ (z13.2.2.2.1 = true → z3.2.1.2.1 ≤ iR r1.1.2.2.2.2 z3.2.1.1)) (fun z13 => ((z13.2.1.2.2.2.2.length : Int) - z13.2.2.2.2).toNat) (by grind) (by (have hw := hr1.1.w; unfold BooksW at hw; dsimp only; grind)) fun L12 z13 hz12 hL12 => ?_
 apply aB <;> intro hc
 ·apply aB <;> intro hc
  ·refine hL12 _ ?_ ?_
   ·first | (clear hL12; have hB := hz12.2.2.2.2.2.2.2.2.1; have hlt : z13.2.2.2.2 < (r1.1.2.2.2.2.length : Int) := (by grind); have hl := uI (l := r1.1.2.2.2.2) hB.2.2.2.2.2 (bL (xs := r1.1.2.2.2.2) (i := z13.2.2.2.2) (by grind) hlt); have hw := hr1.1.w; unfold BooksW at hw; grind) | (have hw := hr1.1.w; unfold BooksW at hw; grind)
   grind
  refine aH ?_
  apply aB <;> intro hc
  ·refine aH ?_
   refine hL12 _ ?_ ?_
   ·first | (clear hL12; have hB := hz12.2.2.2.2.2.2.2.2.1; have hlt : z13.2.2.2.2 < (r1.1.2.2.2.2.length : Int) := (by grind); have hl := uI (l := r1.1.2.2.2.2) hB.2.2.2.2.2 (bL (xs := r1.1.2.2.2.2) (i := z13.2.2.2.2) (by grind) hlt); have hw := hr1.1.w; unfold BooksW at hw; grind) | (have hw := hr1.1.w; unfold BooksW at hw; grind)
   grind
  refine hL12 _ ?_ ?_
  ·first | (clear hL12; have hB := hz12.2.2.2.2.2.2.2.2.1; have hlt : z13.2.2.2.2 < (r1.1.2.2.2.2.length : Int) := (by grind); have hl := uI (l := r1.1.2.2.2.2) hB.2.2.2.2.2 (bL (xs := r1.1.2.2.2.2) (i := z13.2.2.2.2) (by grind) hlt); have hw := hr1.1.w; unfold BooksW at hw; grind) | (have hw := hr1.1.w; unfold BooksW at hw; grind)
  grind
 apply aB <;> intro hc
 ·apply aA
  first | grind | (have hB := hz12.2.2.2.2.2.2.2.2.1; have h60 := hz12.2.2.2.2.2.2.2.2.2.1; have hp := fD (x := (r1.1, z3.2.1)) hB h60 (fun h => by have := hz12.2.2.2.2.2.2.2.2.2.2 (by grind); have := h.2; dsimp only at this; omega); grind)
 refine aC (gB _ (by first | (simp only [hr5, hr6]; exact gM _) | (have hq := gM (r1.1, z3.2.1); have e := hz12.2.2.2.2.2.2.2.1; rw [← e] at hq; exact hq) | grind) (by first | (simp only [hr5, hr6]; exact gM _) | (have hq := gM (r1.1, z3.2.1); have e := hz12.2.2.2.2.2.2.2.1; rw [← e] at hq; exact hq) | grind)) fun r17 hr17 => ?_
 apply aA
 first | grind | (have hB := hz12.2.2.2.2.2.2.2.2.1; have h60 := hz12.2.2.2.2.2.2.2.2.2.1; have hp := fD (x := (r1.1, z3.2.1)) hB h60 (fun h => by have := hz12.2.2.2.2.2.2.2.2.2.2 (by grind); have := h.2; dsimp only at this; omega); grind)
end
theorem aDr (x : List aI) (h0 : x.length ≤ 1000000) : Tot (iP x) (fun y => (fB x → bs y = eO x) ∧ (¬ fB x → bs y = []) ∧ y.size ≤ 300) := by
 obtain ⟨y, e, h1, h2⟩ := zZ x h0
 obtain ⟨z, e2, h3⟩ := sO x h0
 rw [e] at e2
 exact ⟨y, e, h1, h2, by rw [Option.some.inj e2]; exact h3⟩
theorem fI {t : ByteArray} {L : List aI} (h : (fP t).2 = true) (h1 : fB L → bs t = eO L) (h2 : ¬ fB L → bs t = []) : (fP t).1 = L := by
 obtain ⟨k1, k2, k3⟩ := iF h
 have hL : fB L := Classical.byContradiction fun hn => by rw [h2 hn] at k2; exact wR k1 k2
 obtain ⟨y, e, hy⟩ := zW L t hL (h1 hL).symm k3
 obtain ⟨z, e2, hz⟩ := zW (fP t).1 t k1 k2 k3
 rw [e] at e2
 have := (Option.some.inj e2).symm.trans hy
 rw [hz] at this
 exact congrArg Prod.fst this
section
attribute [local grind] aQ aF size_mk BooksW gM bIv BooksG.w bL
theorem x_w_FnBooksSwap (x : List Int × List Int) (h0 : x.1.length ≤ 2000000) (h1 : ∀ b ∈ x.1, 0 ≤ b ∧ b ≤ 255) (h2 : x.2.length ≤ 2000000) (h3 : ∀ b ∈ x.2, 0 ≤ b ∧ b ≤ 255) : Tot (w_FnBooksSwap x) (fun y => y = true) := by
 unfold w_FnBooksSwap; try dsimp only
 apply aB <;> intro hc
 ·apply aA
  first | grind | (clear hL15; have hx := hr11.1 (by grind); have hy := hr13.1 (by grind); have tx : (fP r4).2 = true := (by have := hx.2.2.2.2; grind); have ty : (fP r5).2 = true := (by have := hy.2.2.2.2; grind); have ex := fI tx hr4.1 hr4.2.1; have ey := fI ty hr5.1 hr5.2.1; have hlen : (ofM r1).1 ≤ 58 := (by have := aLi r1; have := hr1.1; grind); have hk : ∀ s ∈ r2, ∀ t ∈ r3, s.2.1 ≠ t.2.1 := bQ (P := fun s => ∀ t ∈ r3, s.2.1 ≠ t.2.1) (fun i i0 i1 => bQ (P := fun t => (aJ r2 i).2.1 ≠ t.2.1) (fun k k0 k1 => by grind)); have hs := uK (b := ofM r1) hx hy rfl rfl (by show (0 : Int) ≠ 1; decide) hlen (by dsimp only; rw [ex, ey]; exact hk); grind)
 apply aB <;> intro hc
 ·apply aA
  first | grind | (clear hL15; have hx := hr11.1 (by grind); have hy := hr13.1 (by grind); have tx : (fP r4).2 = true := (by have := hx.2.2.2.2; grind); have ty : (fP r5).2 = true := (by have := hy.2.2.2.2; grind); have ex := fI tx hr4.1 hr4.2.1; have ey := fI ty hr5.1 hr5.2.1; have hlen : (ofM r1).1 ≤ 58 := (by have := aLi r1; have := hr1.1; grind); have hk : ∀ s ∈ r2, ∀ t ∈ r3, s.2.1 ≠ t.2.1 := bQ (P := fun s => ∀ t ∈ r3, s.2.1 ≠ t.2.1) (fun i i0 i1 => bQ (P := fun t => (aJ r2 i).2.1 ≠ t.2.1) (fun k k0 k1 => by grind)); have hs := uK (b := ofM r1) hx hy rfl rfl (by show (0 : Int) ≠ 1; decide) hlen (by dsimp only; rw [ex, ey]; exact hk); grind)
 refine aC (aL1 _ (by grind) (by grind)) fun r1 hr1 => ?_
 refine aC (aD3 _ (by grind) (by grind)) fun r2 hr2 => ?_
 refine aC (aD3 _ (by grind) (by grind)) fun r3 hr3 => ?_
 refine aC (aDr _ (by grind)) fun r4 hr4 => ?_
 refine aC (aDr _ (by grind)) fun r5 hr5 => ?_
 refine aC (aUu _ (by grind) (by grind)) fun r6 hr6 => ?_
 refine aC (aUz _ (by grind) (by grind)) fun r7 hr7 => ?_
 refine aC (gB _ (by first | grind) (by first | grind)) fun r8 hr8 => ?_
 apply aB <;> intro hc
 ·refine aC (gB _ (by first | grind) (by first | grind)) fun r9 hr9 => ?_
  apply aA
  first | grind | (clear hL15; have hx := hr11.1 (by grind); have hy := hr13.1 (by grind); have tx : (fP r4).2 = true := (by have := hx.2.2.2.2; grind); have ty : (fP r5).2 = true := (by have := hy.2.2.2.2; grind); have ex := fI tx hr4.1 hr4.2.1; have ey := fI ty hr5.1 hr5.2.1; have hlen : (ofM r1).1 ≤ 58 := (by have := aLi r1; have := hr1.1; grind); have hk : ∀ s ∈ r2, ∀ t ∈ r3, s.2.1 ≠ t.2.1 := bQ (P := fun s => ∀ t ∈ r3, s.2.1 ≠ t.2.1) (fun i i0 i1 => bQ (P := fun t => (aJ r2 i).2.1 ≠ t.2.1) (fun k k0 k1 => by grind)); have hs := uK (b := ofM r1) hx hy rfl rfl (by show (0 : Int) ≠ 1; decide) hlen (by dsimp only; rw [ex, ey]; exact hk); grind)
 apply aB <;> intro hc
 ·refine aC (gB _ (by first | grind) (by first | grind)) fun r10 hr10 => ?_
  apply aA
  first | grind | (clear hL15; have hx := hr11.1 (by grind); have hy := hr13.1 (by grind); have tx : (fP r4).2 = true := (by have := hx.2.2.2.2; grind); have ty : (fP r5).2 = true := (by have := hy.2.2.2.2; grind); have ex := fI tx hr4.1 hr4.2.1; have ey := fI ty hr5.1 hr5.2.1; have hlen : (ofM r1).1 ≤ 58 := (by have := aLi r1; have := hr1.1; grind); have hk : ∀ s ∈ r2, ∀ t ∈ r3, s.2.1 ≠ t.2.1 := bQ (P := fun s => ∀ t ∈ r3, s.2.1 ≠ t.2.1) (fun i i0 i1 => bQ (P := fun t => (aJ r2 i).2.1 ≠ t.2.1) (fun k k0 k1 => by grind)); have hs := uK (b := ofM r1) hx hy rfl rfl (by show (0 : Int) ≠ 1; decide) hlen (by dsimp only; rw [ex, ey]; exact hk); grind)
 refine aC (aG0 _ (by grind)) fun r11 hr11 => ?_
 apply aB <;> intro hc
 ·refine aC (gB _ (by first | grind) (by first | grind)) fun r12 hr12 => ?_
  apply aA
  first | grind | (clear hL15; have hx := hr11.1 (by grind); have hy := hr13.1 (by grind); have tx : (fP r4).2 = true := (by have := hx.2.2.2.2; grind); have ty : (fP r5).2 = true := (by have := hy.2.2.2.2; grind); have ex := fI tx hr4.1 hr4.2.1; have ey := fI ty hr5.1 hr5.2.1; have hlen : (ofM r1).1 ≤ 58 := (by have := aLi r1; have := hr1.1; grind); have hk : ∀ s ∈ r2, ∀ t ∈ r3, s.2.1 ≠ t.2.1 := bQ (P := fun s => ∀ t ∈ r3, s.2.1 ≠ t.2.1) (fun i i0 i1 => bQ (P := fun t => (aJ r2 i).2.1 ≠ t.2.1) (fun k k0 k1 => by grind)); have hs := uK (b := ofM r1) hx hy rfl rfl (by show (0 : Int) ≠ 1; decide) hlen (by dsimp only; rw [ex, ey]; exact hk); grind)
 refine aC (aG0 _ (by grind)) fun r13 hr13 => ?_
 apply aB <;> intro hc
 ·refine aC (gB _ (by first | grind) (by first | grind)) fun r14 hr14 => ?_
  apply aA
  first | grind | (clear hL15; have hx := hr11.1 (by grind); have hy := hr13.1 (by grind); have tx : (fP r4).2 = true := (by have := hx.2.2.2.2; grind); have ty : (fP r5).2 = true := (by have := hy.2.2.2.2; grind); have ex := fI tx hr4.1 hr4.2.1; have ey := fI ty hr5.1 hr5.2.1; have hlen : (ofM r1).1 ≤ 58 := (by have := aLi r1; have := hr1.1; grind); have hk : ∀ s ∈ r2, ∀ t ∈ r3, s.2.1 ≠ t.2.1 := bQ (P := fun s => ∀ t ∈ r3, s.2.1 ≠ t.2.1) (fun i i0 i1 => bQ (P := fun t => (aJ r2 i).2.1 ≠ t.2.1) (fun k k0 k1 => by grind)); have hs := uK (b := ofM r1) hx hy rfl rfl (by show (0 : Int) ≠ 1; decide) hlen (by dsimp only; rw [ex, ey]; exact hk); grind)
 refine aX (fun z16 => z16.1 = r2 ∧ z16.2.1 = r3 ∧ z16.2.2.1.1 = 0 ∧ z16.2.2.1.2.1 = 98 ∧ z16.2.2.1.2.2.1 = 1 ∧ z16.2.2.1.2.2.2.1 = r4 ∧ z16.2.2.1.2.2.2.2.1 = 0 ∧ z16.2.2.1.2.2.2.2.2 = 0 ∧ z16.2.2.2.1.1 = 1 ∧ z16.2.2.2.1.2.1 = 98 ∧ z16.2.2.2.1.2.2.1 = 1 ∧ z16.2.2.2.1.2.2.2.1 = r5 ∧ z16.2.2.2.1.2.2.2.2.1 = 0 ∧ z16.2.2.2.1.2.2.2.2.2 = 0 ∧ z16.2.2.2.2.1 = r7 ∧ z16.2.2.2.2.2 ≤ (z16.1.length : Int) ∧ 0 ≤ z16.2.2.2.2.2 ∧ z16.1 = r2 ∧ z16.2.1 = r3 ∧ z16.2.2.1 = (0, (98, (1, (r4, (0, 0))))) ∧ z16.2.2.2.1 = (1, (98, (1, (r5, (0, 0))))) ∧ z16.2.2.2.2.1 = ofM r1 ∧ (∀ i : Int, 0 ≤ i → i < z16.2.2.2.2.2 → ∀ k : Int, 0 ≤ k → k < r3.length → (aJ r2 i).2.1 ≠ (aJ r3 k).2.1)) (fun z16 => ((z16.1.length : Int) - z16.2.2.2.2.2).toNat) fun L15 z16 hz15 hL15 => ?_
 apply aB <;> intro hc
 ·refine aX (fun z18 => z18.1 = z16.2.2.2.2.1 ∧ z18.2.1 = z16.2.2.2.1 ∧ z18.2.2.1 = z16.2.2.1 ∧ z18.2.2.2.1 = z16.2.1 ∧ z18.2.2.2.2.1 = z16.1 ∧ z18.2.2.2.2.2 ≤ (z18.2.2.2.1.length : Int) ∧ 0 ≤ z18.2.2.2.2.2 ∧ z18.2.2.2.2.1 = r2 ∧ z18.2.2.2.1 = r3 ∧ z18.2.2.1 = (0, (98, (1, (r4, (0, 0))))) ∧ z18.2.1 = (1, (98, (1, (r5, (0, 0))))) ∧ z18.1 = ofM r1 ∧ (∀ k : Int, 0 ≤ k → k < z18.2.2.2.2.2 → (aJ r2 z16.2.2.2.2.2).2.1 ≠ (aJ r3 k).2.1)) (fun z18 => ((z18.2.2.2.1.length : Int) - z18.2.2.2.2.2).toNat) fun L17 z18 hz17 hL17 => ?_
  apply aB <;> intro hc
  ·iterate 2 refine aH ?_
   apply aB <;> intro hc
   ·apply aA
    first | grind | (clear hL15; have hx := hr11.1 (by grind); have hy := hr13.1 (by grind); have tx : (fP r4).2 = true := (by have := hx.2.2.2.2; grind); have ty : (fP r5).2 = true := (by have := hy.2.2.2.2; grind); have ex := fI tx hr4.1 hr4.2.1; have ey := fI ty hr5.1 hr5.2.1; have hlen : (ofM r1).1 ≤ 58 := (by have := aLi r1; have := hr1.1; grind); have hk : ∀ s ∈ r2, ∀ t ∈ r3, s.2.1 ≠ t.2.1 := bQ (P := fun s => ∀ t ∈ r3, s.2.1 ≠ t.2.1) (fun i i0 i1 => bQ (P := fun t => (aJ r2 i).2.1 ≠ t.2.1) (fun k k0 k1 => by grind)); have hs := uK (b := ofM r1) hx hy rfl rfl (by show (0 : Int) ≠ 1; decide) hlen (by dsimp only; rw [ex, ey]; exact hk); grind)
   apply hL17 <;> grind
  apply hL15 <;> grind
 refine aC (nA _ (by grind) (by grind)) fun r21 hr21 => ?_
 refine aC (nA _ (by grind) (by grind)) fun r22 hr22 => ?_
 refine aC (nA _ (by grind) (by grind)) fun r23 hr23 => ?_
 refine aC (nA _ (by grind) (by grind)) fun r24 hr24 => ?_
 refine aC (gB _ (by first | grind) (by first | grind)) fun r25 hr25 => ?_
 apply aA
 first | grind | (clear hL15; have hx := hr11.1 (by grind); have hy := hr13.1 (by grind); have tx : (fP r4).2 = true := (by have := hx.2.2.2.2; grind); have ty : (fP r5).2 = true := (by have := hy.2.2.2.2; grind); have ex := fI tx hr4.1 hr4.2.1; have ey := fI ty hr5.1 hr5.2.1; have hlen : (ofM r1).1 ≤ 58 := (by have := aLi r1; have := hr1.1; grind); have hk : ∀ s ∈ r2, ∀ t ∈ r3, s.2.1 ≠ t.2.1 := bQ (P := fun s => ∀ t ∈ r3, s.2.1 ≠ t.2.1) (fun i i0 i1 => bQ (P := fun t => (aJ r2 i).2.1 ≠ t.2.1) (fun k k0 k1 => by grind)); have hs := uK (b := ofM r1) hx hy rfl rfl (by show (0 : Int) ≠ 1; decide) hlen (by dsimp only; rw [ex, ey]; exact hk); grind)
end
end Ab
end
section
namespace Ab
open Go
def pr8 (W : World) : dU := fun b => if b < W.heap.size then some (.int .u8) else none
def cx8 (W : World) : Cx := ⟨W, fun _ => False, pr8 W⟩
theorem mo8 (W : World) (ρ : Nat → Loc) : Mo (cx8 W) ⟨[], []⟩ ρ (pr8 W) (fun _ => undef) W where
  sl := fun i v h => by cases h
  hp := fun k o h => by cases h
  inj := fun k j b h => by cases h
  prot := fun b r h => by
    unfold pr8 at h
    split at h
    · exact ⟨by assumption, fun k hk => by cases hk⟩
    · cases h
  os := rfl
  tape := rfl
  output := rfl
  size := Nat.le_refl _
  heap := fun _ _ _ => rfl
  prC := fun _ _ h => h
  prN := fun _ _ h => .inl h
  ownC := fun k b h => by cases h
theorem bJk {W : World} {a : Addr} {len cap : Nat} {zs : List Int} (hl : len ≤ cap) (hm : cap ≤ maxLen) (hz : zs.length = cap)
    (hcell : ∀ i, i < zs.length → W.cell? (a.add i) = some (.int .u8 (zs.getD i 0))) : Rep W (pr8 W) (.sl (.int .u8)) (zs.take len) [.slice (some a) len cap] := by
  have hlt : (zs.take len).length = len := by rw [List.length_take]; omega
  refine ⟨some a, cap, by rw [hlt], by rw [hlt]; exact hl, hm, ?_⟩
  by_cases h0 : len = 0
  · exact .inl (by rw [hlt]; exact h0)
  right
  obtain ⟨b, o, s⟩ := a
  have hs : s = none := by simpa [Addr.add] using World.cell?_spot (hcell 0 (by omega))
  subst hs
  have hb : b < W.heap.size := by
    have h := hcell 0 (by omega)
    rcases Nat.lt_or_ge b W.heap.size with h' | h'
    · exact h'
    · simp [World.cell?, Addr.add, Array.getElem?_eq_none h'] at h
  refine ⟨b, o, rfl, by simp [pr8, hb], fun i x hx => ?_⟩
  have hi : i < len := by
    have := (List.getElem?_eq_some_iff.1 hx).1
    omega
  have hx' : zs.getD i 0 = x := by
    rw [List.getElem?_take, if_pos hi] at hx
    rw [List.getD, hx]; rfl
  refine ⟨[.int .u8 x], rfl, fun j v hj => ?_, rfl⟩
  cases j with
  | zero =>
    cases hj
    have h := hcell i (by omega)
    rw [Addr.add_lit] at h
    rw [hx'] at h
    simpa [Ty.n] using h
  | succ j => cases hj
theorem bytes8 {H : Type} {enc : TypeId × Value → H} {P : Program} {W : World} {base : Nat} {t e : TypeId} {v : Value} {d : DataW H} {p : List MemPlace} (ht : P.underlying t = some (.slice e)) (he : P.underlying e = some (.int .u8)) (hc : P.cellsOf e = 1)
    (hval : Value.okWide P W .any base t v) (h : DataW.Trod enc P W 0 (fun _ => true) true t v d p) : ∃ xs : List Int, Rep W (pr8 W) (.sl (.int .u8)) xs [v] ∧ ∀ b ∈ xs, 0 ≤ b ∧ b ≤ 255 := by
  obtain ⟨a1, len, cap, rfl⟩ := WideShapes.okWide_slice ht hval
  obtain ⟨fuel, hf⟩ := h
  rcases ChangeShapes.open_ints ht he hc hf with ⟨hcs, _⟩ | ⟨a, len', cap', zs, hcs, _, hl, hm, hz, _, hcell, hwz⟩
  · simp [Value.cells] at hcs
    obtain ⟨rfl, rfl, rfl⟩ := hcs
    exact ⟨[], ⟨none, 0, rfl, Nat.le_refl _, by simp [maxLen], .inl rfl⟩, fun b hb => by cases hb⟩
  · simp [Value.cells] at hcs
    obtain ⟨rfl, rfl, rfl⟩ := hcs
    simp only [if_true] at hz
    refine ⟨zs.take len, bJk hl hm hz hcell, fun b hb => ?_⟩
    exact bounds_u8 (hwz b (List.mem_of_mem_take hb))
theorem aXa {σ : St} {ρ : Nat → Loc} {w : World} {pr : dU} {rv : SV} {y : Bool} {l : List Nat} {v : Value} (h : rv.data σ .bool = some (y, l)) (q : Rp σ.obj ρ w pr rv [v]) : v = .bool y := by
  cases rv with
  | val t' x =>
    simp only [SV.data, Option.bind_eq_some_iff] at h
    obtain ⟨z, h1, h2⟩ := h
    cases h2
    have := aBd h1 q.2
    simpa [Rep] using this
  | _ => cases h
theorem bFl {W W' : World} {σ : St} {ρ : Nat → Loc} {pr : dU} {f : Nat → Value} (M : Mo (cx8 W) σ ρ pr f W') : RowKit.Below W.heap.size W W' :=
  ⟨M.os, M.tape, M.output, M.size, fun b hb => M.heap b hb fun h => h⟩
variable {P : Program}
theorem call1 {fid : Nat} {F : List Int → Option Bool} (hF : FnOK P fid ⟨.cons (.sc (.sl (.int .u8))) .nil, .sc .bool, F, []⟩) {W : World} (hG : GlobOk P W) (hlt : P.globals.size ≤ W.heap.size) {v : Value} {xs : List Int}
    (hr : Rep W (pr8 W) (.sl (.int .u8)) xs [v]) {y : Bool} (hy : F xs = some y) : Calls P fid #[v] W fun e W' => e = .returned (.bool y) ∧ RowKit.Below W.heap.size W W' := by
  refine (hF.calls (cx8 W) (fun _ => ⟨undef, 0⟩) [] #[v] W xs y rfl hy ⟨hG, fun b hb => ⟨Nat.lt_of_lt_of_le hb hlt, fun h => h⟩⟩ (mo8 W _) ⟨v, [], rfl, ⟨rfl, hr⟩, rfl⟩).mono ?_
  rintro e W' ⟨v', rfl, σe, ρe, pre, fe, gs, rv, vis, bor, M, hg, _, _, qr⟩
  refine ⟨?_, bFl M⟩
  have hg : ((Sh.tup (.cons .dead .nil)).get σe (.tup gs) []).bind (fun p => (((Sh.sc .bool).get σe rv p.2.1).bind fun q => some (Sh.mk (.sc .bool) .nil q.1 (), q.2.1, q.2.2 ++ [])).bind fun q => some (Sh.mk (.tup (.cons .dead .nil)) (.cons (.sc .bool) .nil) p.1 q.1, q.2.1, p.2.2 ++ q.2.2)) = some (y, vis, bor) := hg
  obtain ⟨p, _, hg⟩ := Option.bind_eq_some_iff.1 hg
  obtain ⟨q, hq, hg⟩ := Option.bind_eq_some_iff.1 hg
  obtain ⟨u, hu, hq⟩ := Option.bind_eq_some_iff.1 hq
  have hu : (rv.data σe .bool).bind (fun z => some (z.1, p.2.1, z.2)) = some u := hu
  obtain ⟨z, hz, hu⟩ := Option.bind_eq_some_iff.1 hu
  cases hu
  cases hq
  have hy : z.1 = y := congrArg (fun t => t.1) (Option.some.inj hg)
  rw [aXa hz qr, hy]
theorem call2 {fid : Nat} {F : List Int × List Int → Option Bool} (hF : FnOK P fid ⟨.cons (.sc (.sl (.int .u8))) (.cons (.sc (.sl (.int .u8))) .nil), .sc .bool, F, []⟩) {W : World} (hG : GlobOk P W) (hlt : P.globals.size ≤ W.heap.size) {v v2 : Value} {xs ys : List Int}
    (hr : Rep W (pr8 W) (.sl (.int .u8)) xs [v]) (hr2 : Rep W (pr8 W) (.sl (.int .u8)) ys [v2]) {y : Bool} (hy : F (xs, ys) = some y) : Calls P fid #[v, v2] W fun e W' => e = .returned (.bool y) ∧ RowKit.Below W.heap.size W W' := by
  refine (hF.calls (cx8 W) (fun _ => ⟨undef, 0⟩) [] #[v, v2] W (xs, ys) y rfl hy ⟨hG, fun b hb => ⟨Nat.lt_of_lt_of_le hb hlt, fun h => h⟩⟩ (mo8 W _) ⟨v, [v2], rfl, ⟨rfl, hr⟩, v2, [], rfl, ⟨rfl, hr2⟩, rfl⟩).mono ?_
  rintro e W' ⟨v', rfl, σe, ρe, pre, fe, gs, rv, vis, bor, M, hg, _, _, qr⟩
  refine ⟨?_, bFl M⟩
  have hg : ((Sh.tup (.cons .dead (.cons .dead .nil))).get σe (.tup gs) []).bind (fun p => (((Sh.sc .bool).get σe rv p.2.1).bind fun q => some (Sh.mk (.sc .bool) .nil q.1 (), q.2.1, q.2.2 ++ [])).bind fun q => some (Sh.mk (.tup (.cons .dead (.cons .dead .nil))) (.cons (.sc .bool) .nil) p.1 q.1, q.2.1, p.2.2 ++ q.2.2)) = some (y, vis, bor) := hg
  obtain ⟨p, _, hg⟩ := Option.bind_eq_some_iff.1 hg
  obtain ⟨q, hq, hg⟩ := Option.bind_eq_some_iff.1 hg
  obtain ⟨u, hu, hq⟩ := Option.bind_eq_some_iff.1 hq
  have hu : (rv.data σe .bool).bind (fun z => some (z.1, p.2.1, z.2)) = some u := hu
  obtain ⟨z, hz, hu⟩ := Option.bind_eq_some_iff.1 hu
  cases hu
  cases hq
  have hy : z.1 = y := congrArg (fun t => t.1) (Option.some.inj hg)
  rw [aXa hz qr, hy]
end Ab
end
section
namespace Go.Proofs.YtpkhfddccaljiaaGreatDoor
open Go Go.ChangeShapes Go.WideShapes Go.ChangeAt Go.RowKit
set_option maxRecDepth 100000
abbrev laid8 : List (String × DataW Unit) := Rows.fnBooksOthersRow.laid
theorem bHs : ownKnob Tryz.prog.godebug = none := by kernel_rfl
theorem cells5 : Tryz.prog.cellsOf 5 = 1 := by kernel_rfl
theorem bHc : "*errors.errorString" = "*" ++ "errors.errorString" := by decide
theorem bIp (u : TypeId) (h : Tryz.prog.typeName? 3 u = some "*errors.errorString") : u = 267 :=
  typeName_ptr_named (nm := "errors.errorString") (by rw [← bHc]; kernel_rfl) (by kernel_rfl) (by decide) u (by rw [← bHc]; exact h)
theorem bHj {W : World} (hL : laidMetH Tryz.prog laid8 W) (hS : W.ShapedOpen Tryz.prog) : Ab.GlobOk Tryz.prog W := by
  rw [MakeChecks.laidMetH_plain _ _ _ (by kernel_rfl)] at hL
  have h3 : laidMet Tryz.prog (("internal/strconv.uint64pow10", Lib.tabData .u64 Lib.pow10Tab) :: laid8.drop 3) W := hL.tail.tail
  have h5 := h3.tail.tail
  have h6 := h5.tail
  refine ⟨of_decide_eq_true (by kernel_rfl), ?_, ?_, ?_, ⟨5, by kernel_rfl, of_decide_eq_true (by kernel_rfl), Lib.tabIs_of_head (g := 5) (rest := laid8.drop 3) (t := 345) (e := 229) (n := 20) (by kernel_rfl) (by kernel_rfl) (by kernel_rfl) (by kernel_rfl) (by kernel_rfl) (by kernel_rfl) h3⟩⟩
  · exact cell_of_shapedOpen_int (t := 3) (zero := #[.int .i64 0]) hS (of_decide_eq_true (by kernel_rfl)) (by kernel_rfl) rfl (by kernel_rfl) (by kernel_rfl) (by kernel_rfl)
  · obtain ⟨a, s, hv, _⟩ := laid_sentinel (g := 1) (ti := 157) (te := 269) (ts := 9) h6 (by kernel_rfl) (by kernel_rfl) (ms := #[("Error", 163)]) (by kernel_rfl) bIp (by kernel_rfl) Tryz.underlying269 rfl rfl (by kernel_rfl) (by kernel_rfl) (by kernel_rfl)
    exact ⟨_, by simpa using World.var?_cell (by kernel_rfl) hv 0, .inr ⟨_, _, rfl⟩⟩
  · obtain ⟨a, s, hv, _⟩ := laid_sentinel (g := 2) (ti := 157) (te := 269) (ts := 9) h5 (by kernel_rfl) (by kernel_rfl) (ms := #[("Error", 163)]) (by kernel_rfl) bIp (by kernel_rfl) Tryz.underlying269 rfl rfl (by kernel_rfl) (by kernel_rfl) (by kernel_rfl)
    exact ⟨_, by simpa using World.var?_cell (by kernel_rfl) hv 0, .inr ⟨_, _, rfl⟩⟩
end Go.Proofs.YtpkhfddccaljiaaGreatDoor
end
section
namespace Go.Proofs.YtpkhfddccaljiaaGreatDoor
open Go Go.ChangeShapes Go.WideShapes Go.ChangeAt Go.RowKit
set_option maxRecDepth 100000
theorem aOy : laidOutB Tryz.prog = true := by kernel_rfl
noncomputable def aDt (os : Os) : World := World.laidAll Tryz.prog os laid8
theorem bHd {W : World} (hS : W.ShapedOpen Tryz.prog) : Tryz.prog.globals.size ≤ W.heap.size := by
  have e : Tryz.prog.globals.size = 8 := by kernel_rfl
  rw [e]
  have h7 : (((begin Tryz.prog (fun _ _ => 0) default).world.heap[7]?).bind Obj.row?).isSome = true := by kernel_rfl
  obtain ⟨⟨z, t⟩, h⟩ := Option.isSome_iff_exists.1 h7
  obtain ⟨cs, h1, _⟩ := hS.1 7 z t (by rw [e]; decide) h
  have := (Array.getElem?_eq_some_iff.1 h1).1
  omega
theorem bHz (os : Os) (args : Array Value) : laidMetH Tryz.prog laid8 ((aDt os).forCall (fun _ _ => 0) ⟨#[], args, []⟩).memory := by
  rw [MakeChecks.laidMetH_plain _ _ _ (by kernel_rfl)]
  exact laidMet_laidAll _ (by kernel_rfl) (by kernel_rfl)
theorem aTb (os : Os) (args : Array Value) : ((aDt os).forCall (fun _ _ => 0) ⟨#[], args, []⟩).Shaped Tryz.prog :=
  World.shaped_of_ZipB (by kernel_rfl) (by kernel_rfl)
theorem aR8 {fid : Nat} {fn : Func} {s : ChangeSpec} {F : List Int → Option Bool} (hp : fn.params = #[22]) (hr : fn.resultTypes = #[4]) (hs : s.vars = []) (hfn : ∀ (H : Type) (d : DataW H), s.fn H [d] = { results := [.lit (.bool true)], args := [d] })
    (hF : Ab.FnOK Tryz.prog fid ⟨.cons (.sc (.sl (.int .u8))) .nil, .sc .bool, F, []⟩) (hT : ∀ x : List Int, (∀ b ∈ x, 0 ≤ b ∧ b ≤ 255) → F x = some true)
    (H : Type) (enc : TypeId × Value → H) (W : World) (base : Nat) (args : Array Value) (ds gs : List (DataW H)) (before : List MemPlace)
    (hval : ∀ (j : Nat) t v, fn.params[j]? = some t → args[j]? = some v → Value.okWide Tryz.prog W .any base t v)
    (hW : DataW.Whole enc Tryz.prog fn.params.toList s.vars false W args.toList ds gs before) (hL : laidMetH Tryz.prog laid8 W) (hS : W.ShapedOpen Tryz.prog) :
    Calls Tryz.prog fid args W fun e W' => ∃ v, e = .returned v ∧ s.post enc Tryz.prog fn false true false false W args v W' := by
  have hW' := hW
  obtain ⟨p, q, hA0, hV, rfl, hfz, hnd⟩ := hW
  rw [hs] at hV
  have hA : DataW.TrodAll enc Tryz.prog W 0 (fun _ => true) true fn.params.toList args.toList ds p := hA0
  have hAk := hA
  rw [hp] at hA hval
  obtain ⟨v0, d0, rfl, rfl, h0⟩ := trodAll_one hA
  obtain ⟨rfl, rfl⟩ := trodVars_none hV
  obtain ⟨xs, hx, hb⟩ := Ab.bytes8 Tryz.underlying22 Tryz.underlying5 cells5 (hval 0 22 v0 rfl rfl) h0
  simp only [List.append_nil] at hW'
  refine (Ab.call1 hF (bHj hL hS) (bHd hS) hx (hT xs hb)).mono ?_
  rintro e W' ⟨rfl, hw⟩
  have hlt : ∀ x ∈ p, x.block < W.heap.size := fun x hx => by simpa using hW'.lt x hx
  refine ⟨_, rfl, _, _, _, [], p, [], hW', ?_, ?_, ?_, hw.frame _, fun h => by cases h⟩
  · rw [hr, show ([d0] ++ [] : List (DataW H)) = [d0] from rfl, hfn]
    exact trodAll_mk1 (shut_bool Tryz.underlying4 _)
  · rw [hp, show ([d0] ++ [] : List (DataW H)) = [d0] from rfl, hfn]
    exact trodAll_mk1 (Below.trod aOy (by kernel_rfl) (of_decide_eq_true (by kernel_rfl)) h0 hw hlt)
  · rw [hs, show ([d0] ++ [] : List (DataW H)) = [d0] from rfl, hfn]
    rfl
theorem bB6 {fid : Nat} {fn : Func} {s : ChangeSpec} {F : List Int × List Int → Option Bool} (hp : fn.params = #[22, 22]) (hr : fn.resultTypes = #[4]) (hs : s.vars = []) (hfn : ∀ (H : Type) (d d2 : DataW H), s.fn H [d, d2] = { results := [.lit (.bool true)], args := [d, d2] })
    (hF : Ab.FnOK Tryz.prog fid ⟨.cons (.sc (.sl (.int .u8))) (.cons (.sc (.sl (.int .u8))) .nil), .sc .bool, F, []⟩) (hT : ∀ x : List Int × List Int, (∀ b ∈ x.1, 0 ≤ b ∧ b ≤ 255) → (∀ b ∈ x.2, 0 ≤ b ∧ b ≤ 255) → F x = some true)
    (H : Type) (enc : TypeId × Value → H) (W : World) (base : Nat) (args : Array Value) (ds gs : List (DataW H)) (before : List MemPlace)
    (hval : ∀ (j : Nat) t v, fn.params[j]? = some t → args[j]? = some v → Value.okWide Tryz.prog W .any base t v)
    (hW : DataW.Whole enc Tryz.prog fn.params.toList s.vars false W args.toList ds gs before) (hL : laidMetH Tryz.prog laid8 W) (hS : W.ShapedOpen Tryz.prog) :
    Calls Tryz.prog fid args W fun e W' => ∃ v, e = .returned v ∧ s.post enc Tryz.prog fn false true false false W args v W' := by
  have hW' := hW
  obtain ⟨p, q, hA0, hV, rfl, hfz, hnd⟩ := hW
  rw [hs] at hV
  have hA : DataW.TrodAll enc Tryz.prog W 0 (fun _ => true) true fn.params.toList args.toList ds p := hA0
  have hAk := hA
  rw [hp] at hA hval
  obtain ⟨v0, vs0, d0, ds0, p0, q0, hargs, rfl, rfl, h0, r0⟩ := trodAll_cons hA
  obtain ⟨v1, vs1, d1, ds1, p1, q1, rfl, rfl, rfl, h1, r1⟩ := trodAll_cons r0
  obtain ⟨rfl, rfl, rfl⟩ := trodAll_nil r1
  obtain rfl : args = #[v0, v1] := by cases args; simp_all
  obtain ⟨rfl, rfl⟩ := trodVars_none hV
  obtain ⟨xs, hx, hb⟩ := Ab.bytes8 Tryz.underlying22 Tryz.underlying5 cells5 (hval 0 22 v0 rfl rfl) h0
  obtain ⟨ys, hy, hb2⟩ := Ab.bytes8 Tryz.underlying22 Tryz.underlying5 cells5 (hval 1 22 v1 rfl rfl) h1
  simp only [List.append_nil] at hW'
  refine (Ab.call2 hF (bHj hL hS) (bHd hS) hx hy (hT (xs, ys) hb hb2)).mono ?_
  rintro e W' ⟨rfl, hw⟩
  have hlt : ∀ x ∈ p0 ++ p1, x.block < W.heap.size := fun x hx => by simpa using hW'.lt x hx
  refine ⟨_, rfl, _, _, _, [], p0 ++ p1, [], hW', ?_, ?_, ?_, hw.frame _, fun h => by cases h⟩
  · rw [hr, show ([d0, d1] ++ [] : List (DataW H)) = [d0, d1] from rfl, hfn]
    exact trodAll_mk1 (shut_bool Tryz.underlying4 _)
  · rw [hp, show ([d0, d1] ++ [] : List (DataW H)) = [d0, d1] from rfl, hfn]
    exact trodAll_mk2 (Below.trod aOy (by kernel_rfl) (of_decide_eq_true (by kernel_rfl)) h0 hw fun x hx => hlt x (List.mem_append_left _ hx)) (Below.trod aOy (by kernel_rfl) (of_decide_eq_true (by kernel_rfl)) h1 hw fun x hx => hlt x (List.mem_append_right _ hx))
  · rw [hs, show ([d0, d1] ++ [] : List (DataW H)) = [d0, d1] from rfl, hfn]
    rfl
end Go.Proofs.YtpkhfddccaljiaaGreatDoor
end
