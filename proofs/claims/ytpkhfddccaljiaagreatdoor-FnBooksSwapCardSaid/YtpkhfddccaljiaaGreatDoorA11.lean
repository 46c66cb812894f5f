/-
A part of the proof: pure functions told of the program, and laws about them.
-/
import Derived.Test.YtpkhfddccaljiaaGreatDoorA10
set_option linter.all false
section
set_option maxRecDepth 100000
set_option linter.unusedVariables false
namespace Ab
open Go Go.Lib
abbrev II0 : Ty := .int .i64
theorem aVt : ∀ (l : List aN) (k v j : Int), gH (uU II0 II0 k v l) j = if j = k then some v else gH l j
 | [], k, v, j => by
  show (if k = j then some v else gH [] j) = _
  by_cases e : j = k
  ·subst e; simp
  ·rw [if_neg fun h => e h.symm, if_neg e]
 | p :: l, k, v, j => by
  show gH (bif decide (p.1 = k) then (p.1, v) :: l else p :: uU II0 II0 k v l) j = _
  by_cases h : p.1 = k
  ·rw [decide_eq_true h, cond_true, gH, gH]
   by_cases e : j = k
   ·subst e; rw [if_pos h, if_pos rfl]
   ·rw [if_neg (by omega), if_neg e, if_neg (by omega)]
  ·rw [decide_eq_false h, cond_false, gH, gH, aVt l k v j]
   by_cases e : j = k
   ·subst e; rw [if_neg h, if_pos rfl, if_pos rfl]
   ·rw [if_neg e, if_neg e]
theorem aNw : ∀ {l : List aN} {k v : Int} {p : aN}, p ∈ uU II0 II0 k v l → p.1 = k ∨ p ∈ l
 | [], k, v, p, h => by rw [List.mem_singleton.1 (show p ∈ [(k, v)] from h)]; exact .inl rfl
 | q :: l, k, v, p, h => by
  have h : p ∈ (bif decide (q.1 = k) then (q.1, v) :: l else q :: uU II0 II0 k v l) := h
  by_cases e : q.1 = k
  ·rw [decide_eq_true e, cond_true] at h
   rcases List.mem_cons.1 h with rfl | h
   ·exact .inl e
   exact .inr (List.mem_cons_of_mem _ h)
  rw [decide_eq_false e, cond_false] at h
  rcases List.mem_cons.1 h with rfl | h
  ·exact .inr List.mem_cons_self
  exact (aNw (l := l) h).imp id (List.mem_cons_of_mem _)
def aSh (l : List aN) : Prop := (∀ p ∈ l, 0 ≤ p.1 ∧ p.1 ≤ 31) ∧ (l.map (·.1)).Nodup
theorem bBd : ∀ {l : List aN} {k v : Int}, 0 ≤ k ∧ k ≤ 31 → aSh l → aSh (uU II0 II0 k v l)
 | l, k, v, hk, h => by
  refine ⟨fun p hp => ?_, ?_⟩
  ·rcases aNw hp with e | hp
   ·rw [e]; exact hk
   exact h.1 p hp
  have hn := h.2
  clear h
  induction l with
  | nil => show ([(k, v)].map (·.1)).Nodup; simp
  | cons q l ih =>
   show ((bif decide (q.1 = k) then (q.1, v) :: l else q :: uU II0 II0 k v l).map (·.1)).Nodup
   by_cases e : q.1 = k
   ·rw [decide_eq_true e, cond_true]; exact hn
   ·rw [decide_eq_false e, cond_false]
    rw [List.map_cons, List.nodup_cons] at hn ⊢
    refine ⟨fun hm => ?_, ih hn.2⟩
    obtain ⟨p, hp, e2⟩ := List.mem_map.1 hm
    rcases aNw hp with e3 | hp
    ·exact e (by rw [← e2, e3])
    ·exact hn.1 (List.mem_map.2 ⟨p, hp, e2⟩)
theorem bDh {l : List aN} {k v : Int} (h : ∀ p ∈ l, p.1 ≠ k) : uU II0 II0 k v l = l ++ [(k, v)] := by
 induction l with
 | nil => rfl
 | cons q l ih =>
  show (bif decide (q.1 = k) then (q.1, v) :: l else q :: uU II0 II0 k v l) = _
  rw [decide_eq_false (h q List.mem_cons_self), cond_false, ih fun p hp => h p (List.mem_cons_of_mem _ hp)]; rfl
theorem bEn {x : List aN} {i : Int} (ha : Asc x) (h1 : 0 ≤ i) (h2 : i < (x.length : Int)) : uU (.int .i64) (.int .i64) (bM x i).1 (bM x i).2 (x.take i.toNat) = x.take (i + 1).toNat := by
 rw [wF h1 h2]
 refine bDh fun p hp => ?_
 have hs : x = x.take i.toNat ++ bM x i :: x.drop (i + 1).toNat := by rw [← aF5 h1 h2, List.take_append_drop]
 unfold Asc at ha
 rw [hs] at ha
 have := (List.pairwise_append.1 ha).2.2 p hp _ List.mem_cons_self
 omega
theorem aYg {l : List aN} (h : eP l) : aSh l :=
 ⟨fun p hp => ⟨(h.1 p hp).1, (h.1 p hp).2.1⟩, by
  have := h.2
  unfold Asc at this
  exact List.pairwise_map.2 (this.imp fun hab => by omega)⟩
theorem bBy : ∀ (l : List aN) (k : Int), aC0 II0 II0 k l = fO l k := by
 intro l k
 have : ∀ l : List aN, aEy II0 II0 k l = gH l k := by
  intro l
  induction l with
  | nil => rfl
  | cons p l ih =>
   show (bif decide (p.1 = k) then some p.2 else aEy II0 II0 k l) = _
   rw [gH, ih]
   by_cases e : p.1 = k
   ·rw [decide_eq_true e, if_pos e]; rfl
   ·rw [decide_eq_false e, if_neg e]; rfl
 unfold aC0 fO
 rw [this l]
 cases gH l k <;> rfl
theorem bEu {l : List aN} (h : aSh l) : l.length ≤ 32 := by
 have h2 : (l.map (·.1)) ⊆ (List.range 32).map (fun n : Nat => (n : Int)) := fun k hk => by
  obtain ⟨p, hp, rfl⟩ := List.mem_map.1 hk
  have := h.1 p hp
  exact List.mem_map.2 ⟨p.1.toNat, List.mem_range.2 (by omega), by omega⟩
 have := (List.Nodup.length_le_of_subset h.2 h2)
 simpa using this
theorem bE2 {l : List aN} {k v : Int} (h : gH l k = some v) : k ∈ l.map (·.1) := List.mem_map.2 ⟨_, aRw h, rfl⟩
theorem aAm (x : List aN) (h : aSh x) : Tot (jO x) (fun y => y.2 = rowOf (fO x)) := by
 have hlen := bEu h
 have hwf : ((x.all fun e => (Lit.int .i64 e.1).wf) && decide (x.length ≤ 1000000)) = true := by
  simp only [Bool.and_eq_true, List.all_eq_true, decide_eq_true_eq]
  refine ⟨fun e he => ?_, by omega⟩
  have := h.1 e he
  show (decide (IntKind.i64.min ≤ e.1) && decide (e.1 ≤ IntKind.i64.max)) = true
  have m1 : IntKind.i64.min = -9223372036854775808 := rfl
  have m2 : IntKind.i64.max = 9223372036854775807 := rfl
  rw [m1, m2]
  simp only [Bool.and_eq_true, decide_eq_true_eq]
  omega
 unfold jO
 refine dH hwf ?_
 have hperm : (sortedKeys x).Perm (x.map (·.1)) := List.mergeSort_perm _ _
 have hsort : (sortedKeys x).Pairwise (fun a b => a < b) := by
  have h1 : (sortedKeys x).Pairwise (fun a b => decide (a ≤ b) = true) := List.pairwise_mergeSort (fun a b c => by simp; omega) (fun a b => by simp; omega) _
  have h2 : (sortedKeys x).Nodup := hperm.nodup_iff.2 h.2
  exact (h1.and h2).imp fun hab => by
   have := of_decide_eq_true hab.1
   have := hab.2
   omega
 have hmem : ∀ k, k ∈ sortedKeys x ↔ k ∈ x.map (·.1) := fun k => hperm.mem_iff
 have hl : (sortedKeys x).length ≤ 32 := by rw [hperm.length_eq, List.length_map]; exact hlen
 generalize sortedKeys x = ks at hsort hmem hl
 unfold aJ4
 dsimp only
 refine eZ (fun (z : List aN × List aN × List Int × Int) => z.1 = x ∧ z.2.2.1 = ks ∧ 0 ≤ z.2.2.2 ∧ z.2.2.2 ≤ ks.length ∧ z.2.1 = ((ks.take z.2.2.2.toNat).filter fun k => decide (fO x k ≠ 0)).map fun k => (k, fO x k)) (fun z => (ks.length - z.2.2.2).toNat) ⟨rfl, rfl, by simp, by simp, rfl⟩ (by simp; omega) fun L z hz hL => ?_
 obtain ⟨e1, e2, h0, h1, e3⟩ := hz
 apply aB <;> intro hc
 ·have hc := of_decide_eq_true hc
  have ht := bCl (xs := ks) h0 hc
  have hi : aG (z.2.2.2 + 1) = z.2.2.2 + 1 := dD (by omega) (by omega)
  have hg : aC0 II0 II0 (aV z.2.2.1 z.2.2.2) z.1 = fO x (aV ks z.2.2.2) := by rw [bBy, e1, e2]
  refine dH (aAg h0 (by rw [e2]; exact hc)) ?_
  refine aB (fun hv => ?_) fun hv => ?_
  ·have hv : fO x (aV ks z.2.2.2) ≠ 0 := by
    have hv : (aC0 II0 II0 (aV z.2.2.1 z.2.2.2) z.1 != 0) = true := hv
    rw [hg] at hv; simpa using hv
   have hlz : z.2.1.length ≤ 32 := by
    rw [e3, List.length_map]
    have := List.length_filter_le (fun k => decide (fO x k ≠ 0)) (ks.take z.2.2.2.toNat)
    rw [List.length_take] at this; omega
   refine dH (eX (by simp; omega)) (hL _ ⟨e1, e2, by dsimp only; omega, by dsimp only; omega, ?_⟩ (by dsimp only; omega))
   dsimp only
   rw [hi, ht, List.filter_append, List.map_append, ← e3]
   congr 1
   have hg2 : aC0 (.int .i64) (.int .i64) (aV z.2.2.1 z.2.2.2) z.1 = fO x (aV ks z.2.2.2) := hg
   rw [hg2, e2, List.filter_cons_of_pos (by simpa using hv)]; rfl
  have hv : fO x (aV ks z.2.2.2) = 0 := by
   have hv : (aC0 II0 II0 (aV z.2.2.1 z.2.2.2) z.1 != 0) = false := hv
   rw [hg] at hv; simpa using hv
  refine hL _ ⟨e1, e2, by dsimp only; omega, by dsimp only; omega, ?_⟩ (by dsimp only; omega)
  dsimp only
  rw [hi, ht, List.filter_append, List.map_append, ← e3, List.filter_cons_of_neg (by simp [hv])]; simp
 have hc := of_decide_eq_false hc
 apply aA
 dsimp only
 have hall : ks.take z.2.2.2.toNat = ks := List.take_of_length_le (by omega)
 rw [e3, hall]
 refine aUn ?_ nL fun p => ⟨fun hp => ?_, fun hp => ?_⟩
 ·unfold Asc
  exact List.pairwise_map.2 ((hsort.filter _).imp fun h => h)
 ·obtain ⟨k, hk, rfl⟩ := List.mem_map.1 hp
  obtain ⟨hk1, hk2⟩ := List.mem_filter.1 hk
  obtain ⟨q, hq, e⟩ := List.mem_map.1 ((hmem k).1 hk1)
  have := h.1 q hq
  exact uC (by omega) (by omega) (by simpa using hk2)
 obtain ⟨g1, g2, g3, g4⟩ := lX hp
 rw [g3] at g4
 refine List.mem_map.2 ⟨p.1, List.mem_filter.2 ⟨(hmem _).2 ?_, by simpa using g4⟩, by rw [← g3]⟩
 unfold fO at g4
 cases hq : gH x p.1 with
 | none => rw [hq] at g4; exact absurd rfl g4
 | some v => exact bE2 hq
def aZv (d : List Int × List Bool × List Int) (s : aI) : (List Int × List Bool × List Int) ⊕ ((List Int × List Bool × List Int) × (Int ⊕ Unit)) :=
 if s.1 = 1 then .inl (d.1, (d.2.1, d.2.2 ++ [pK d.1 s.2.1]))
 else if s.1 = 4 then (if pK d.1 s.2.1 < s.2.2 then .inr (d, .inl 1) else .inl d)
 else if -9999 ≤ pO (pK d.1) s ∧ pO (pK d.1) s ≤ 9999 then .inl (dP d.1 s.2.1 (pO (pK d.1) s), (dP d.2.1 s.2.1 true, d.2.2)) else .inr (d, .inl 2)
def kI (c : Int → Option Int) : Nat → Nat → List Pr
 | 0, _ => []
 | n + 1, k => match c k with
  | some v => ((k : Int), v) :: kI c n (k + 1)
  | none => kI c n (k + 1)
theorem xM {c : Int → Option Int} : ∀ {n k : Nat} {p : Pr}, p ∈ kI c n k → (k : Int) ≤ p.1 ∧ p.1 < k + n ∧ c p.1 = some p.2
 | n + 1, k, p, hp => by
  rw [kI] at hp
  cases hc : c k with
  | none => rw [hc] at hp; have := xM hp; exact ⟨by omega, by omega, this.2.2⟩
  | some v =>
   rw [hc] at hp
   rcases List.mem_cons.1 hp with rfl | hp
   ·exact ⟨by simp, by simp; omega, hc⟩
   ·have := xM hp; exact ⟨by omega, by omega, this.2.2⟩
theorem aK7 {c : Int → Option Int} : ∀ {n k : Nat} {j v : Int}, (k : Int) ≤ j → j < k + n → c j = some v → (j, v) ∈ kI c n k
 | 0, k, j, v, h1, h2, _ => by omega
 | n + 1, k, j, v, h1, h2, h3 => by
  rw [kI]
  by_cases e : j = k
  ·subst e; rw [h3]; exact List.mem_cons_self
  have := aK7 (c := c) (n := n) (k := k + 1) (j := j) (by omega) (by omega) h3
  cases c k with
  | none => exact this
  | some w => exact List.mem_cons_of_mem _ this
theorem zJ {c : Int → Option Int} : ∀ {n k : Nat}, Asc (kI c n k)
 | 0, _ => List.Pairwise.nil
 | n + 1, k => by
  rw [kI]
  cases c k with
  | none => exact zJ
  | some v => exact List.pairwise_cons.2 ⟨fun p hp => by have := (xM hp).1; show (k : Int) < _; omega, zJ⟩
theorem aVy {c : Int → Option Int} (h : ∀ k, ¬ (0 ≤ k ∧ k ≤ 31) → c k = none) : gH (kI c 32 0) = c := funext fun k => by
 cases hc : c k with
 | none => exact aKk fun p hp e => by have := (xM hp).2.2; rw [e, hc] at this; cases this
 | some v =>
  have hk : 0 ≤ k ∧ k ≤ 31 := Decidable.byContradiction fun hn => by rw [h k hn] at hc; cases hc
  exact aWw zJ (aK7 (by omega) (by omega) hc)
noncomputable def fA (x : bC × bO) : bC × aY :=
 if x.2.2.2.1 = 2 then
  ((x.1.1 + 1, ((lH ((x.1.2.1, x.1.2.2.1), x.2.2.2.2.2)).1.1, ((lH ((x.1.2.1, x.1.2.2.1), x.2.2.2.2.2)).1.2, (x.1.2.2.2.1, x.1.2.2.2.2)))), (x.2.1, (x.2.2.1, ((lH ((x.1.2.1, x.1.2.2.1), x.2.2.2.2.2)).2, []))))
 else ((x.1.1 + 1, (x.1.2.1, (x.1.2.2.1, (rowOf (after (fO x.1.2.2.2.1) (lD x.1 x.2).2.2), x.1.2.2.2.2)))), (x.2.1, (x.2.2.1, ((lD x.1 x.2).1, (lD x.1 x.2).2.1))))
theorem oD {x : bC × bO} (h1 : BooksP x.1) (h2 : x.1.1 < 60) (h3 : gG x.2) (h4 : iR x.1.2.2.2.2 x.2.1 < x.2.2.1) : doM x = ((fA x).1.1, ((fA x).1.2.1, ((fA x).1.2.2.1, ((fA x).1.2.2.2.1, iA x.1.2.2.2.2 (fA x).2)))) := by
 unfold doM fA
 rw [if_pos ⟨h1, h2⟩, if_pos ⟨h3, h4⟩]
 split <;> rfl
theorem fD {x : bC × bO} (h1 : BooksP x.1) (h2 : x.1.1 < 60) (h3 : ¬ (gG x.2 ∧ iR x.1.2.2.2.2 x.2.1 < x.2.2.1)) : doM x = (x.1.1 + 1, x.1.2) := by
 unfold doM; rw [if_pos ⟨h1, h2⟩, if_neg h3]
theorem iU {x : bC × bO} (h : ¬ (BooksP x.1 ∧ x.1.1 < 60)) : doM x = jS := by unfold doM; rw [if_neg h]
theorem bCg (x : List aY × Int × List aY) (h0 : x.1.length ≤ 1000000) (h1 : 0 ≤ x.2.1) (h2 : x.2.1 ≤ x.1.length) (h3 : x.2.2.length = 1) : Tot (gJ x) (fun y => y = x.1.take x.2.1.toNat ++ x.2.2 ++ x.1.drop x.2.1.toNat) := by
 unfold gJ
 refine dH ?_ (aA rfl)
 simp only [Bool.and_eq_true, decide_eq_true_eq]
 exact ⟨⟨⟨h1, h2⟩, h3⟩, eX (by omega)⟩
theorem take8 {x : List Int} (h : x.length = 8) : List.take 8 x = x := List.take_of_length_le (by omega)
end Ab
end
noncomputable section
set_option maxRecDepth 100000
set_option linter.unusedVariables false
namespace Ab
open Go Go.Lib
def uR : bC := (0, (1, ([0, 1, 2, 0, 1, 2, 0, 1], ([], []))))
def aA5 (b : bC) : List bO → bC
 | [] => b
 | c :: l => aA5 (doM (b, c)) l
def ofM (x : List bO) : bC := if x.length > 60 then jS else aA5 uR x
theorem aRm : ∀ (l : List bO) (b : bC) (c : bO), aA5 b (l ++ [c]) = doM (aA5 b l, c)
 | [], _, _ => rfl
 | d :: l, b, c => aRm l (doM (b, d)) c
theorem aRl {x : List bO} {i : Int} {b : bC} (h1 : 0 ≤ i) (h2 : i < (x.length : Int)) : aA5 b (x.take (i + 1).toNat) = doM (aA5 b (x.take i.toNat), aIf x i) := by
 rw [bA6 h1 h2, aRm]
theorem bH5 (x : bC × bO) (h : 0 ≤ x.1.1) : 0 ≤ (doM x).1 ∧ (doM x).1 ≤ x.1.1 + 1 := by
 by_cases hb : BooksP x.1 ∧ x.1.1 < 60
 ·have := (aHm hb.1 hb.2).2; omega
 rw [iU hb]; show 0 ≤ (0 : Int) ∧ (0 : Int) ≤ _; omega
theorem bAb : ∀ (l : List bO) (b : bC), 0 ≤ b.1 → 0 ≤ (aA5 b l).1 ∧ (aA5 b l).1 ≤ b.1 + l.length
 | [], b, h => ⟨h, by simp [aA5]⟩
 | c :: l, b, h => by
  have h1 := bH5 (b, c) h
  have h2 := bAb l (doM (b, c)) h1.1
  rw [aA5]
  simp only [List.length_cons]
  have h3 : (doM (b, c)).1 ≤ b.1 + 1 := h1.2
  omega
theorem aLi (x : List bO) : (ofM x).1 ≤ x.length := by
 unfold ofM
 split
 ·show (0 : Int) ≤ _; omega
 have := (bAb x uR (Int.le_refl _)).2
 have e : uR.1 = 0 := rfl
 omega
theorem bCe : ¬ BooksP jS := fun h => by have := h.2.2.1.1; exact absurd this (by decide)
theorem bCa {f : Int → Int} {c : Int → Option Int} {k : Int} (h : c k = none) : after f c k = f k := by unfold after; rw [h]; rfl
theorem aJ0 {a d : List aI} {f : Int → Int} (hk : ∀ s ∈ a, ∀ t ∈ d, s.2.1 ≠ t.2.1) (hd : ∀ t ∈ d, 0 ≤ t.2.1 ∧ t.2.1 ≤ 31) :
  let ca := (iB a f (fun _ => none) []).2.2
  let h := fO (rowOf (after f ca))
  (iB d h (fun _ => none) []).1 = (iB d f (fun _ => none) []).1 ∧ (iB d h (fun _ => none) []).2.1 = (iB d f (fun _ => none) []).2.1 ∧ (iB d h (fun _ => none) []).2.2 = (iB d f (fun _ => none) []).2.2 := by
 intro ca h
 have hf : ∀ k, (∃ t ∈ d, t.2.1 = k) → h k = f k := by
  rintro k ⟨t, ht, rfl⟩
  have hb := hd t ht
  show fO (rowOf (after f ca)) _ = _
  rw [aRe hb.1 hb.2]
  exact bCa (qU a f _ [] _ (fun s hs => hk s hs t ht) rfl)
 have hl := aCb (fun k => ∃ t ∈ d, t.2.1 = k) d h f (fun _ => none) (fun _ => none) [] (fun s hs => ⟨s, hs, rfl⟩) (fun k hk => ⟨hf k hk, rfl⟩)
 refine ⟨hl.1, hl.2.1, funext fun k => ?_⟩
 by_cases hx : ∃ t ∈ d, t.2.1 = k
 ·exact hl.2.2 k hx
 rw [qU d h _ [] k (fun s hs e => hx ⟨s, hs, e⟩) rfl, qU d f _ [] k (fun s hs e => hx ⟨s, hs, e⟩) rfl]
theorem aRd {a d : List aI} {f : Int → Int} (hk : ∀ s ∈ a, ∀ t ∈ d, s.2.1 ≠ t.2.1) (hd : ∀ t ∈ d, 0 ≤ t.2.1 ∧ t.2.1 ≤ 31) :
  let ca := (iB a f (fun _ => none) []).2.2
  let h := fO (rowOf (after f ca))
  rowOf (after h (iB d h (fun _ => none) []).2.2) = rowOf fun k => ((iB d f (fun _ => none) []).2.2 k).getD ((ca k).getD (f k)) := by
 intro ca h
 have := (aJ0 (f := f) hk hd).2.2
 refine aK5 fun j h1 h2 => ?_
 show ((iB d h (fun _ => none) []).2.2 j).getD (h j) = _
 rw [this]
 show _ = ((iB d f (fun _ => none) []).2.2 j).getD ((ca j).getD (f j))
 rw [show h j = (ca j).getD (f j) from aRe (h := after f ca) h1 h2]
theorem bCn {a d : List aI} {f : Int → Int} (hk : ∀ s ∈ a, ∀ t ∈ d, s.2.1 ≠ t.2.1) :
  (rowOf fun k => ((iB d f (fun _ => none) []).2.2 k).getD (((iB a f (fun _ => none) []).2.2 k).getD (f k))) = rowOf fun k => ((iB a f (fun _ => none) []).2.2 k).getD (((iB d f (fun _ => none) []).2.2 k).getD (f k)) := by
 refine aK5 fun j _ _ => ?_
 by_cases hx : ∃ t ∈ d, t.2.1 = j
 ·obtain ⟨t, ht, e⟩ := hx
  rw [qU a f _ [] j (fun s hs e2 => hk s hs t ht (by rw [e, e2])) rfl]; rfl
 rw [qU d f _ [] j (fun s hs e => hx ⟨s, hs, e⟩) rfl]; rfl
theorem aF7 {t : ByteArray} (h : (fP t).2 = true) : ∀ s ∈ (fP t).1, 0 ≤ s.2.1 ∧ s.2.1 ≤ 31 := fun s hs => by
 have := (iF h).1.2.2 s hs
 unfold eD at this; omega
theorem xV {b : bC} {c : bO} (h1 : BooksP b) (h2 : b.1 < 60) (h3 : gG c) (h4 : iR b.2.2.2.2 c.1 < c.2.1) (h5 : c.2.2.1 ≠ 2) :
  doM (b, c) = (b.1 + 1, (b.2.1, (b.2.2.1, (rowOf (after (fO b.2.2.2.1) (lD b c).2.2), iA b.2.2.2.2 (c.1, (c.2.1, ((lD b c).1, (lD b c).2.1))))))) := by
 unfold doM
 rw [if_pos ⟨h1, h2⟩, if_pos ⟨h3, h4⟩, if_neg h5]
theorem uK {b : bC} {x y : bO} (hx : gG x) (hy : gG y) (kx : x.2.2.1 = 1) (ky : y.2.2.1 = 1) (hs : x.1 ≠ y.1) (h58 : b.1 ≤ 58) (hk : ∀ s ∈ (fP x.2.2.2.1).1, ∀ t ∈ (fP y.2.2.2.1).1, s.2.1 ≠ t.2.1) :
  doM (doM (b, x), y) = doM (doM (b, y), x) := by
 by_cases hB : BooksP b
 ·have tx : (fP x.2.2.2.1).2 = true := by
   rcases hx.2.2.2.2 with h | h
   ·exact h.2.1
   ·rw [kx] at h; exact absurd h.1 (by decide)
  have ty : (fP y.2.2.2.1).2 = true := by
   rcases hy.2.2.2.2 with h | h
   ·exact h.2.1
   ·rw [ky] at h; exact absurd h.1 (by decide)
  have n2x : x.2.2.1 ≠ 2 := by rw [kx]; decide
  have n2y : y.2.2.1 ≠ 2 := by rw [ky]; decide
  have hk' : ∀ s ∈ (fP y.2.2.2.1).1, ∀ t ∈ (fP x.2.2.2.1).1, s.2.1 ≠ t.2.1 := fun s hs t ht e => hk t ht s hs e.symm
  have ox := aHm (x := (b, x)) hB (by show b.1 < 60; omega)
  have oy := aHm (x := (b, y)) hB (by show b.1 < 60; omega)
  have axx : (doM (b, x)).1 < 60 := by rw [ox.2]; show b.1 + 1 < 60; omega
  have ayy : (doM (b, y)).1 < 60 := by rw [oy.2]; show b.1 + 1 < 60; omega
  have asc := hB.2.2.2.2.2
  by_cases lx : iR b.2.2.2.2 x.1 < x.2.1
  ·have dx := xV hB (by omega) hx lx n2x
   by_cases ly : iR b.2.2.2.2 y.1 < y.2.1
   ·have dy := xV hB (by omega) hy ly n2y
    have ly' : iR (doM (b, x)).2.2.2.2 y.1 < y.2.1 := by rw [dx]; dsimp only; rw [aFy asc fun e => hs e.symm]; exact ly
    have lx' : iR (doM (b, y)).2.2.2.2 x.1 < x.2.1 := by rw [dy]; dsimp only; rw [aFy asc hs]; exact lx
    rw [xV ox.1 axx hy ly' n2y, xV oy.1 ayy hx lx' n2x]
    have r1 := aJ0 (f := fO b.2.2.2.1) hk (aF7 ty)
    have r2 := aJ0 (f := fO b.2.2.2.1) hk' (aF7 tx)
    have q1 := aRd (f := fO b.2.2.2.1) hk (aF7 ty)
    have q2 := aRd (f := fO b.2.2.2.1) hk' (aF7 tx)
    have eqs : (rowOf fun k => ((iB (fP y.2.2.2.1).1 (fO b.2.2.2.1) (fun _ => none) []).2.2 k).getD (((iB (fP x.2.2.2.1).1 (fO b.2.2.2.1) (fun _ => none) []).2.2 k).getD (fO b.2.2.2.1 k))) = _ := bCn (f := fO b.2.2.2.1) hk
    rw [dx, dy]
    unfold lD
    dsimp only at r1 r2 q1 q2 ⊢
    rw [q1, q2, r1.1, r1.2.1, r2.1, r2.2.1, eqs, bAy asc (by exact hs)]
   have py : doM (b, y) = (b.1 + 1, b.2) := fD hB (by show b.1 < 60; omega) fun h => ly h.2
   have ly' : ¬ (gG y ∧ iR (doM (b, x)).2.2.2.2 y.1 < y.2.1) := fun h => by
    rw [dx] at h; dsimp only at h; rw [aFy asc fun e => hs e.symm] at h; exact ly h.2
   rw [fD (x := (doM (b, x), y)) ox.1 axx ly', py]
   have hB2 : BooksP (b.1 + 1, b.2) := ⟨by have := hB.1; show 0 ≤ b.1 + 1; omega, by show b.1 + 1 ≤ 60; omega, hB.2.2⟩
   rw [xV hB2 (by show b.1 + 1 < 60; omega) hx lx n2x, dx]
   rfl
  have px : doM (b, x) = (b.1 + 1, b.2) := fD hB (by show b.1 < 60; omega) fun h => lx h.2
  have hB2 : BooksP (b.1 + 1, b.2) := ⟨by have := hB.1; show 0 ≤ b.1 + 1; omega, by show b.1 + 1 ≤ 60; omega, hB.2.2⟩
  by_cases ly : iR b.2.2.2.2 y.1 < y.2.1
  ·have dy := xV hB (by omega) hy ly n2y
   have lx' : ¬ (gG x ∧ iR (doM (b, y)).2.2.2.2 x.1 < x.2.1) := fun h => by
    rw [dy] at h; dsimp only at h; rw [aFy asc hs] at h; exact lx h.2
   rw [fD (x := (doM (b, y), x)) oy.1 ayy lx', px, xV hB2 (by show b.1 + 1 < 60; omega) hy ly n2y, dy]
   rfl
  have py : doM (b, y) = (b.1 + 1, b.2) := fD hB (by show b.1 < 60; omega) fun h => ly h.2
  rw [px, py, fD (x := ((b.1 + 1, b.2), y)) hB2 (by show b.1 + 1 < 60; omega) fun h => ly h.2, fD (x := ((b.1 + 1, b.2), x)) hB2 (by show b.1 + 1 < 60; omega) fun h => lx h.2]
 have hz : ∀ c, doM (b, c) = jS := fun c => iU fun h => hB h.1
 have hz2 : ∀ c, doM (jS, c) = jS := fun c => iU fun h => bCe h.1
 rw [hz, hz, hz2, hz2]
theorem aX1 : BooksW uR := ⟨by decide, by decide, by decide, fun s hs => (by cases hs)⟩
theorem bHa : BooksW jS := ⟨by decide, by decide, by decide, fun s hs => (by cases hs)⟩
theorem gM (x : bC × bO) : BooksW (doM x) := by
 by_cases h : BooksP x.1 ∧ x.1.1 < 60
 ·exact (aHm h.1 h.2).1.w
 rw [iU h]; exact bHa
theorem bEm : ∀ (l : List bO) (b : bC), BooksW b → BooksW (aA5 b l)
 | [], _, h => h
 | c :: l, b, _ => bEm l _ (gM _)
theorem bIv (x : List bO) : BooksW (ofM x) := by
 unfold ofM; split
 ·exact bHa
 exact bEm _ _ aX1
theorem aBa {x : bC × bO} (h : (doM x).2.1 ≠ 0) : (∀ s ∈ x.1.2.2.2.2, s.1 ≠ x.2.1 → s ∈ (doM x).2.2.2.2) ∧ (doM x).2.2.2.2.length ≤ x.1.2.2.2.2.length + 1 := by
 by_cases hB : BooksP x.1 ∧ x.1.1 < 60
 ·by_cases hc : gG x.2 ∧ iR x.1.2.2.2.2 x.2.1 < x.2.2.1
  ·have e := oD hB.1 hB.2 hc.1 hc.2
   rw [e]
   dsimp only
   have e1 : (fA x).2.1 = x.2.1 := by unfold fA; split <;> rfl
   exact ⟨fun s hs hne => aOv hs (by rw [e1]; exact hne), bCk _ _⟩
  rw [fD hB.1 hB.2 hc]
  exact ⟨fun s hs _ => hs, Nat.le_succ _⟩
 rw [iU hB] at h; exact absurd rfl h
theorem bF0 {l : List aY} {s : aY} (h : s ∈ l) : ∃ k : Int, 0 ≤ k ∧ k < (l.length : Int) ∧ aS l k = s := by
 obtain ⟨i, hi, e⟩ := List.mem_iff_getElem.1 h
 exact ⟨i, by omega, by omega, by rw [← e]; exact iC (r := fU) (xs := l) (i := (i : Int)) (by show i < l.length; omega)⟩
end Ab
end
section
set_option maxRecDepth 100000
set_option linter.unusedVariables false
namespace Ab
open Go Go.Lib
set_option maxHeartbeats 4000000
attribute [local grind] inb dD eX eH
section
attribute [local grind] aQ aF size_mk fB eD bR
theorem aMx (x : List aI) (h0 : x.length ≤ 1000000) : Tot (xL x) (fun y => (y = true ↔ fB x)) := by
 unfold xL; try dsimp only
 apply aB <;> intro hc
 ·apply aA
  first | grind | exact ⟨fun _ => ⟨by grind, by grind, bQ (P := eD) (by grind)⟩, fun _ => rfl⟩
 apply aB <;> intro hc
 ·apply aA
  first | grind | exact ⟨fun _ => ⟨by grind, by grind, bQ (P := eD) (by grind)⟩, fun _ => rfl⟩
 refine aX (fun z2 => z2 ≤ (x.length : Int) ∧ 0 ≤ z2 ∧ (∀ k : Int, 0 ≤ k → k < z2 → eD (aJ x k))) (fun z2 => ((x.length : Int) - z2).toNat) fun L1 z2 hz1 hL1 => ?_
 apply aB <;> intro hc
 ·refine aH ?_
  refine aC (bG _) fun r3 hr3 => ?_
  apply aB <;> intro hc
  ·apply aA
   first | grind [aF, size_mk, bR] | exact ⟨fun _ => ⟨by grind, by grind, bQ (P := eD) (by grind)⟩, fun _ => rfl⟩
  refine aC (bG _) fun r4 hr4 => ?_
  apply aB <;> intro hc
  ·apply aA
   first | grind [aF, size_mk, bR] | exact ⟨fun _ => ⟨by grind, by grind, bQ (P := eD) (by grind)⟩, fun _ => rfl⟩
  refine aC (mI _) fun r5 hr5 => ?_
  apply aB <;> intro hc
  ·apply aA
   first | grind [aF, size_mk, bR] | exact ⟨fun _ => ⟨by grind, by grind, bQ (P := eD) (by grind)⟩, fun _ => rfl⟩
  apply aB <;> intro hc
  ·apply aB <;> intro hc
   ·apply aA
    first | grind [aF, size_mk, bR] | exact ⟨fun _ => ⟨by grind, by grind, bQ (P := eD) (by grind)⟩, fun _ => rfl⟩
   apply hL1 <;> grind
  apply hL1 <;> grind
 apply aA
 first | grind | exact ⟨fun _ => ⟨by grind, by grind, bQ (P := eD) (by grind)⟩, fun _ => rfl⟩
end
section
attribute [local grind] aQ aF size_mk
theorem aJp (x : Int) (h0 : -99999 ≤ x) (h1 : x ≤ 99999) : Tot (yY x) (fun y => bs y = itoa x ∧ y.size ≤ 6) := by
 unfold yY; try dsimp only
 apply aB <;> intro hc
 ·refine aC (wG _ (by grind) (by grind)) fun r1 hr1 => ?_
  refine aH ?_
  apply aA
  first | (refine ⟨?_, by grind⟩; rw [hr1.1, aRr (by grind) (by omega)]; exact aSa _) | (refine ⟨?_, by grind⟩; rw [hr2.1]; exact aE0 (by grind))
 refine aC (wG _ (by grind) (by grind)) fun r2 hr2 => ?_
 apply aA
 first | (refine ⟨?_, by grind⟩; rw [hr1.1, aRr (by grind) (by omega)]; exact aSa _) | (refine ⟨?_, by grind⟩; rw [hr2.1]; exact aE0 (by grind))
end
section
attribute [local grind] aQ aF size_mk kL
theorem aXk (x : fT) (h0 : x.2.length ≤ 1000000) : Tot (nI x) (fun y => y = x) := by
 unfold nI; try dsimp only
 refine aH ?_
 apply aA
 grind
end
section
attribute [local grind] aQ aF size_mk dB
theorem aQ1 (x : fT) (h0 : x.2.length ≤ 1000000) : Tot (aB3 x) (fun y => (y = true ↔ jA x)) := by
 unfold aB3; try dsimp only
 refine aC (bG _) fun r1 hr1 => ?_
 apply aB <;> intro hc
 ·apply aA
  first | grind [jA] | exact ⟨fun _ => ⟨by grind, by grind, by grind, jR (P := fun o => 0 ≤ o ∧ o ≤ 2) (by grind)⟩, fun _ => rfl⟩
 apply aB <;> intro hc
 ·apply aA
  first | grind [jA] | exact ⟨fun _ => ⟨by grind, by grind, by grind, jR (P := fun o => 0 ≤ o ∧ o ≤ 2) (by grind)⟩, fun _ => rfl⟩
 refine aX (fun z3 => z3.1 = x ∧ z3.2 ≤ (z3.1.2.length : Int) ∧ 0 ≤ z3.2 ∧ (∀ k : Int, 0 ≤ k → k < z3.2 → 0 ≤ aV x.2 k ∧ aV x.2 k ≤ 2)) (fun z3 => ((z3.1.2.length : Int) - z3.2).toNat) fun L2 z3 hz2 hL2 => ?_
 apply aB <;> intro hc
 ·refine aH ?_
  refine aC (bG _) fun r4 hr4 => ?_
  apply aB <;> intro hc
  ·apply aA
   first | grind [jA] | exact ⟨fun _ => ⟨by grind, by grind, by grind, jR (P := fun o => 0 ≤ o ∧ o ≤ 2) (by grind)⟩, fun _ => rfl⟩
  apply hL2 <;> grind
 apply aA
 first | grind [jA] | exact ⟨fun _ => ⟨by grind, by grind, by grind, jR (P := fun o => 0 ≤ o ∧ o ≤ 2) (by grind)⟩, fun _ => rfl⟩
end
section
attribute [local grind] aQ aF size_mk jA aV aW
theorem aUs (x : fT × Int × Int) (h0 : x.1.2.length ≤ 1000000) (h1 : jA x.1) : Tot (mP x) (fun y => y = lH x) := by
 unfold mP; try dsimp only
 refine aC (aQ1 _ (by grind)) fun r1 hr1 => ?_
 apply aB <;> intro hc
 ·apply aA
  (unfold lH; grind)
 refine aC (aXk _ (by grind)) fun r2 hr2 => ?_
 refine aC (bG _) fun r3 hr3 => ?_
 apply aB <;> intro hc
 ·apply aA
  (unfold lH; grind)
 refine aC (bG _) fun r4 hr4 => ?_
 apply aB <;> intro hc
 ·apply aA
  (unfold lH; grind)
 apply aB <;> intro hc
 ·apply aA
  (unfold lH; grind)
 refine aH ?_
 apply aB <;> intro hc
 ·apply aA
  (unfold lH; grind)
 refine aH ?_
 apply aA
 (unfold lH; grind)
end
section
attribute [local grind] aQ aF size_mk bB2 bE1 aO7
theorem aQ0 (x : List aN × Int) (h0 : x.1.length ≤ 1000000) : Tot (aB0 x) (fun y => y = fO x.1 x.2) := by
 unfold aB0; try dsimp only
 refine aX (fun z2 => z2 ≤ (x.1.length : Int) ∧ 0 ≤ z2 ∧ fO (x.1.drop z2.toNat) x.2 = fO x.1 x.2) (fun z2 => ((x.1.length : Int) - z2).toNat) fun L1 z2 hz1 hL1 => ?_
 apply aB <;> intro hc
 ·refine aH ?_
  apply aB <;> intro hc
  ·refine aH ?_
   apply aA
   grind
  apply hL1 <;> grind
 apply aA
 grind
end
theorem yG (x : List aN) (h0 : x.length ≤ 1000000) : Tot (iW x) (fun y => (y = true ↔ eP x)) := by
 unfold iW; try dsimp only
 apply aB <;> intro hc
 ·apply aA
  first | exact ⟨fun _ => PairsPre.all (i := x) (by grind) (by grind), fun _ => rfl⟩ | (refine ⟨fun h => (by cases h), fun h => absurd (of_decide_eq_true hc) (Int.not_le.2 ?_)⟩; rw [aG, dD (by grind) (by grind)]; exact lN h.2 (by grind) (by grind)) | grind [aQ, aF, size_mk, eP, bN, lN, fK]
 refine eZ (fun z2 => z2 ≤ (x.length : Int) ∧ 0 ≤ z2 ∧ PairsPre x z2) (fun z2 => ((x.length : Int) - z2).toNat) (by exact ⟨by grind, by grind, PairsPre.zero x⟩) (by grind [aQ, aF, size_mk]) fun L1 z2 hz1 hL1 => ?_
 apply aB <;> intro hc
 ·refine dH (by grind [aQ, aF, size_mk]) ?_
  refine aC (bG _) fun r3 hr3 => ?_
  apply aB <;> intro hc
  ·apply aA
   first | exact ⟨fun _ => PairsPre.all (i := z2) (by grind) (by grind), fun _ => rfl⟩ | (refine ⟨fun h => (by cases h), fun h => absurd (of_decide_eq_true hc) (Int.not_le.2 ?_)⟩; rw [aG, dD (by grind) (by grind)]; exact lN h.2 (by grind) (by grind)) | grind [aQ, aF, size_mk, eP, bN, lN, fK]
  refine dH (by grind [aQ, aF, size_mk]) ?_
  refine aC (mI _) fun r4 hr4 => ?_
  apply aB <;> intro hc
  ·apply aA
   first | exact ⟨fun _ => PairsPre.all (i := z2) (by grind) (by grind), fun _ => rfl⟩ | (refine ⟨fun h => (by cases h), fun h => absurd (of_decide_eq_true hc) (Int.not_le.2 ?_)⟩; rw [aG, dD (by grind) (by grind)]; exact lN h.2 (by grind) (by grind)) | grind [aQ, aF, size_mk, eP, bN, lN, fK]
  apply aB <;> intro hc
  ·iterate 2 refine dH (by grind [aQ, aF, size_mk]) ?_
   apply aB <;> intro hc
   ·apply aA
    first | exact ⟨fun _ => PairsPre.all (i := z2) (by grind) (by grind), fun _ => rfl⟩ | (refine ⟨fun h => (by cases h), fun h => absurd (of_decide_eq_true hc) (Int.not_le.2 ?_)⟩; rw [aG, dD (by grind) (by grind)]; exact lN h.2 (by grind) (by grind)) | grind [aQ, aF, size_mk, eP, bN, lN, fK]
   refine hL1 _ ?_ ?_
   ·(refine ⟨by grind, by grind, ?_⟩; rw [aG, dD (by grind) (by grind)]; exact PairsPre.step (by grind) (by grind) (by grind) (by dsimp only; grind) (fun h => by have hq := of_decide_eq_false hc; first | omega | (rw [aG, dD (by omega) (by omega)] at hq; omega)))
   grind
  refine hL1 _ ?_ ?_
  ·(refine ⟨by grind, by grind, ?_⟩; rw [aG, dD (by grind) (by grind)]; exact PairsPre.step (by grind) (by grind) (by grind) (by dsimp only; grind) (fun h => by have hq := of_decide_eq_false hc; first | omega | (rw [aG, dD (by omega) (by omega)] at hq; omega)))
  grind
 apply aA
 first | exact ⟨fun _ => PairsPre.all (i := z2) (by grind) (by grind), fun _ => rfl⟩ | (refine ⟨fun h => (by cases h), fun h => absurd (of_decide_eq_true hc) (Int.not_le.2 ?_)⟩; rw [aG, dD (by grind) (by grind)]; exact lN h.2 (by grind) (by grind)) | grind [aQ, aF, size_mk, eP, bN, lN, fK]
end Ab
namespace Ab
open Go Go.Lib
set_option maxHeartbeats 4000000
theorem aSk (x : List aN × List aN) (h0 : eP x.1) (h1 : eP x.2) (h2 : x.1.length ≤ 32) (h3 : x.2.length ≤ 32) : Tot (lU x) (fun y => y = rowOf (after (fO x.1) (gH x.2))) := by
 unfold lU; try dsimp only
 refine aC (yG _ (by grind [inb, dD, eX, eH, aQ, aF, size_mk, fZ, iD, eU, fC, after, bY, rowOf, eP])) fun r1 hr1 => ?_
 apply aB <;> intro hc
 ·apply aA
  grind [inb, dD, eX, eH, aQ, aF, size_mk, fZ, iD, eU, fC, after, bY, rowOf, eP]
 refine aC (yG _ (by grind [inb, dD, eX, eH, aQ, aF, size_mk, fZ, iD, eU, fC, after, bY, rowOf, eP])) fun r2 hr2 => ?_
 apply aB <;> intro hc
 ·apply aA
  grind [inb, dD, eX, eH, aQ, aF, size_mk, fZ, iD, eU, fC, after, bY, rowOf, eP]
 refine eZ (fun z4 => z4.2 ≤ 32 ∧ 0 ≤ z4.2 ∧ 0 ≤ z4.2 ∧ z4.2 ≤ 32 ∧ z4.1.length ≤ z4.2 ∧ z4.1 ++ rowFrom (after (fO x.1) (gH x.2)) (32 - z4.2).toNat z4.2.toNat = rowOf (after (fO x.1) (gH x.2))) (fun z4 => (32 - z4.2).toNat) (by grind [inb, dD, eX, eH, aQ, aF, size_mk, fZ, iD, eU, fC, after, bY, rowOf, eP]) (by grind [inb, dD, eX, eH, aQ, aF, size_mk, fZ, iD, eU, fC, after, bY, rowOf, eP]) fun L3 z4 hz3 hL3 => ?_
 apply aB <;> intro hc
 ·refine aC (aQ0 _ (by grind [inb, dD, eX, eH, aQ, aF, size_mk, fZ, iD, eU, fC, after, bY, rowOf, eP])) fun r5 hr5 => ?_
  refine eZ (fun z7 => z7.1 = z4.1 ∧ z7.2.2 ≤ (x.2.length : Int) ∧ 0 ≤ z7.2.2 ∧ z7.1 = z4.1 ∧ z7.2.1 = (gH (x.2.take z7.2.2.toNat) z4.2).getD (fO x.1 z4.2)) (fun z7 => ((x.2.length : Int) - z7.2.2).toNat) (by grind [inb, dD, eX, eH, aQ, aF, size_mk, fZ, iD, eU, fC, after, bY, rowOf, eP]) (by grind [inb, dD, eX, eH, aQ, aF, size_mk, fZ, iD, eU, fC, after, bY, rowOf, eP]) fun L6 z7 hz6 hL6 => ?_
  apply aB <;> intro hc
  ·refine dH (by grind [inb, dD, eX, eH, aQ, aF, size_mk, fZ, iD, eU, fC, after, bY, rowOf, eP]) ?_
   apply aB <;> intro hc
   ·refine dH (by grind [inb, dD, eX, eH, aQ, aF, size_mk, fZ, iD, eU, fC, after, bY, rowOf, eP]) ?_
    apply hL6 <;> grind [inb, dD, eX, eH, aQ, aF, size_mk, fZ, iD, eU, fC, after, bY, rowOf, eP]
   apply hL6 <;> grind [inb, dD, eX, eH, aQ, aF, size_mk, fZ, iD, eU, fC, after, bY, rowOf, eP]
  apply aB <;> intro hc
  ·refine dH (by grind [inb, dD, eX, eH, aQ, aF, size_mk, fZ, iD, eU, fC, after, bY, rowOf, eP]) ?_
   apply hL3 <;> grind [inb, dD, eX, eH, aQ, aF, size_mk, fZ, iD, eU, fC, after, bY, rowOf, eP]
  apply hL3 <;> grind [inb, dD, eX, eH, aQ, aF, size_mk, fZ, iD, eU, fC, after, bY, rowOf, eP]
 apply aA
 grind [inb, dD, eX, eH, aQ, aF, size_mk, fZ, iD, eU, fC, after, bY, rowOf, eP]
attribute [local grind] inb dD eX eH
section
attribute [local grind] aQ aF size_mk aF5 aA9 aDj aO8 aO7
theorem aE9 (x : List aN × Int × Int) (h0 : x.1.length ≤ 1000000) : Tot (vK x) (fun y => y = aDj x.1 x.2.1 x.2.2) := by
 unfold vK; try dsimp only
 refine aX (fun z2 => z2.2.2 ≤ (x.1.length : Int) ∧ 0 ≤ z2.2.2 ∧ z2.1.length ≤ z2.2.2 + (if z2.2.1 then 1 else 0) ∧ z2.1 ++ (if z2.2.1 then aO8 (x.1.drop z2.2.2.toNat) x.2.1 else aDj (x.1.drop z2.2.2.toNat) x.2.1 x.2.2) = aDj x.1 x.2.1 x.2.2) (fun z2 => ((x.1.length : Int) - z2.2.2).toNat) fun L1 z2 hz1 hL1 => ?_
 apply aB <;> intro hc
 ·refine bF (P := fun (z3 : List aN × Bool) => z3.1.length ≤ z2.2.2 + (if z3.2 then 1 else 0) ∧ (z3.2 = true → z3.1 ++ aO8 (x.1.drop z2.2.2.toNat) x.2.1 = aDj x.1 x.2.1 x.2.2) ∧ (z3.2 = false → (bM x.1 z2.2.2).1 < x.2.1 ∧ z3.1 ++ aDj (x.1.drop z2.2.2.toNat) x.2.1 x.2.2 = aDj x.1 x.2.1 x.2.2)) ?_ fun z3 hz3j => ?_
  ·apply aB <;> intro hc
   ·refine aH ?_
    apply aB <;> intro hc
    ·refine aH ?_
     apply aA
     grind
    apply aA
    grind
   apply aA
   grind
  refine aH ?_
  apply aB <;> intro hc
  ·iterate 2 refine aH ?_
   apply hL1 <;> grind
  apply hL1 <;> grind
 apply aB <;> intro hc
 ·refine aH ?_
  apply aA
  grind
 apply aA
 grind
end
section
attribute [local grind] aQ aF size_mk aA0 run_end aTc aNq nX fK pO fB eD bR iD aO7 wC aJ3
theorem aUt (x : List aI × List aN) (h0 : fB x.1) (h1 : eP x.2) (h2 : x.2.length ≤ 32) : Tot (rX x) (fun y => y.1 = (iB x.1 (fO x.2) (fun _ => none) []).1 ∧ y.2.1 = (iB x.1 (fO x.2) (fun _ => none) []).2.1 ∧ eP y.2.2 ∧ gH y.2.2 = (iB x.1 (fO x.2) (fun _ => none) []).2.2) := by
 unfold rX; try dsimp only
 refine aC (aMx _ (by grind)) fun r1 hr1 => ?_
 apply aB <;> intro hc
 ·apply aA
  grind
 refine aC (yG _ (by grind)) fun r2 hr2 => ?_
 apply aB <;> intro hc
 ·apply aA
  grind
 refine aX (fun z4 => z4.2.2.2 ≤ (x.1.length : Int) ∧ 0 ≤ z4.2.2.2 ∧ eP z4.1 ∧ z4.1.length ≤ 32 ∧ eP z4.2.2.1 ∧ z4.2.2.1.length ≤ 32 ∧ z4.2.1.length ≤ z4.2.2.2 ∧ iB (x.1.drop z4.2.2.2.toNat) (fO z4.1) (gH z4.2.2.1) z4.2.1 = iB x.1 (fO x.2) (fun _ => none) []) (fun z4 => ((x.1.length : Int) - z4.2.2.2).toNat) fun L3 z4 hz3 hL3 => ?_
 apply aB <;> intro hc
 ·refine aH ?_
  refine aC (aQ0 _ (by grind)) fun r5 hr5 => ?_
  apply aB <;> intro hc
  ·refine aH ?_
   refine hL3 _ ?_ ?_
   ·(clear hL3; (try dsimp only at *); have e := aA0 (x := x.1) (i := z4.2.2.2) (f := fO z4.1) (c := gH z4.2.2.1) (g := z4.2.1) (by grind) (by grind); have hst : eD (aJ x.1 z4.2.2.2) := h0.2.2 _ (bR (by grind) (by grind)); have hz := wC hz3.2.2.1 (aJ x.1 z4.2.2.2).2.1; have hrun := hz3.2.2.2.2.2.2.2; have hdl : x.1.length ≤ 6 := h0.2.1; have hi : aG (z4.2.2.2 + 1) = z4.2.2.2 + 1 := dD (by omega) (by omega); clear h0 h1; refine ⟨by grind, by grind, by grind, by grind, by grind, by grind, by grind, ?_⟩; rw [← hrun, e, hi]; clear e hrun hi; (repeat' split) <;> first | (exfalso; grind) | grind)
   (clear hL3; have hdl : x.1.length ≤ 6 := h0.2.1; grind)
  apply aB <;> intro hc
  ·apply aB <;> intro hc
   ·apply aA
    grind
   refine hL3 _ ?_ ?_
   ·(clear hL3; (try dsimp only at *); have e := aA0 (x := x.1) (i := z4.2.2.2) (f := fO z4.1) (c := gH z4.2.2.1) (g := z4.2.1) (by grind) (by grind); have hst : eD (aJ x.1 z4.2.2.2) := h0.2.2 _ (bR (by grind) (by grind)); have hz := wC hz3.2.2.1 (aJ x.1 z4.2.2.2).2.1; have hrun := hz3.2.2.2.2.2.2.2; have hdl : x.1.length ≤ 6 := h0.2.1; have hi : aG (z4.2.2.2 + 1) = z4.2.2.2 + 1 := dD (by omega) (by omega); clear h0 h1; refine ⟨by grind, by grind, by grind, by grind, by grind, by grind, by grind, ?_⟩; rw [← hrun, e, hi]; clear e hrun hi; (repeat' split) <;> first | (exfalso; grind) | grind)
   (clear hL3; have hdl : x.1.length ≤ 6 := h0.2.1; grind)
  apply aB <;> intro hc
  ·refine aC (mI _) fun r6 hr6 => ?_
   apply aB <;> intro hc
   ·apply aA
    grind
   refine aC (aE9 _ (by grind)) fun r7 hr7 => ?_
   refine aC (aE9 _ (by grind)) fun r8 hr8 => ?_
   refine hL3 _ ?_ ?_
   ·(clear hL3; (try dsimp only at *); have e := aA0 (x := x.1) (i := z4.2.2.2) (f := fO z4.1) (c := gH z4.2.2.1) (g := z4.2.1) (by grind) (by grind [inb]); have hst : eD (aJ x.1 z4.2.2.2) := h0.2.2 _ (bR (by grind) (by grind)); have hz := wC hz3.2.2.1 (aJ x.1 z4.2.2.2).2.1; have hrun := hz3.2.2.2.2.2.2.2; have hdl : x.1.length ≤ 6 := h0.2.1; have hi : aG (z4.2.2.2 + 1) = z4.2.2.2 + 1 := dD (by omega) (by omega); clear h0 h1; refine ⟨by grind [inb], by grind [inb], by grind [nX, eD], by grind [nX, fK, eD], by grind [nX, eD], by grind [nX, fK, eD], by grind, ?_⟩; rw [← hrun, e, hi]; clear e hrun hi; (repeat' split) <;> first | (exfalso; grind [pO, eD]) | grind [aTc, aNq, pO, eD])
   (clear hL3; have hdl : x.1.length ≤ 6 := h0.2.1; grind)
  refine aC (mI _) fun r9 hr9 => ?_
  apply aB <;> intro hc
  ·apply aA
   grind
  refine aC (aE9 _ (by grind)) fun r10 hr10 => ?_
  refine aC (aE9 _ (by grind)) fun r11 hr11 => ?_
  refine hL3 _ ?_ ?_
  ·(clear hL3; (try dsimp only at *); have e := aA0 (x := x.1) (i := z4.2.2.2) (f := fO z4.1) (c := gH z4.2.2.1) (g := z4.2.1) (by grind) (by grind [inb]); have hst : eD (aJ x.1 z4.2.2.2) := h0.2.2 _ (bR (by grind) (by grind)); have hz := wC hz3.2.2.1 (aJ x.1 z4.2.2.2).2.1; have hrun := hz3.2.2.2.2.2.2.2; have hdl : x.1.length ≤ 6 := h0.2.1; have hi : aG (z4.2.2.2 + 1) = z4.2.2.2 + 1 := dD (by omega) (by omega); clear h0 h1; refine ⟨by grind [inb], by grind [inb], by grind [nX, eD], by grind [nX, fK, eD], by grind [nX, eD], by grind [nX, fK, eD], by grind, ?_⟩; rw [← hrun, e, hi]; clear e hrun hi; (repeat' split) <;> first | (exfalso; grind [pO, eD]) | grind [aTc, aNq, pO, eD])
  (clear hL3; have hdl : x.1.length ≤ 6 := h0.2.1; grind)
 apply aA
 grind
end
section
attribute [local grind] aQ aF size_mk dB
theorem aXi (x : List Int) (h0 : x.length ≤ 1000000) : Tot (qO x) (fun y => (y = true ↔ aBg x)) := by
 unfold qO; try dsimp only
 apply aB <;> intro hc
 ·apply aA
  first | grind [aBg] | exact ⟨fun _ => ⟨by grind, jR (P := fun v => -9999 ≤ v ∧ v ≤ 9999) (by grind)⟩, fun _ => rfl⟩
 refine aX (fun z2 => z2 ≤ (x.length : Int) ∧ 0 ≤ z2 ∧ (∀ k : Int, 0 ≤ k → k < z2 → -9999 ≤ aV x k ∧ aV x k ≤ 9999)) (fun z2 => ((x.length : Int) - z2).toNat) fun L1 z2 hz1 hL1 => ?_
 apply aB <;> intro hc
 ·refine aH ?_
  refine aC (mI _) fun r3 hr3 => ?_
  apply aB <;> intro hc
  ·apply aA
   first | grind [aBg] | exact ⟨fun _ => ⟨by grind, jR (P := fun v => -9999 ≤ v ∧ v ≤ 9999) (by grind)⟩, fun _ => rfl⟩
  apply hL1 <;> grind
 apply aA
 first | grind [aBg] | exact ⟨fun _ => ⟨by grind, jR (P := fun v => -9999 ≤ v ∧ v ≤ 9999) (by grind)⟩, fun _ => rfl⟩
end
section
attribute [local grind] aQ aF size_mk bN
theorem aPg (x : List aN) (h0 : x.length ≤ 1000000) : Tot (pY x) (fun y => (y = true ↔ nT x)) := by
 unfold pY; try dsimp only
 refine aX (fun z2 => z2 ≤ (x.length : Int) ∧ 0 ≤ z2 ∧ (∀ k : Int, 0 ≤ k → k < z2 → (bM x k).2 ≠ 0)) (fun z2 => ((x.length : Int) - z2).toNat) fun L1 z2 hz1 hL1 => ?_
 apply aB <;> intro hc
 ·refine aH ?_
  apply aB <;> intro hc
  ·apply aA
   first | grind [nT] | exact ⟨fun h => ⟨by grind, nS (P := fun p => p.2 ≠ 0) (by grind)⟩, by grind [nT]⟩
  apply hL1 <;> grind
 refine aC (yG _ (by grind)) fun r3 hr3 => ?_
 apply aA
 first | grind [nT] | exact ⟨fun h => ⟨by grind, nS (P := fun p => p.2 ≠ 0) (by grind)⟩, by grind [nT]⟩
end
section
attribute [local grind] aQ aF size_mk mU aGv aBg bL oH
theorem aSj (x : List aY) (h0 : x.length ≤ 1000000) (h1 : ∀ s ∈ x, s.2.2.2.length ≤ 1000000) : Tot (rP x) (fun y => (y = true ↔ mU x)) := by
 unfold rP; try dsimp only
 refine eZ (fun z2 => z2 ≤ (x.length : Int) ∧ 0 ≤ z2 ∧ SaidsPre x z2) (fun z2 => ((x.length : Int) - z2).toNat) (by exact ⟨by grind, by grind, SaidsPre.zero x⟩) (by grind) fun L1 z2 hz1 hL1 => ?_
 apply aB <;> intro hc
 ·refine aH ?_
  refine aC (bG _) fun r3 hr3 => ?_
  apply aB <;> intro hc
  ·apply aA
   first | exact ⟨fun _ => SaidsPre.all (i := z2) (by grind) (by grind), fun _ => rfl⟩ | (refine ⟨fun h => (by cases h), fun h => absurd (of_decide_eq_true hc) (Int.not_le.2 ?_)⟩; rw [aG, dD (by grind) (by grind)]; exact oH h.2 (by grind) (by grind)) | grind
  refine aC (bG _) fun r4 hr4 => ?_
  apply aB <;> intro hc
  ·apply aA
   first | exact ⟨fun _ => SaidsPre.all (i := z2) (by grind) (by grind), fun _ => rfl⟩ | (refine ⟨fun h => (by cases h), fun h => absurd (of_decide_eq_true hc) (Int.not_le.2 ?_)⟩; rw [aG, dD (by grind) (by grind)]; exact oH h.2 (by grind) (by grind)) | grind
  refine aC (bG _) fun r5 hr5 => ?_
  apply aB <;> intro hc
  ·apply aA
   first | exact ⟨fun _ => SaidsPre.all (i := z2) (by grind) (by grind), fun _ => rfl⟩ | (refine ⟨fun h => (by cases h), fun h => absurd (of_decide_eq_true hc) (Int.not_le.2 ?_)⟩; rw [aG, dD (by grind) (by grind)]; exact oH h.2 (by grind) (by grind)) | grind
  refine aC (aXi _ (by grind)) fun r6 hr6 => ?_
  apply aB <;> intro hc
  ·apply aA
   first | exact ⟨fun _ => SaidsPre.all (i := z2) (by grind) (by grind), fun _ => rfl⟩ | (refine ⟨fun h => (by cases h), fun h => absurd (of_decide_eq_true hc) (Int.not_le.2 ?_)⟩; rw [aG, dD (by grind) (by grind)]; exact oH h.2 (by grind) (by grind)) | grind
  apply aB <;> intro hc
  ·refine aH ?_
   apply aB <;> intro hc
   ·apply aA
    first | exact ⟨fun _ => SaidsPre.all (i := z2) (by grind) (by grind), fun _ => rfl⟩ | (refine ⟨fun h => (by cases h), fun h => absurd (of_decide_eq_true hc) (Int.not_le.2 ?_)⟩; rw [aG, dD (by grind) (by grind)]; exact oH h.2 (by grind) (by grind)) | grind
   refine hL1 _ ?_ ?_
   ·(refine ⟨by grind, by grind, ?_⟩; rw [aG, dD (by grind) (by grind)]; exact SaidsPre.step (by grind) (by grind) (by grind) (by dsimp only; grind) (fun h => by have hq := of_decide_eq_false hc; first | omega | (rw [aG, dD (by omega) (by omega)] at hq; omega)))
   grind
  refine hL1 _ ?_ ?_
  ·(refine ⟨by grind, by grind, ?_⟩; rw [aG, dD (by grind) (by grind)]; exact SaidsPre.step (by grind) (by grind) (by grind) (by dsimp only; grind) (fun h => by have hq := of_decide_eq_false hc; first | omega | (rw [aG, dD (by omega) (by omega)] at hq; omega)))
  grind
 apply aA
 first | exact ⟨fun _ => SaidsPre.all (i := z2) (by grind) (by grind), fun _ => rfl⟩ | (refine ⟨fun h => (by cases h), fun h => absurd (of_decide_eq_true hc) (Int.not_le.2 ?_)⟩; rw [aG, dD (by grind) (by grind)]; exact oH h.2 (by grind) (by grind)) | grind
end
section
attribute [local grind] aQ aF size_mk BooksW
theorem aKs (x : bC) (h0 : BooksW x) : Tot (rY x) (fun y => (y = true ↔ BooksP x)) := by
 unfold rY; try dsimp only
 refine aC (bG _) fun r1 hr1 => ?_
 apply aB <;> intro hc
 ·refine aC (aQ1 _ (by grind)) fun r2 hr2 => ?_
  apply aB <;> intro hc
  ·refine aC (aPg _ (by grind)) fun r3 hr3 => ?_
   apply aB <;> intro hc
   ·refine aC (aSj _ (by grind) (by grind)) fun r4 hr4 => ?_
    apply aA
    grind [BooksP]
   apply aA
   grind [BooksP]
  apply aA
  grind [BooksP]
 apply aA
 grind [BooksP]
end
section
attribute [local grind] aQ aF size_mk bBz bEs aO7
theorem aXj (x : List aY × Int) (h0 : x.1.length ≤ 1000000) : Tot (tV x) (fun y => y.2.1 = iR x.1 x.2) := by
 unfold tV; try dsimp only
 refine aX (fun z2 => z2.1.1 = 0 ∧ z2.1.2.1 = 0 ∧ z2.1.2.2.1 = 0 ∧ z2.1.2.2.2 = [] ∧ z2.2 ≤ (x.1.length : Int) ∧ 0 ≤ z2.2 ∧ iR (x.1.drop z2.2.toNat) x.2 = iR x.1 x.2) (fun z2 => ((x.1.length : Int) - z2.2).toNat) fun L1 z2 hz1 hL1 => ?_
 apply aB <;> intro hc
 ·refine aH ?_
  apply aB <;> intro hc
  ·refine aH ?_
   apply aA
   grind
  apply hL1 <;> grind
 apply aA
 grind
end
section
attribute [local grind] aQ aF size_mk aKn aA9 iA aO7
theorem aMv (x : List aY × aY) (h0 : x.1.length ≤ 1000000) : Tot (xB x) (fun y => y = iA x.1 x.2) := by
 unfold xB; try dsimp only
 refine aX (fun z2 => z2.2.2.2 ≤ (x.1.length : Int) ∧ 0 ≤ z2.2.2.2 ∧ z2.1 = x.2 ∧ z2.2.1.length ≤ z2.2.2.2 + (if z2.2.2.1 then 1 else 0) ∧ z2.2.1 ++ (if z2.2.2.1 then (x.1.drop z2.2.2.2.toNat).filter (fun q => decide (q.1 ≠ x.2.1)) else iA (x.1.drop z2.2.2.2.toNat) x.2) = iA x.1 x.2) (fun z2 => ((x.1.length : Int) - z2.2.2.2).toNat) fun L1 z2 hz1 hL1 => ?_
 apply aB <;> intro hc
 ·refine bF (P := fun (z3 : aY × List aY × Bool) => z3.1 = x.2 ∧ z3.2.1.length ≤ z2.2.2.2 + (if z3.2.2 then 1 else 0) ∧ (z3.2.2 = true → z3.2.1 ++ (x.1.drop z2.2.2.2.toNat).filter (fun q => decide (q.1 ≠ x.2.1)) = iA x.1 x.2) ∧ (z3.2.2 = false → (aS x.1 z2.2.2.2).1 < x.2.1 ∧ z3.2.1 ++ iA (x.1.drop z2.2.2.2.toNat) x.2 = iA x.1 x.2)) ?_ fun z3 hz3j => ?_
  ·apply aB <;> intro hc
   ·refine aH ?_
    apply aB <;> intro hc
    ·refine aH ?_
     apply aA
     grind
    apply aA
    grind
   apply aA
   grind
  refine aH ?_
  apply aB <;> intro hc
  ·iterate 2 refine aH ?_
   apply hL1 <;> grind
  apply hL1 <;> grind
 apply aB <;> intro hc
 ·refine aH ?_
  apply aA
  grind
 apply aA
 grind
end
section
attribute [local grind] aQ aF size_mk fB eD bR iX
theorem zZ (x : List aI) (h0 : x.length ≤ 1000000) : Tot (iP x) (fun y => (fB x → bs y = eO x) ∧ (¬ fB x → bs y = [])) := by
 unfold iP; try dsimp only
 refine aC (aMx _ (by grind)) fun r1 hr1 => ?_
 apply aB <;> intro hc
 ·apply aA
  first | (refine ⟨by grind, rfl, aKi (bEk (by grind) (by grind)) ?_⟩; rw [hr5.1]; exact aE0 (by grind)) | grind [jP, bY]
 refine eZ (fun z3 => z3.2 ≤ (x.length : Int) ∧ 0 ≤ z3.2 ∧ z3.1.size ≤ 30 * z3.2 ∧ fB x ∧ bs z3.1 = eO (x.take z3.2.toNat)) (fun z3 => ((x.length : Int) - z3.2).toNat) (by exact ⟨by grind, by grind, by decide, by grind, rfl⟩) (by grind) fun L2 z3 hz2 hL2 => ?_
 apply aB <;> intro hc
 ·refine aH ?_
  refine bF (P := fun (z8 : ByteArray × aI) => z8.1.size ≤ z3.1.size + 10 ∧ z8.2 = aJ x z3.2 ∧ bs z8.1 = bs z3.1 ++ (mY (aJ x z3.2).1 ++ 32 :: itoa (aJ x z3.2).2.1)) ?_ fun z8 hz8j => ?_
  ·refine dO (by first | rfl | simp only [dC] | (have hi : inb (aJ x z3.2).1 ([emptyS, (⟨#[103, 101, 116, 32]⟩ : ByteArray), (⟨#[112, 117, 116, 32]⟩ : ByteArray), (⟨#[97, 100, 100, 32]⟩ : ByteArray), (⟨#[110, 101, 101, 100, 32]⟩ : ByteArray)] : List ByteArray).length = true := (by grind [bR]); simp only [hi, cond_true]; have ha : ∀ s : ByteArray, kM z3.1 s = kM z3.1 s := fun _ => rfl; exact aSb _ _ _)) ?_
   iterate 2 refine dH (by grind [aF, size_mk, bR, iX]) ?_
   refine aC (wG _ (by grind [aF, size_mk, bR, iX]) (by grind [aF, size_mk, bR, iX])) fun r5 hr5 => ?_
   refine dH (by grind [aF, size_mk, bR, iX]) ?_
   apply aA
   first | (refine ⟨by grind [aF, size_mk, bR, iX], rfl, aKi (bEk (by grind [bR]) (by grind [bR])) ?_⟩; rw [hr5.1]; exact aE0 (by grind [bR])) | grind [jP, bY]
  apply aB <;> intro hc
  ·refine aH ?_
   refine aC (aJp _ (by grind [aF, size_mk, bR, iX]) (by grind [aF, size_mk, bR, iX])) fun r9 hr9 => ?_
   iterate 2 refine aH ?_
   refine hL2 _ ?_ ?_
   ·(have hi : aG (z3.2 + 1) = z3.2 + 1 := dD (by grind) (by grind); clear hL2; refine ⟨by grind, by grind, by grind, by grind, ?_⟩; rw [hi]; first | exact aU0 (a := z3.1) (z := z8.1) (by grind) (by grind) (by grind) (by grind) (by grind) (by grind) | exact aU1 (a := z3.1) (z := z8.1) (by grind) (by grind) (by grind) (by grind) (by grind))
   (clear hL2; grind)
  refine aH ?_
  refine hL2 _ ?_ ?_
  ·(have hi : aG (z3.2 + 1) = z3.2 + 1 := dD (by grind) (by grind); clear hL2; refine ⟨by grind, by grind, by grind, by grind, ?_⟩; rw [hi]; first | exact aU0 (a := z3.1) (z := z8.1) (by grind) (by grind) (by grind) (by grind) (by grind) (by grind) | exact aU1 (a := z3.1) (z := z8.1) (by grind) (by grind) (by grind) (by grind) (by grind))
  (clear hL2; grind)
 apply aA
 first | (refine ⟨by grind, rfl, aKi (bEk (by grind) (by grind)) ?_⟩; rw [hr5.1]; exact aE0 (by grind)) | grind [jP, bY]
end
section
attribute [local grind] aQ aF size_mk sK
theorem aFb (x : ByteArray × Int) (h0 : x.1.size ≤ 1000000) (h1 : 0 ≤ x.2) (h2 : x.2 ≤ 255) : Tot (aB1 x) (fun y => y.map bs = mH (UInt8.ofNat x.2.toNat) (bs x.1) ∧ 1 ≤ y.length ∧ y.length ≤ x.1.size + 1 ∧ ∀ s ∈ y, s.size ≤ x.1.size) := by
 unfold aB1; try dsimp only
 refine eZ (fun z2 => z2.2.2 ≤ (x.1.size : Int) ∧ 0 ≤ z2.2.2 ∧ z2.1.length ≤ z2.2.2 ∧ 0 ≤ z2.2.1 ∧ z2.2.1 ≤ z2.2.2 ∧ (∀ s ∈ z2.1, s.size ≤ x.1.size) ∧ mH (UInt8.ofNat x.2.toNat) ((bs x.1).take z2.2.2.toNat) = z2.1.map bs ++ [((bs x.1).take z2.2.2.toNat).drop z2.2.1.toNat]) (fun z2 => ((x.1.size : Int) - z2.2.2).toNat) (by exact ⟨by grind, by grind, by grind, by grind, by grind, by grind, rfl⟩) (by grind) fun L1 z2 hz1 hL1 => ?_
 apply aB <;> intro hc
 ·refine aH ?_
  apply aB <;> intro hc
  ·iterate 2 refine aH ?_
   refine hL1 _ ?_ ?_
   ·(have hi : aG (z2.2.2 + 1) = z2.2.2 + 1 := dD (by grind) (by grind); clear hL1; refine ⟨by grind, by grind, by grind, by grind, by grind, by grind, ?_⟩; rw [hi]; first | exact bAl (by grind) (by grind) (by grind) h1 h2 (by grind) (by grind) | exact bFa (by grind) (by grind) (by grind) h1 h2 (by grind) (by grind))
   (clear hL1; grind)
  refine hL1 _ ?_ ?_
  ·(have hi : aG (z2.2.2 + 1) = z2.2.2 + 1 := dD (by grind) (by grind); clear hL1; refine ⟨by grind, by grind, by grind, by grind, by grind, by grind, ?_⟩; rw [hi]; first | exact bAl (by grind) (by grind) (by grind) h1 h2 (by grind) (by grind) | exact bFa (by grind) (by grind) (by grind) h1 h2 (by grind) (by grind))
  (clear hL1; grind)
 iterate 2 refine aH ?_
 apply aA
 exact ⟨bG4 (i := z2.2.2) (by grind) (by grind) (by grind) (by grind), by grind, by grind, by grind⟩
end
section
attribute [local grind] aQ aF size_mk sK
theorem aFa (x : ByteArray) (h0 : x.size ≤ 1000000) : Tot (aBz x) (fun y => ∀ n : Int, -9999 ≤ n → n ≤ 9999 → bs x = itoa n → y.1 = n) := by
 unfold aBz; try dsimp only
 refine bF (P := fun (z1 : Bool) => (z1 = true → 1 ≤ x.size) ∧ ∀ n : Int, bs x = itoa n → z1 = decide (n < 0)) ?_ fun z1 hz1j => ?_
 ·apply aB <;> intro hc
  ·refine aH ?_
   apply aA
   first | (intro n hn1 hn2 hx; have hz := hxj.2 n hx; have hs := eQ hz (by omega); exfalso; clear hxj; first | grind | (have hq := jF hz (i := x.2) (by grind) (by grind); grind)) | (intro n hn1 hn2 hx; have hz := hxj.2 n hx; have hs := eQ hz (by omega); have hm := tJ (i := x.2) (m := x.1) (by grind) (by grind) (by grind) hz; have hneg := hz1j.2 n hx; grind) | (refine ⟨by grind, fun n hx => ?_⟩; first | exact (fH hx).2 | (exfalso; have := (fH hx).1; grind)) | (refine ⟨by grind, fun n hx => ?_⟩; first | exact mQ hx (by grind) | exact oV hx (by grind))
  apply aA
  first | (intro n hn1 hn2 hx; have hz := hxj.2 n hx; have hs := eQ hz (by omega); exfalso; clear hxj; first | grind | (have hq := jF hz (i := x.2) (by grind) (by grind); grind)) | (intro n hn1 hn2 hx; have hz := hxj.2 n hx; have hs := eQ hz (by omega); have hm := tJ (i := x.2) (m := x.1) (by grind) (by grind) (by grind) hz; have hneg := hz1j.2 n hx; grind) | (refine ⟨by grind, fun n hx => ?_⟩; first | exact (fH hx).2 | (exfalso; have := (fH hx).1; grind)) | (refine ⟨by grind, fun n hx => ?_⟩; first | exact mQ hx (by grind) | exact oV hx (by grind))
 refine bF (P := fun (z2 : ByteArray) => z2.size ≤ 1000000 ∧ ∀ n : Int, bs x = itoa n → bs z2 = decDigits n.natAbs) ?_ fun z2 hz2j => ?_
 ·apply aB <;> intro hc
  ·refine aH ?_
   apply aA
   first | (intro n hn1 hn2 hx; have hz := hz2j.2 n hx; have hs := eQ hz (by omega); exfalso; clear hz2j; first | grind | (have hq := jF hz (i := x.2) (by grind) (by grind); grind)) | (intro n hn1 hn2 hx; have hz := hz2j.2 n hx; have hs := eQ hz (by omega); have hm := tJ (i := x.2) (m := x.1) (by grind) (by grind) (by grind) hz; have hneg := hz1j.2 n hx; grind [dD]) | (refine ⟨by grind, fun n hx => ?_⟩; first | exact (fH hx).2 | (exfalso; have := (fH hx).1; grind)) | (refine ⟨by grind [sK], fun n hx => ?_⟩; first | exact mQ hx (by grind) | exact oV hx (by grind))
  apply aA
  first | (intro n hn1 hn2 hx; have hz := hz2j.2 n hx; have hs := eQ hz (by omega); exfalso; clear hz2j; first | grind | (have hq := jF hz (i := x.2) (by grind) (by grind); grind)) | (intro n hn1 hn2 hx; have hz := hz2j.2 n hx; have hs := eQ hz (by omega); have hm := tJ (i := x.2) (m := x.1) (by grind) (by grind) (by grind) hz; have hneg := hz1j.2 n hx; grind) | (refine ⟨by grind, fun n hx => ?_⟩; first | exact (fH hx).2 | (exfalso; have := (fH hx).1; grind)) | (refine ⟨by grind, fun n hx => ?_⟩; first | exact mQ hx (by grind) | exact oV hx (by grind))
 apply aB <;> intro hc
 ·apply aA
  first | (intro n hn1 hn2 hx; have hz := hz2j.2 n hx; have hs := eQ hz (by omega); exfalso; clear hz2j; first | grind | (have hq := jF hz (i := x.2) (by grind) (by grind); grind)) | (intro n hn1 hn2 hx; have hz := hz2j.2 n hx; have hs := eQ hz (by omega); have hm := tJ (i := x.2) (m := x.1) (by grind) (by grind) (by grind) hz; have hneg := hz1j.2 n hx; grind) | (refine ⟨by grind, fun n hx => ?_⟩; first | exact (fH hx).2 | (exfalso; have := (fH hx).1; grind)) | (refine ⟨by grind, fun n hx => ?_⟩; first | exact mQ hx (by grind) | exact oV hx (by grind))
 apply aB <;> intro hc
 ·apply aA
  first | (intro n hn1 hn2 hx; have hz := hz2j.2 n hx; have hs := eQ hz (by omega); exfalso; clear hz2j; first | grind | (have hq := jF hz (i := x.2) (by grind) (by grind); grind)) | (intro n hn1 hn2 hx; have hz := hz2j.2 n hx; have hs := eQ hz (by omega); have hm := tJ (i := x.2) (m := x.1) (by grind) (by grind) (by grind) hz; have hneg := hz1j.2 n hx; grind) | (refine ⟨by grind, fun n hx => ?_⟩; first | exact (fH hx).2 | (exfalso; have := (fH hx).1; grind)) | (refine ⟨by grind, fun n hx => ?_⟩; first | exact mQ hx (by grind) | exact oV hx (by grind))
 refine eZ (fun z4 => z4.2 ≤ (z2.size : Int) ∧ 0 ≤ z4.2 ∧ 0 ≤ z4.1 ∧ z4.1 ≤ 99999 ∧ (z4.2 = 0 → z4.1 = 0) ∧ (z4.2 = 1 → z4.1 ≤ 9) ∧ (z4.2 = 2 → z4.1 ≤ 99) ∧ (z4.2 = 3 → z4.1 ≤ 999) ∧ (z4.2 = 4 → z4.1 ≤ 9999) ∧ decFrom 0 ((bs z2).take z4.2.toNat) = some z4.1.toNat) (fun z4 => ((z2.size : Int) - z4.2).toNat) (by exact ⟨by grind, by grind, by grind, by grind, by grind, by grind, by grind, by grind, by grind, rfl⟩) (by grind) fun L3 z4 hz3 hL3 => ?_
 apply aB <;> intro hc
 ·refine aH ?_
  apply aB <;> intro hc
  ·apply aA
   first | (intro n hn1 hn2 hx; have hz := hz2j.2 n hx; have hs := eQ hz (by omega); exfalso; clear hz2j; first | grind | (have hq := jF hz (i := z4.2) (by grind) (by grind); grind)) | (intro n hn1 hn2 hx; have hz := hz2j.2 n hx; have hs := eQ hz (by omega); have hm := tJ (i := z4.2) (m := z4.1) (by grind) (by grind) (by grind) hz; have hneg := hz1j.2 n hx; grind) | (refine ⟨by grind, fun n hx => ?_⟩; first | exact (fH hx).2 | (exfalso; have := (fH hx).1; grind)) | (refine ⟨by grind, fun n hx => ?_⟩; first | exact mQ hx (by grind) | exact oV hx (by grind))
  refine aH ?_
  apply aB <;> intro hc
  ·apply aA
   first | (intro n hn1 hn2 hx; have hz := hz2j.2 n hx; have hs := eQ hz (by omega); exfalso; clear hz2j; first | grind | (have hq := jF hz (i := z4.2) (by grind) (by grind); grind)) | (intro n hn1 hn2 hx; have hz := hz2j.2 n hx; have hs := eQ hz (by omega); have hm := tJ (i := z4.2) (m := z4.1) (by grind) (by grind) (by grind) hz; have hneg := hz1j.2 n hx; grind) | (refine ⟨by grind, fun n hx => ?_⟩; first | exact (fH hx).2 | (exfalso; have := (fH hx).1; grind)) | (refine ⟨by grind, fun n hx => ?_⟩; first | exact mQ hx (by grind) | exact oV hx (by grind))
  refine aH ?_
  refine hL3 _ ?_ ?_
  ·(have hd := bBv (t := z2) (i := z4.2) (m := z4.1) (by grind) (by grind) (by grind) (by grind) (by grind) (by grind); have e := aOr (n := z4.1) (b := iH z2 z4.2) (by grind) (by grind) (by grind) (by grind); have e2 : IntKind.i64.wrap (z4.2 + 1) = z4.2 + 1 := dD (by grind) (by grind); have h48 : 48 ≤ iH z2 z4.2 := (by grind); have h57 : iH z2 z4.2 ≤ 57 := (by grind); have hlt : z4.2 < z2.size := (by grind); have h5 : z2.size ≤ 5 := (by grind); simp only [aG, aSq, e, e2]; clear e e2 hL3; refine ⟨by omega, by omega, by omega, by omega, by omega, by omega, by omega, by omega, by omega, ?_⟩; exact hd)
  (clear hL3; grind)
 apply aB <;> intro hc
 ·refine aC (aJp _ (by grind) (by grind)) fun r6 hr6 => ?_
  apply aA
  first | (intro n hn1 hn2 hx; have hz := hz2j.2 n hx; have hs := eQ hz (by omega); exfalso; clear hz2j; first | grind | (have hq := jF hz (i := z4.2) (by grind) (by grind); grind)) | (intro n hn1 hn2 hx; have hz := hz2j.2 n hx; have hs := eQ hz (by omega); have hm := tJ (i := z4.2) (m := z4.1) (by grind) (by grind) (by grind) hz; have hneg := hz1j.2 n hx; grind) | (refine ⟨by grind, fun n hx => ?_⟩; first | exact (fH hx).2 | (exfalso; have := (fH hx).1; grind)) | (refine ⟨by grind, fun n hx => ?_⟩; first | exact mQ hx (by grind) | exact oV hx (by grind))
 refine aC (aJp _ (by grind) (by grind)) fun r7 hr7 => ?_
 apply aA
 first | (intro n hn1 hn2 hx; have hz := hz2j.2 n hx; have hs := eQ hz (by omega); exfalso; clear hz2j; first | grind | (have hq := jF hz (i := z4.2) (by grind) (by grind); grind)) | (intro n hn1 hn2 hx; have hz := hz2j.2 n hx; have hs := eQ hz (by omega); have hm := tJ (i := z4.2) (m := z4.1) (by grind) (by grind) (by grind) hz; have hneg := hz1j.2 n hx; grind) | (refine ⟨by grind, fun n hx => ?_⟩; first | exact (fH hx).2 | (exfalso; have := (fH hx).1; grind)) | (refine ⟨by grind, fun n hx => ?_⟩; first | exact mQ hx (by grind) | exact oV hx (by grind))
end
section
attribute [local grind] aQ aF size_mk iX sK
theorem aPe (x : ByteArray) : Tot (iY x) (fun y => (y.2 = true → fB y.1 ∧ eO y.1 = bs x ∧ x.size ≤ 80) ∧ (y.2 = false → y.1 = [])) := by
 unfold iY; try dsimp only
 apply aB <;> intro hc
 ·apply aA
  first | grind | (refine ⟨fun _ => ?_, fun h => (by cases h)⟩; have hq := dR.1 (show eqS x x = true by grind); have hx : ¬ fB x.2.1 → False := (fun hd => by have := hx.2 hd; rw [hq] at this; have h0 := aHo this; have h1 := dR.2 h0; grind); have hd : fB x.2.1 := Classical.byContradiction hx; exact ⟨hd, by rw [← hx.1 hd, hq], by grind⟩)
 refine aC (aFb _ (by grind) (by grind) (by grind)) fun r1 hr1 => ?_
 refine aX (fun z3 => aG (z3.2.2.2 + 1) ≤ (z3.2.2.1.length : Int) ∧ 0 ≤ z3.2.2.2 ∧ z3.1 = [] ∧ z3.2.2.1 = r1 ∧ z3.2.1.length ≤ z3.2.2.2 ∧ z3.2.2.2 ≤ r1.length) (fun z3 => (z3.2.2.1.length - z3.2.2.2).toNat) fun L2 z3 hz2 hL2 => ?_
 apply aB <;> intro hc
 ·refine aH ?_
  refine aC (aFb _ (by grind) (by grind) (by grind)) fun r5 hr5 => ?_
  refine aX (fun z7 => z7.1 = z3.2.2.1 ∧ z7.2.1 = z3.2.1 ∧ z7.2.2.1 = z3.1 ∧ z7.2.2.2.1 = r5 ∧ z7.2.2.2.2.1.2.1 = 0 ∧ z7.2.2.2.2.1.2.2 = 0 ∧ 0 ≤ z7.2.2.2.2.2 ∧ z7.2.2.2.2.2 ≤ 5) (fun z7 => (5 - z7.2.2.2.2.2).toNat) fun L6 z7 hz6 hL6 => ?_
  apply aB <;> intro hc
  ·iterate 2 refine aH ?_
   apply aB <;> intro hc
   ·apply hL6 <;> grind
   apply hL6 <;> grind
  refine bF (P := fun (z10 : List aI × List aI × List ByteArray × List ByteArray × aI) => z10.1 = z7.2.2.1 ∧ z10.2.1 = z7.2.1 ∧ z10.2.2.1 = z7.1 ∧ z10.2.2.2.1 = z7.2.2.2.1) ?_ fun z10 hz10j => ?_
  ·apply aB <;> intro hc
   ·refine aH ?_
    refine aC (aFa _ (by grind)) fun r9 hr9 => ?_
    apply aA
    first | grind | (refine ⟨fun _ => ?_, fun h => (by cases h)⟩; have hq := dR.1 (show eqS x x = true by grind); have hx : ¬ fB z3.2.1 → False := (fun hd => by have := hx.2 hd; rw [hq] at this; have h0 := aHo this; have h1 := dR.2 h0; grind); have hd : fB z3.2.1 := Classical.byContradiction hx; exact ⟨hd, by rw [← hx.1 hd, hq], by grind⟩)
   apply aA
   first | grind | (refine ⟨fun _ => ?_, fun h => (by cases h)⟩; have hq := dR.1 (show eqS x x = true by grind); have hx : ¬ fB z3.2.1 → False := (fun hd => by have := hx.2 hd; rw [hq] at this; have h0 := aHo this; have h1 := dR.2 h0; grind); have hd : fB z3.2.1 := Classical.byContradiction hx; exact ⟨hd, by rw [← hx.1 hd, hq], by grind⟩)
  apply aB <;> intro hc
  ·refine aH ?_
   refine aC (aFa _ (by grind)) fun r11 hr11 => ?_
   refine aH ?_
   apply hL2 <;> grind
  refine aH ?_
  apply hL2 <;> grind
 apply aB <;> intro hc
 ·apply aA
  first | grind | (refine ⟨fun _ => ?_, fun h => (by cases h)⟩; have hq := dR.1 (show eqS x x = true by grind); have hx : ¬ fB z3.2.1 → False := (fun hd => by have := hx.2 hd; rw [hq] at this; have h0 := aHo this; have h1 := dR.2 h0; grind); have hd : fB z3.2.1 := Classical.byContradiction hx; exact ⟨hd, by rw [← hx.1 hd, hq], by grind⟩)
 refine aC (zZ _ (by grind)) fun r13 hr13 => ?_
 apply aB <;> intro hc
 ·apply aA
  first | grind | (refine ⟨fun _ => ?_, fun h => (by cases h)⟩; have hq := dR.1 (show eqS r13 x = true by grind); have hx : ¬ fB z3.2.1 → False := (fun hd => by have := hr13.2 hd; rw [hq] at this; have h0 := aHo this; have h1 := dR.2 h0; grind); have hd : fB z3.2.1 := Classical.byContradiction hx; exact ⟨hd, by rw [← hr13.1 hd, hq], by grind⟩)
 apply aA
 first | grind | (refine ⟨fun _ => ?_, fun h => (by cases h)⟩; have hq := dR.1 (show eqS r13 x = true by grind); have hx : ¬ fB z3.2.1 → False := (fun hd => by have := hr13.2 hd; rw [hq] at this; have h0 := aHo this; have h1 := dR.2 h0; grind); have hd : fB z3.2.1 := Classical.byContradiction hx; exact ⟨hd, by rw [← hr13.1 hd, hq], by grind⟩)
end
section
attribute [local grind] aQ aF size_mk iX
theorem zW (L : List aI) (x : ByteArray) (h0 : fB L) (h1 : eO L = bs x) (h2 : x.size ≤ 80) : Tot (iY x) (fun y => y = (L, true)) := by
 unfold iY; try dsimp only
 apply aB <;> intro hc
 ·apply aA
  first | (obtain ⟨g1, g2, g3, g4, g5, g6, g7, g8⟩ := hz2; obtain ⟨k1, k2, k3, k4, k5, k6, k7, k8, k9, k10, k11⟩ := hz6; have hi : x.2.2.2 < (L.length : Int) := (by have := gL g7; have hw : aG (x.2.2.2 + 1) = x.2.2.2 + 1 := dD (by omega) (by omega); grind); have hS : eD (aJ L x.2.2.2) := h0.2.2 _ (bR g2 hi); unfold eD at hS; have hl := k9.len; have hw1 := k9.w1; clear hL6 hL2; grind) | (exfalso; grind) | (obtain ⟨g1, g2, g3, g4, g5, g6, g7, g8⟩ := hz2; have hpl := gL g7; have hw : aG (x.2.2.2 + 1) = x.2.2.2 + 1 := dD (by omega) (by omega); have hq : x.2.1 = L := (by rw [g6]; exact bY (by grind)); clear hL2; first | (exfalso; have he := dR.1 hc; rw [he, jP] at h1; exact wR h0 h1) | (exfalso; have hb := hx.1 (by rw [hq]; exact h0); rw [hq, h1] at hb; have := dR.2 (oK hb); grind) | grind)
 refine aC (aFb _ (by grind) (by grind) (by grind)) fun r1 hr1 => ?_
 refine eZ (fun z3 => aG (z3.2.2.2 + 1) ≤ (z3.2.2.1.length : Int) ∧ 0 ≤ z3.2.2.2 ∧ z3.1 = [] ∧ z3.2.2.1 = r1 ∧ z3.2.2.2 + 1 ≤ r1.length ∧ z3.2.1 = L.take z3.2.2.2.toNat ∧ r1.map bs = L.map kX ++ [[]] ∧ r1.length ≤ 81) (fun z3 => (z3.2.2.1.length - z3.2.2.2).toNat) (by (have e : r1.map bs = L.map kX ++ [[]] := (by rw [hr1.1, ← h1]; exact aR5 L); have hr := hr1.2.1; exact ⟨by dsimp only; rw [aG, dD (by omega) (by omega)]; omega, by dsimp only; omega, rfl, rfl, by dsimp only; omega, rfl, e, by have := hr1.2.2.1; dsimp only at this ⊢; omega⟩)) (by grind) fun L2 z3 hz2 hL2 => ?_
 apply aB <;> intro hc
 ·refine aH ?_
  refine aC (aFb _ (by grind) (by grind) (by grind)) fun r5 hr5 => ?_
  refine eZ (fun z7 => z7.1 = z3.2.2.1 ∧ z7.2.1 = z3.2.1 ∧ z7.2.2.1 = z3.1 ∧ z7.2.2.2.1 = r5 ∧ z7.2.2.2.2.1.2.1 = 0 ∧ z7.2.2.2.2.1.2.2 = 0 ∧ 1 ≤ z7.2.2.2.2.2 ∧ z7.2.2.2.2.2 ≤ 5 ∧ Words z7.2.2.2.1 (aJ L z3.2.2.2) ∧ z7.2.2.2.2.1.2 = (0, 0) ∧ z7.2.2.2.2.1.1 = (if (aJ L z3.2.2.2).1 < z7.2.2.2.2.2 then (aJ L z3.2.2.2).1 else 0)) (fun z7 => (5 - z7.2.2.2.2.2).toNat) (by (obtain ⟨g1, g2, g3, g4, g5, g6, g7, g8⟩ := hz2; have hw : aG (z3.2.2.2 + 1) = z3.2.2.2 + 1 := dD (by omega) (by omega); have hc2 := of_decide_eq_true hc; rw [hw, g4] at hc2; have hp := bGi g7 g2 hc2; have hS : eD (aJ L z3.2.2.2) := h0.2.2 _ (bR g2 hp.1); have hW : Words r5 (aJ L z3.2.2.2) := Words.of hr5.1 (by rw [← hp.2, g4]); clear g7; unfold eD at hS; (repeat' refine And.intro ?_ ?_) <;> first | rfl | exact hW | grind)) (by grind) fun L6 z7 hz6 hL6 => ?_
  apply aB <;> intro hc
  ·iterate 2 refine aH ?_
   apply aB <;> intro hc
   ·refine hL6 _ ?_ ?_
    ·(clear hL2; (try clear hL6); obtain ⟨g1, g2, g3, g4, g5, g6, g7, g8⟩ := hz2; obtain ⟨k1, k2, k3, k4, k5, k6, k7, k8, k9, k10, k11⟩ := hz6; have hw : aG (z3.2.2.2 + 1) = z3.2.2.2 + 1 := dD (by omega) (by omega); have hi : z3.2.2.2 < (L.length : Int) := (by have := gL g7; grind); have hS : eD (aJ L z3.2.2.2) := h0.2.2 _ (bR g2 hi); unfold eD at hS; first | (have hn := aFv k9.w0 (aT6 (k := z7.2.2.2.2.2) k7 (by grind)) hS.1 hS.2.1 k7 (by grind); clear g7; (repeat' refine And.intro ?_ ?_) <;> first | exact k9 | grind) | (have ht := kU g2 hi; have hpl := gL g7; have hl := k9.len; obtain ⟨j1, j2, j3, j4, j5⟩ := hxj; have hw2 := k9.w2; refine ⟨?_, ?_, ?_, ?_, ?_, ?_, g7, g8⟩ <;> grind))
    (clear hL2; (try clear hL6); grind)
   refine hL6 _ ?_ ?_
   ·(clear hL2; (try clear hL6); obtain ⟨g1, g2, g3, g4, g5, g6, g7, g8⟩ := hz2; obtain ⟨k1, k2, k3, k4, k5, k6, k7, k8, k9, k10, k11⟩ := hz6; have hw : aG (z3.2.2.2 + 1) = z3.2.2.2 + 1 := dD (by omega) (by omega); have hi : z3.2.2.2 < (L.length : Int) := (by have := gL g7; grind); have hS : eD (aJ L z3.2.2.2) := h0.2.2 _ (bR g2 hi); unfold eD at hS; first | (have hn := aFv k9.w0 (aT6 (k := z7.2.2.2.2.2) k7 (by grind)) hS.1 hS.2.1 k7 (by grind); clear g7; (repeat' refine And.intro ?_ ?_) <;> first | exact k9 | grind) | (have ht := kU g2 hi; have hpl := gL g7; have hl := k9.len; obtain ⟨j1, j2, j3, j4, j5⟩ := hxj; have hw2 := k9.w2; refine ⟨?_, ?_, ?_, ?_, ?_, ?_, g7, g8⟩ <;> grind))
   (clear hL2; (try clear hL6); grind)
  refine bF (P := fun (z10 : List aI × List aI × List ByteArray × List ByteArray × aI) => z10.1 = z7.2.2.1 ∧ z10.2.1 = z7.2.1 ∧ z10.2.2.1 = z7.1 ∧ z10.2.2.2.1 = z7.2.2.2.1 ∧ z10.2.2.2.2 = ((aJ L z3.2.2.2).1, ((aJ L z3.2.2.2).2.1, 0))) ?_ fun z10 hz10j => ?_
  ·apply aB <;> intro hc
   ·refine aH ?_
    refine aC (aFa _ (by grind)) fun r9 hr9 => ?_
    apply aA
    first | (obtain ⟨g1, g2, g3, g4, g5, g6, g7, g8⟩ := hz2; obtain ⟨k1, k2, k3, k4, k5, k6, k7, k8, k9, k10, k11⟩ := hz6; have hi : z3.2.2.2 < (L.length : Int) := (by have := gL g7; have hw : aG (z3.2.2.2 + 1) = z3.2.2.2 + 1 := dD (by omega) (by omega); grind); have hS : eD (aJ L z3.2.2.2) := h0.2.2 _ (bR g2 hi); unfold eD at hS; have hl := k9.len; have hw1 := k9.w1; clear hL6 hL2; grind) | (exfalso; grind) | (obtain ⟨g1, g2, g3, g4, g5, g6, g7, g8⟩ := hz2; have hpl := gL g7; have hw : aG (z3.2.2.2 + 1) = z3.2.2.2 + 1 := dD (by omega) (by omega); have hq : z3.2.1 = L := (by rw [g6]; exact bY (by grind)); clear hL2; first | (exfalso; have he := dR.1 hc; rw [he, jP] at h1; exact wR h0 h1) | (exfalso; have hb := hx.1 (by rw [hq]; exact h0); rw [hq, h1] at hb; have := dR.2 (oK hb); grind) | grind)
   apply aA
   first | (obtain ⟨g1, g2, g3, g4, g5, g6, g7, g8⟩ := hz2; obtain ⟨k1, k2, k3, k4, k5, k6, k7, k8, k9, k10, k11⟩ := hz6; have hi : z3.2.2.2 < (L.length : Int) := (by have := gL g7; have hw : aG (z3.2.2.2 + 1) = z3.2.2.2 + 1 := dD (by omega) (by omega); grind); have hS : eD (aJ L z3.2.2.2) := h0.2.2 _ (bR g2 hi); unfold eD at hS; have hl := k9.len; have hw1 := k9.w1; clear hL6 hL2; grind) | (exfalso; grind) | (obtain ⟨g1, g2, g3, g4, g5, g6, g7, g8⟩ := hz2; have hpl := gL g7; have hw : aG (z3.2.2.2 + 1) = z3.2.2.2 + 1 := dD (by omega) (by omega); have hq : z3.2.1 = L := (by rw [g6]; exact bY (by grind)); clear hL2; first | (exfalso; have he := dR.1 hc; rw [he, jP] at h1; exact wR h0 h1) | (exfalso; have hb := hx.1 (by rw [hq]; exact h0); rw [hq, h1] at hb; have := dR.2 (oK hb); grind) | grind)
  apply aB <;> intro hc
  ·refine aH ?_
   refine aC (aFa _ (by grind)) fun r11 hr11 => ?_
   refine aH ?_
   refine hL2 _ ?_ ?_
   ·(clear hL2; (try clear hL6); obtain ⟨g1, g2, g3, g4, g5, g6, g7, g8⟩ := hz2; obtain ⟨k1, k2, k3, k4, k5, k6, k7, k8, k9, k10, k11⟩ := hz6; have hw : aG (z3.2.2.2 + 1) = z3.2.2.2 + 1 := dD (by omega) (by omega); have hi : z3.2.2.2 < (L.length : Int) := (by have := gL g7; grind); have hS : eD (aJ L z3.2.2.2) := h0.2.2 _ (bR g2 hi); unfold eD at hS; first | (have hn := aFv k9.w0 (aT6 (k := z7.2.2.2.2.2) k7 (by grind)) hS.1 hS.2.1 k7 (by grind); clear g7; (repeat' refine And.intro ?_ ?_) <;> first | exact k9 | grind) | (have ht := kU g2 hi; have hpl := gL g7; have hl := k9.len; obtain ⟨j1, j2, j3, j4, j5⟩ := hz10j; have hw2 := k9.w2; refine ⟨?_, ?_, ?_, ?_, ?_, ?_, g7, g8⟩ <;> grind))
   (clear hL2; (try clear hL6); grind)
  refine aH ?_
  refine hL2 _ ?_ ?_
  ·(clear hL2; (try clear hL6); obtain ⟨g1, g2, g3, g4, g5, g6, g7, g8⟩ := hz2; obtain ⟨k1, k2, k3, k4, k5, k6, k7, k8, k9, k10, k11⟩ := hz6; have hw : aG (z3.2.2.2 + 1) = z3.2.2.2 + 1 := dD (by omega) (by omega); have hi : z3.2.2.2 < (L.length : Int) := (by have := gL g7; grind); have hS : eD (aJ L z3.2.2.2) := h0.2.2 _ (bR g2 hi); unfold eD at hS; first | (have hn := aFv k9.w0 (aT6 (k := z7.2.2.2.2.2) k7 (by grind)) hS.1 hS.2.1 k7 (by grind); clear g7; (repeat' refine And.intro ?_ ?_) <;> first | exact k9 | grind) | (have ht := kU g2 hi; have hpl := gL g7; have hl := k9.len; obtain ⟨j1, j2, j3, j4, j5⟩ := hz10j; have hw2 := k9.w2; refine ⟨?_, ?_, ?_, ?_, ?_, ?_, g7, g8⟩ <;> grind))
  (clear hL2; (try clear hL6); grind)
 apply aB <;> intro hc
 ·apply aA
  first | (obtain ⟨g1, g2, g3, g4, g5, g6, g7, g8⟩ := hz2; obtain ⟨k1, k2, k3, k4, k5, k6, k7, k8, k9, k10, k11⟩ := hz6; have hi : z3.2.2.2 < (L.length : Int) := (by have := gL g7; have hw : aG (z3.2.2.2 + 1) = z3.2.2.2 + 1 := dD (by omega) (by omega); grind); have hS : eD (aJ L z3.2.2.2) := h0.2.2 _ (bR g2 hi); unfold eD at hS; have hl := k9.len; have hw1 := k9.w1; clear hL6 hL2; grind) | (exfalso; grind) | (obtain ⟨g1, g2, g3, g4, g5, g6, g7, g8⟩ := hz2; have hpl := gL g7; have hw : aG (z3.2.2.2 + 1) = z3.2.2.2 + 1 := dD (by omega) (by omega); have hq : z3.2.1 = L := (by rw [g6]; exact bY (by grind)); clear hL2; first | (exfalso; have he := dR.1 hc; rw [he, jP] at h1; exact wR h0 h1) | (exfalso; have hb := hx.1 (by rw [hq]; exact h0); rw [hq, h1] at hb; have := dR.2 (oK hb); grind) | grind)
 refine aC (zZ _ (by grind)) fun r13 hr13 => ?_
 apply aB <;> intro hc
 ·apply aA
  first | (obtain ⟨g1, g2, g3, g4, g5, g6, g7, g8⟩ := hz2; obtain ⟨k1, k2, k3, k4, k5, k6, k7, k8, k9, k10, k11⟩ := hz6; have hi : z3.2.2.2 < (L.length : Int) := (by have := gL g7; have hw : aG (z3.2.2.2 + 1) = z3.2.2.2 + 1 := dD (by omega) (by omega); grind); have hS : eD (aJ L z3.2.2.2) := h0.2.2 _ (bR g2 hi); unfold eD at hS; have hl := k9.len; have hw1 := k9.w1; clear hL6 hL2; grind) | (exfalso; grind) | (obtain ⟨g1, g2, g3, g4, g5, g6, g7, g8⟩ := hz2; have hpl := gL g7; have hw : aG (z3.2.2.2 + 1) = z3.2.2.2 + 1 := dD (by omega) (by omega); have hq : z3.2.1 = L := (by rw [g6]; exact bY (by grind)); clear hL2; first | (exfalso; have he := dR.1 hc; rw [he, jP] at h1; exact wR h0 h1) | (exfalso; have hb := hr13.1 (by rw [hq]; exact h0); rw [hq, h1] at hb; have := dR.2 (oK hb); grind) | grind)
 apply aA
 first | (obtain ⟨g1, g2, g3, g4, g5, g6, g7, g8⟩ := hz2; obtain ⟨k1, k2, k3, k4, k5, k6, k7, k8, k9, k10, k11⟩ := hz6; have hi : z3.2.2.2 < (L.length : Int) := (by have := gL g7; have hw : aG (z3.2.2.2 + 1) = z3.2.2.2 + 1 := dD (by omega) (by omega); grind); have hS : eD (aJ L z3.2.2.2) := h0.2.2 _ (bR g2 hi); unfold eD at hS; have hl := k9.len; have hw1 := k9.w1; clear hL6 hL2; grind) | (exfalso; grind) | (obtain ⟨g1, g2, g3, g4, g5, g6, g7, g8⟩ := hz2; have hpl := gL g7; have hw : aG (z3.2.2.2 + 1) = z3.2.2.2 + 1 := dD (by omega) (by omega); have hq : z3.2.1 = L := (by rw [g6]; exact bY (by grind)); clear hL2; first | (exfalso; have he := dR.1 hc; rw [he, jP] at h1; exact wR h0 h1) | (exfalso; have hb := hr13.1 (by rw [hq]; exact h0); rw [hq, h1] at hb; have := dR.2 (oK hb); grind) | grind)
end
theorem aHs (x : ByteArray) : Tot (iY x) (fun y => y = fP x) := by
 obtain ⟨y, e, h1, h2⟩ := aPe x
 refine ⟨y, e, aVr ⟨fun h => ⟨(h1 h).1, (h1 h).2.1⟩, h2, fun L hL hw hs => ?_⟩ ?_⟩
 ·obtain ⟨z, e2, hz⟩ := zW L x hL hw hs
  rw [e] at e2
  exact (Option.some.inj e2).trans hz
 cases hb : y.2 with
 | true => exact .inl (h1 hb).2.2
 | false => exact .inr rfl
section
attribute [local grind] aQ aF size_mk bFo dR
theorem aMw (x : bO) : Tot (xC x) (fun y => (y = true ↔ bFo x)) := by
 unfold xC; try dsimp only
 refine aC (bG _) fun r1 hr1 => ?_
 apply aB <;> intro hc
 ·apply aA
  grind
 refine aC (bG _) fun r2 hr2 => ?_
 apply aB <;> intro hc
 ·apply aA
  grind
 apply aB <;> intro hc
 ·apply aB <;> intro hc
  ·apply aB <;> intro hc
   ·apply aA
    grind
   apply aA
   grind
  apply aA
  grind
 apply aB <;> intro hc
 ·apply aB <;> intro hc
  ·refine aC (bG _) fun r3 hr3 => ?_
   apply aB <;> intro hc
   ·refine aC (bG _) fun r4 hr4 => ?_
    apply aA
    grind
   apply aA
   grind
  apply aA
  grind
 apply aA
 grind
end
section
attribute [local grind] aQ aF size_mk bFo gG aX8
theorem aG0 (x : bO) (h0 : x.2.2.2.1.size ≤ 1000000) : Tot (mF x) (fun y => (y = true ↔ gG x)) := by
 unfold mF; try dsimp only
 apply aB <;> intro hc
 ·refine aC (aHs _) fun r1 hr1 => ?_
  apply aB <;> intro hc
  ·refine aC (aMw _) fun r2 hr2 => ?_
   apply aA
   grind
  apply aA
  grind
 refine aC (aMw _) fun r3 hr3 => ?_
 apply aA
 grind
end
section
attribute [local grind] aQ aF size_mk BooksP BooksW nT fK gG iF
theorem aDn (x : bC × bO) (h0 : BooksW x.1) (h1 : x.2.2.2.2.1.size ≤ 1000000) : Tot (lC x) (fun y => y = doM x) := by
 unfold lC; try dsimp only
 refine aC (aKs _ (by grind)) fun r1 hr1 => ?_
 apply aB <;> intro hc
 ·apply aA
  (unfold doM lD jS; grind)
 apply aB <;> intro hc
 ·apply aA
  (unfold doM lD jS; grind)
 refine aC (rG _ (by first | exact h0 | (refine BooksW.of_eq (b := doM x) (aHm (by grind) (by grind)).1 ?_; unfold doM lD; grind))) fun r2 hr2 => ?_
 refine aC (aG0 _ (by grind)) fun r3 hr3 => ?_
 apply aB <;> intro hc
 ·apply aA
  (unfold doM lD jS; grind)
 refine aC (aXj _ (by grind)) fun r4 hr4 => ?_
 apply aB <;> intro hc
 ·apply aA
  (unfold doM lD jS; grind)
 apply aB <;> intro hc
 ·refine aC (aUs _ (by grind) (by grind)) fun r5 hr5 => ?_
  refine aC (aMv _ (by grind)) fun r6 hr6 => ?_
  refine aC (rG _ (by first | exact h0 | (refine BooksW.of_eq (b := doM x) (aHm (by grind) (by grind)).1 ?_; unfold doM lD; grind))) fun r7 hr7 => ?_
  apply aA
  (unfold doM lD jS; grind)
 refine aC (aHs _) fun r8 hr8 => ?_
 refine aC (aUt _ (by grind [aF, size_mk, fK, iF]) (by grind [aF, size_mk, fK, iF]) (by grind [aF, size_mk, fK, iF])) fun r9 hr9 => ?_
 refine aC (aSk _ (by grind [aF, size_mk, fK, iF]) (by grind [aF, size_mk, fK, iF]) (by grind [aF, size_mk, fK, iF]) (by grind [aF, size_mk, fK, iF])) fun r10 hr10 => ?_
 refine aC (aMv _ (by grind)) fun r11 hr11 => ?_
 refine aC (rG _ (by first | exact h0 | (refine BooksW.of_eq (b := doM x) (aHm (by grind) (by grind)).1 ?_; unfold doM lD; grind))) fun r12 hr12 => ?_
 apply aA
 (unfold doM lD jS; grind)
end
end Ab
end
section
set_option maxRecDepth 100000
set_option linter.unusedVariables false
namespace Ab
open Go Go.Lib
set_option maxHeartbeats 4000000
attribute [local grind] inb dD eX eH
section
attribute [local grind] aQ aF size_mk
theorem jK (x : aI) : Tot (kJ x) (fun y => y = (decide (x.2.1 ≤ x.1) && decide (x.1 ≤ x.2.2))) := by
 unfold kJ; try dsimp only
 apply aB <;> intro hc
 ·apply aA
  grind
 apply aA
 grind
end
theorem aDq (x : Int) : Tot (sJ x) (fun y => y = (decide (0 ≤ x) && decide (x ≤ 2))) := by
 unfold sJ; try dsimp only
 refine aC (jK _) fun r1 hr1 => ?_
 apply aA
 grind [inb, eH, aQ, aF, size_mk]
theorem aQ2 (x : Int) : Tot (aI5 x) (fun y => y = (decide (0 ≤ x) && decide (x ≤ 31))) := by
 unfold aI5; try dsimp only
 refine aC (jK _) fun r1 hr1 => ?_
 apply aA
 grind [inb, eH, aQ, aF, size_mk]
theorem aFc (x : Int) : Tot (zR x) (fun y => y = (decide (-9999 ≤ x) && decide (x ≤ 9999))) := by
 unfold zR; try dsimp only
 refine aC (jK _) fun r1 hr1 => ?_
 apply aA
 grind [inb, eH, aQ, aF, size_mk]
theorem aGf (x : Int) : Tot (uJ x) (fun y => y = (decide (0 ≤ x) && decide (x ≤ 2))) := by
 unfold uJ; try dsimp only
 refine aC (jK _) fun r1 hr1 => ?_
 apply aA
 grind [inb, eH, aQ, aF, size_mk]
theorem aXo (x : Int) : Tot (aI6 x) (fun y => y = (decide (0 ≤ x) && decide (x ≤ 9))) := by
 unfold aI6; try dsimp only
 refine aC (jK _) fun r1 hr1 => ?_
 apply aA
 grind [inb, eH, aQ, aF, size_mk]
theorem aMz (x : Int) : Tot (aA8 x) (fun y => y = (decide (0 ≤ x) && decide (x ≤ 7))) := by
 unfold aA8; try dsimp only
 refine aC (jK _) fun r1 hr1 => ?_
 apply aA
 grind [inb, eH, aQ, aF, size_mk]
section
attribute [local grind] aQ aF size_mk dB
theorem aQ3 (x : fT) (h0 : x.2.length ≤ 1000000) : Tot (aI7 x) (fun y => (y = true ↔ jA x)) := by
 unfold aI7; try dsimp only
 refine aC (jK _) fun r1 hr1 => ?_
 apply aB <;> intro hc
 ·apply aA
  first | grind [jA] | exact ⟨fun _ => ⟨by grind, by grind, by grind, jR (P := fun o => 0 ≤ o ∧ o ≤ 2) (by grind)⟩, fun _ => rfl⟩
 apply aB <;> intro hc
 ·apply aA
  first | grind [jA] | exact ⟨fun _ => ⟨by grind, by grind, by grind, jR (P := fun o => 0 ≤ o ∧ o ≤ 2) (by grind)⟩, fun _ => rfl⟩
 refine aX (fun z3 => z3 ≤ (x.2.length : Int) ∧ 0 ≤ z3 ∧ (∀ k : Int, 0 ≤ k → k < z3 → 0 ≤ aV x.2 k ∧ aV x.2 k ≤ 2)) (fun z3 => ((x.2.length : Int) - z3).toNat) fun L2 z3 hz2 hL2 => ?_
 apply aB <;> intro hc
 ·refine aH ?_
  refine aC (aDq _) fun r4 hr4 => ?_
  apply aB <;> intro hc
  ·apply aA
   first | grind [jA] | exact ⟨fun _ => ⟨by grind, by grind, by grind, jR (P := fun o => 0 ≤ o ∧ o ≤ 2) (by grind)⟩, fun _ => rfl⟩
  apply hL2 <;> grind
 apply aA
 first | grind [jA] | exact ⟨fun _ => ⟨by grind, by grind, by grind, jR (P := fun o => 0 ≤ o ∧ o ≤ 2) (by grind)⟩, fun _ => rfl⟩
end
theorem aKt (x : List aN) (h0 : x.length ≤ 1000000) : Tot (aA7 x) (fun y => (y = true ↔ eP x)) := by
 unfold aA7; try dsimp only
 apply aB <;> intro hc
 ·apply aA
  first | exact ⟨fun _ => PairsPre.all (i := x) (by grind) (by grind), fun _ => rfl⟩ | (refine ⟨fun h => (by cases h), fun h => absurd (of_decide_eq_true hc) (Int.not_le.2 ?_)⟩; rw [aG, dD (by grind) (by grind)]; exact lN h.2 (by grind) (by grind)) | grind [aQ, aF, size_mk, eP, bN, lN, fK]
 refine eZ (fun z2 => z2 ≤ (x.length : Int) ∧ 0 ≤ z2 ∧ PairsPre x z2) (fun z2 => ((x.length : Int) - z2).toNat) (by exact ⟨by grind, by grind, PairsPre.zero x⟩) (by grind [aQ, aF, size_mk]) fun L1 z2 hz1 hL1 => ?_
 apply aB <;> intro hc
 ·refine dH (by grind [aQ, aF, size_mk]) ?_
  refine aC (aQ2 _) fun r3 hr3 => ?_
  apply aB <;> intro hc
  ·apply aA
   first | exact ⟨fun _ => PairsPre.all (i := z2) (by grind) (by grind), fun _ => rfl⟩ | (refine ⟨fun h => (by cases h), fun h => absurd (of_decide_eq_true hc) (Int.not_le.2 ?_)⟩; rw [aG, dD (by grind) (by grind)]; exact lN h.2 (by grind) (by grind)) | grind [aQ, aF, size_mk, eP, bN, lN, fK]
  refine aC (aFc _) fun r4 hr4 => ?_
  apply aB <;> intro hc
  ·apply aA
   first | exact ⟨fun _ => PairsPre.all (i := z2) (by grind) (by grind), fun _ => rfl⟩ | (refine ⟨fun h => (by cases h), fun h => absurd (of_decide_eq_true hc) (Int.not_le.2 ?_)⟩; rw [aG, dD (by grind) (by grind)]; exact lN h.2 (by grind) (by grind)) | grind [aQ, aF, size_mk, eP, bN, lN, fK]
  apply aB <;> intro hc
  ·refine dH (by grind [aQ, aF, size_mk]) ?_
   apply aB <;> intro hc
   ·apply aA
    first | exact ⟨fun _ => PairsPre.all (i := z2) (by grind) (by grind), fun _ => rfl⟩ | (refine ⟨fun h => (by cases h), fun h => absurd (of_decide_eq_true hc) (Int.not_le.2 ?_)⟩; rw [aG, dD (by grind) (by grind)]; exact lN h.2 (by grind) (by grind)) | grind [aQ, aF, size_mk, eP, bN, lN, fK]
   refine hL1 _ ?_ ?_
   ·(refine ⟨by grind, by grind, ?_⟩; rw [aG, dD (by grind) (by grind)]; exact PairsPre.step (by grind) (by grind) (by grind) (by dsimp only; grind) (fun h => by have hq := of_decide_eq_false hc; first | omega | (rw [aG, dD (by omega) (by omega)] at hq; omega)))
   grind
  refine hL1 _ ?_ ?_
  ·(refine ⟨by grind, by grind, ?_⟩; rw [aG, dD (by grind) (by grind)]; exact PairsPre.step (by grind) (by grind) (by grind) (by dsimp only; grind) (fun h => by have hq := of_decide_eq_false hc; first | omega | (rw [aG, dD (by omega) (by omega)] at hq; omega)))
  grind
 apply aA
 first | exact ⟨fun _ => PairsPre.all (i := z2) (by grind) (by grind), fun _ => rfl⟩ | (refine ⟨fun h => (by cases h), fun h => absurd (of_decide_eq_true hc) (Int.not_le.2 ?_)⟩; rw [aG, dD (by grind) (by grind)]; exact lN h.2 (by grind) (by grind)) | grind [aQ, aF, size_mk, eP, bN, lN, fK]
theorem aPh (x : aN) : Tot (zP x) (fun y => y = (x.2 == 0)) := by
 unfold zP; try dsimp only
 apply aA
 grind [inb, eH, aQ, aF, size_mk]
section
attribute [local grind] aQ aF size_mk bN
theorem uM (x : List aN) (h0 : x.length ≤ 1000000) : Tot (gT x) (fun y => -1 ≤ y ∧ (0 ≤ y → ∃ p ∈ x, p.2 = 0) ∧ (y < 0 → ∀ p ∈ x, p.2 ≠ 0)) := by
 unfold gT; try dsimp only
 refine aX (fun z2 => z2 ≤ (x.length : Int) ∧ 0 ≤ z2 ∧ (∀ k : Int, 0 ≤ k → k < z2 → (bM x k).2 ≠ 0)) (fun z2 => ((x.length : Int) - z2).toNat) fun L1 z2 hz1 hL1 => ?_
 apply aB <;> intro hc
 ·refine aH ?_
  refine aC (aPh _) fun r3 hr3 => ?_
  apply aB <;> intro hc
  ·apply aA
   first | grind | exact ⟨by omega, by omega, fun _ => nS (P := fun p => p.2 ≠ 0) (by grind)⟩
  apply hL1 <;> grind
 apply aA
 first | grind | exact ⟨by omega, by omega, fun _ => nS (P := fun p => p.2 ≠ 0) (by grind)⟩
end
section
attribute [local grind] aQ aF size_mk
theorem rD (x : List aN) (h0 : x.length ≤ 1000000) : Tot (gD x) (fun y => (y = true ↔ ∃ p ∈ x, p.2 = 0)) := by
 unfold gD; try dsimp only
 refine aC (uM _ (by grind)) fun r1 hr1 => ?_
 apply aA
 grind
end
section
attribute [local grind] aQ aF size_mk
theorem aUv (x : List aN) (h0 : x.length ≤ 1000000) : Tot (aFz x) (fun y => (y = true ↔ nT x)) := by
 unfold aFz; try dsimp only
 refine aC (aKt _ (by grind)) fun r1 hr1 => ?_
 apply aB <;> intro hc
 ·refine aC (rD _ (by grind)) fun r2 hr2 => ?_
  apply aA
  grind [nT]
 apply aA
 grind [nT]
end
section
attribute [local grind] aQ aF size_mk dB
theorem aXl (x : List Int) (h0 : x.length ≤ 1000000) : Tot (aI2 x) (fun y => (y = true ↔ aBg x)) := by
 unfold aI2; try dsimp only
 refine aX (fun z2 => z2 ≤ (x.length : Int) ∧ 0 ≤ z2 ∧ (∀ k : Int, 0 ≤ k → k < z2 → -9999 ≤ aV x k ∧ aV x k ≤ 9999)) (fun z2 => ((x.length : Int) - z2).toNat) fun L1 z2 hz1 hL1 => ?_
 apply aB <;> intro hc
 ·refine aH ?_
  refine aC (aFc _) fun r3 hr3 => ?_
  apply aB <;> intro hc
  ·apply aA
   first | grind [aBg] | exact ⟨fun h => ⟨by grind, jR (P := fun v => -9999 ≤ v ∧ v ≤ 9999) (by grind)⟩, by grind [aBg]⟩
  apply hL1 <;> grind
 apply aA
 first | grind [aBg] | exact ⟨fun h => ⟨by grind, jR (P := fun v => -9999 ≤ v ∧ v ≤ 9999) (by grind)⟩, by grind [aBg]⟩
end
section
attribute [local grind] aQ aF size_mk aGv aBg
theorem aXn (x : aY) (h0 : x.2.2.2.length ≤ 1000000) : Tot (aI4 x) (fun y => (y = true ↔ aGv x)) := by
 unfold aI4; try dsimp only
 refine aC (aGf _) fun r1 hr1 => ?_
 apply aB <;> intro hc
 ·refine aC (jK _) fun r2 hr2 => ?_
  apply aB <;> intro hc
  ·refine aC (aXo _) fun r3 hr3 => ?_
   apply aB <;> intro hc
   ·refine aC (aXl _ (by grind)) fun r4 hr4 => ?_
    apply aA
    grind
   apply aA
   grind
  apply aA
  grind
 apply aA
 grind
end
section
attribute [local grind] BooksP
theorem aUy (x : bC) (h0 : BooksW x) : Tot (aF2 x) (fun y => (y = true ↔ BooksP x)) := by
 unfold aF2; try dsimp only
 refine aC (jK _) fun r1 hr1 => ?_
 apply aB <;> intro hc
 ·apply aA
  first | (have hS := SaidsPre.all (x := x.2.2.2.2) (i := x.2) (by grind) (by grind); clear hL4; grind) | (clear hL4; have hw1 := h0.2.2.1; refine ⟨fun h => (by cases h), fun h => absurd (of_decide_eq_true hc) (Int.not_le.2 ?_)⟩; rw [hz4.1, aG, dD (by grind) (by grind)]; exact oH h.2.2.2.2.2 (by grind) (by grind)) | (clear hL4; grind [mU, bL]) | grind
 refine aC (aQ3 _ (by grind [aQ, aF, size_mk, BooksW, bL])) fun r2 hr2 => ?_
 apply aB <;> intro hc
 ·apply aA
  first | (have hS := SaidsPre.all (x := x.2.2.2.2) (i := x.2) (by grind) (by grind); clear hL4; grind) | (clear hL4; have hw1 := h0.2.2.1; refine ⟨fun h => (by cases h), fun h => absurd (of_decide_eq_true hc) (Int.not_le.2 ?_)⟩; rw [hz4.1, aG, dD (by grind) (by grind)]; exact oH h.2.2.2.2.2 (by grind) (by grind)) | (clear hL4; grind [mU, bL]) | grind
 refine aC (aUv _ (by grind [aQ, aF, size_mk, BooksW, bL])) fun r3 hr3 => ?_
 apply aB <;> intro hc
 ·apply aA
  first | (have hS := SaidsPre.all (x := x.2.2.2.2) (i := x.2) (by grind) (by grind); clear hL4; grind) | (clear hL4; have hw1 := h0.2.2.1; refine ⟨fun h => (by cases h), fun h => absurd (of_decide_eq_true hc) (Int.not_le.2 ?_)⟩; rw [hz4.1, aG, dD (by grind) (by grind)]; exact oH h.2.2.2.2.2 (by grind) (by grind)) | (clear hL4; grind [mU, bL]) | grind
 refine eZ (fun z5 => z5.1 = x ∧ z5.2 ≤ (x.2.2.2.2.length : Int) ∧ 0 ≤ z5.2 ∧ SaidsPre x.2.2.2.2 z5.2) (fun z5 => ((x.2.2.2.2.length : Int) - z5.2).toNat) (by exact ⟨by grind, by grind, by grind, SaidsPre.zero _⟩) (by grind [aQ, aF, size_mk, BooksW, bL]) fun L4 z5 hz4 hL4 => ?_
 apply aB <;> intro hc
 ·refine dH (by grind [aQ, aF, size_mk, BooksW, bL]) ?_
  refine aC (aXn _ (by grind [aQ, aF, size_mk, BooksW, bL])) fun r6 hr6 => ?_
  apply aB <;> intro hc
  ·apply aA
   first | (have hS := SaidsPre.all (x := x.2.2.2.2) (i := z5.2) (by grind) (by grind); clear hL4; grind) | (clear hL4; have hw1 := h0.2.2.1; refine ⟨fun h => (by cases h), fun h => absurd (of_decide_eq_true hc) (Int.not_le.2 ?_)⟩; rw [hz4.1, aG, dD (by grind) (by grind)]; exact oH h.2.2.2.2.2 (by grind) (by grind)) | (clear hL4; grind [mU, bL]) | grind
  apply aB <;> intro hc
  ·refine dH (by grind [aQ, aF, size_mk, BooksW, bL]) ?_
   apply aB <;> intro hc
   ·apply aA
    first | (have hS := SaidsPre.all (x := x.2.2.2.2) (i := z5.2) (by grind) (by grind); clear hL4; grind) | (clear hL4; have hw1 := h0.2.2.1; refine ⟨fun h => (by cases h), fun h => absurd (of_decide_eq_true hc) (Int.not_le.2 ?_)⟩; rw [hz4.1, aG, dD (by grind) (by grind)]; exact oH h.2.2.2.2.2 (by grind) (by grind)) | (clear hL4; grind [mU, bL]) | grind
   refine hL4 _ ?_ ?_
   ·(clear hL4; have hw0 := h0.2.2.1; refine ⟨by grind, by grind, by grind, ?_⟩; rw [aG, dD (by grind [BooksW]) (by grind [BooksW])]; exact SaidsPre.step (by grind) (by grind) (by grind) (by dsimp only; grind [aGv, aBg]) (fun h => by have hq := of_decide_eq_false hc; have hw1 := h0.2.2.1; first | omega | (rw [hz4.1, aG, dD (by grind) (by grind)] at hq; omega)))
   (clear hL4; grind [BooksW])
  refine hL4 _ ?_ ?_
  ·(clear hL4; have hw0 := h0.2.2.1; refine ⟨by grind, by grind, by grind, ?_⟩; rw [aG, dD (by grind [BooksW]) (by grind [BooksW])]; exact SaidsPre.step (by grind) (by grind) (by grind) (by dsimp only; grind [aGv, aBg]) (fun h => by have hq := of_decide_eq_false hc; have hw1 := h0.2.2.1; first | omega | (rw [hz4.1, aG, dD (by grind) (by grind)] at hq; omega)))
  (clear hL4; grind [BooksW])
 apply aA
 first | (have hS := SaidsPre.all (x := x.2.2.2.2) (i := z5.2) (by grind) (by grind); clear hL4; grind) | (clear hL4; have hw1 := h0.2.2.1; refine ⟨fun h => (by cases h), fun h => absurd (of_decide_eq_true hc) (Int.not_le.2 ?_)⟩; rw [hz4.1, aG, dD (by grind) (by grind)]; exact oH h.2.2.2.2.2 (by grind) (by grind)) | (clear hL4; grind [mU, bL]) | grind
end
section
attribute [local grind] kL
theorem jJ (x : List Int) (h0 : x.length ≤ 1000000) : Tot (slices_Clone_int x) (fun y => y = x) := by
 unfold slices_Clone_int; try dsimp only
 apply aB <;> intro hc
 ·refine dO (by first | rfl | simp only [dC] | (have e := vW hc; subst e; rfl)) ?_
  apply aA
  first | exact (vW hc).symm | rfl | grind
 refine dH (by grind [aQ, aF, size_mk]) ?_
 apply aA
 first | exact (vW hc).symm | rfl | grind
end
section
attribute [local grind] kL
theorem zY (x : List aN) (h0 : x.length ≤ 1000000) : Tot (jD x) (fun y => y = x) := by
 unfold jD; try dsimp only
 apply aB <;> intro hc
 ·refine dO (by first | rfl | simp only [dC] | (have e := vW hc; subst e; rfl)) ?_
  apply aA
  first | exact (vW hc).symm | rfl | grind
 refine dH (by grind [aQ, aF, size_mk]) ?_
 apply aA
 first | exact (vW hc).symm | rfl | grind
end
section
attribute [local grind] kL
theorem zX (x : List aY) (h0 : x.length ≤ 1000000) : Tot (jC x) (fun y => y = x) := by
 unfold jC; try dsimp only
 apply aB <;> intro hc
 ·refine dO (by first | rfl | simp only [dC] | (have e := vW hc; subst e; rfl)) ?_
  apply aA
  first | exact (vW hc).symm | rfl | grind
 refine dH (by grind [aQ, aF, size_mk]) ?_
 apply aA
 first | exact (vW hc).symm | rfl | grind
end
section
attribute [local grind] aQ aF size_mk BooksW bAx bL
theorem aM1 (x : bC) (h0 : BooksW x) : Tot (vY x) (fun y => y = x) := by
 unfold vY; try dsimp only
 refine aC (jJ _ (by grind)) fun r1 hr1 => ?_
 refine aC (zY _ (by grind)) fun r2 hr2 => ?_
 refine aC (zX _ (by grind)) fun r3 hr3 => ?_
 refine aX (fun z5 => z5.1.1 = x.1 ∧ z5.1.2.1 = x.2.1 ∧ z5.1.2.2.1 = r1 ∧ z5.1.2.2.2.1 = r2 ∧ z5.2.1.1 = 0 ∧ z5.2.1.2.1 = 0 ∧ z5.2.1.2.2.1 = [] ∧ z5.2.1.2.2.2.1 = [] ∧ z5.2.1.2.2.2.2 = [] ∧ z5.2.2 ≤ (r3.length : Int) ∧ 0 ≤ z5.2.2 ∧ z5.1 = x) (fun z5 => ((r3.length : Int) - z5.2.2).toNat) fun L4 z5 hz4 hL4 => ?_
 apply aB <;> intro hc
 ·refine aH ?_
  refine aC (jJ _ (by grind)) fun r6 hr6 => ?_
  refine aH ?_
  apply hL4 <;> grind
 apply aA
 grind
end
theorem aC9 (x : Int) : Tot (cmp_isNaN_int x) (fun y => y = false) := by
 unfold cmp_isNaN_int; try dsimp only
 apply aA
 grind [inb, eH, aQ, aF, size_mk]
section
attribute [local grind] aQ aF size_mk
theorem aHv (x : aN) : Tot (cmp_Compare_int x) (fun y => (y < 0 ↔ x.1 < x.2) ∧ (y = 0 ↔ x.1 = x.2)) := by
 unfold cmp_Compare_int; try dsimp only
 refine aC (aC9 _) fun r1 hr1 => ?_
 refine aC (aC9 _) fun r2 hr2 => ?_
 apply aB <;> intro hc
 ·apply aB <;> intro hc
  ·apply aA
   grind
  apply aA
  grind
 apply aB <;> intro hc
 ·apply aA
  grind
 apply aB <;> intro hc
 ·apply aA
  grind
 apply aB <;> intro hc
 ·apply aA
  grind
 apply aA
 grind
end
theorem aC7 (x : aY × Int) : Tot (oW x) (fun y => (y < 0 ↔ x.1.1 < x.2) ∧ (y = 0 ↔ x.1.1 = x.2)) := by
 unfold oW; try dsimp only
 refine aC (aHv _) fun r1 hr1 => ?_
 apply aA
 grind [inb, eH, aQ, aF, size_mk]
section
attribute [local grind] aOu
theorem oM (x : List aY × Int) (h0 : x.1.length ≤ 1000000) (h1 : aAj x.1) : Tot (fE x) (fun y => mV x.1 x.2 y) := by
 unfold fE; try dsimp only
 refine aX (fun z2 => z2.1 ≤ z2.2 ∧ 0 ≤ z2.1 ∧ z2.1 ≤ z2.2 ∧ z2.2 ≤ x.1.length ∧ (∀ k : Int, 0 ≤ k → k < z2.1 → (aS x.1 k).1 < x.2) ∧ (∀ k : Int, z2.2 ≤ k → k < x.1.length → x.2 ≤ (aS x.1 k).1)) (fun z2 => (z2.2 - z2.1).toNat) fun L1 z2 hz1 hL1 => ?_
 apply aB <;> intro hc
 ·iterate 2 refine aH ?_
  refine aC (aC7 _) fun r4 hr4 => ?_
  apply aB <;> intro hc
  ·refine hL1 _ ?_ ?_
   ·(clear hL1; have hm := aOu (a := z2.1) (b := z2.2) (by grind) (by grind) (by grind) (by grind); have hlt : z2.1 < z2.2 := (by grind); (try rw [hm]); have hb1 : z2.1 ≤ (z2.1 + z2.2) / 2 := (by omega); have hb2 : (z2.1 + z2.2) / 2 < z2.2 := (by omega); have hw : aG ((z2.1 + z2.2) / 2 + 1) = (z2.1 + z2.2) / 2 + 1 := dD (by omega) (by omega); first | exact ⟨by grind, by grind, by grind, by grind, by rw [hw]; exact bAg h1 (by omega) (by omega) (by have hq := hr4.1.1 (of_decide_eq_true hc); dsimp only at hq; rw [hm] at hq; exact hq), hz1.2.2.2.2.2⟩ | exact ⟨by grind, by grind, by grind, by grind, hz1.2.2.2.2.1, bAh h1 (by omega) (Int.not_lt.1 fun hx => of_decide_eq_false hc (hr4.1.2 (by dsimp only; rw [hm]; exact hx)))⟩)
   (clear hL1; have hm := aOu (a := z2.1) (b := z2.2) (by grind) (by grind) (by grind) (by grind); have hlt : z2.1 < z2.2 := (by grind); rw [hm]; first | omega | (rw [show aG ((z2.1 + z2.2) / 2 + 1) = (z2.1 + z2.2) / 2 + 1 from dD (by omega) (by omega)]; dsimp only; omega) | (dsimp only; omega))
  refine hL1 _ ?_ ?_
  ·(clear hL1; have hm := aOu (a := z2.1) (b := z2.2) (by grind) (by grind) (by grind) (by grind); have hlt : z2.1 < z2.2 := (by grind); (try rw [hm]); have hb1 : z2.1 ≤ (z2.1 + z2.2) / 2 := (by omega); have hb2 : (z2.1 + z2.2) / 2 < z2.2 := (by omega); have hw : aG ((z2.1 + z2.2) / 2 + 1) = (z2.1 + z2.2) / 2 + 1 := dD (by omega) (by omega); first | exact ⟨by grind, by grind, by grind, by grind, by rw [hw]; exact bAg h1 (by omega) (by omega) (by have hq := hr4.1.1 (of_decide_eq_true hc); dsimp only at hq; rw [hm] at hq; exact hq), hz1.2.2.2.2.2⟩ | exact ⟨by grind, by grind, by grind, by grind, hz1.2.2.2.2.1, bAh h1 (by omega) (Int.not_lt.1 fun hx => of_decide_eq_false hc (hr4.1.2 (by dsimp only; rw [hm]; exact hx)))⟩)
  (clear hL1; have hm := aOu (a := z2.1) (b := z2.2) (by grind) (by grind) (by grind) (by grind); have hlt : z2.1 < z2.2 := (by grind); rw [hm]; first | omega | (rw [show aG ((z2.1 + z2.2) / 2 + 1) = (z2.1 + z2.2) / 2 + 1 from dD (by omega) (by omega)]; dsimp only; omega) | (dsimp only; omega))
 apply aB <;> intro hc
 ·refine aH ?_
  refine aC (aC7 _) fun r5 hr5 => ?_
  apply aA
  (clear hL1; grind [mV])
 apply aA
 (clear hL1; grind [mV])
end
section
attribute [local grind] aQ aF size_mk
theorem aPi (x : List aY × Int) (h0 : x.1.length ≤ 1000000) (h1 : aAj x.1) : Tot (zQ x) (fun y => mV x.1 x.2 y) := by
 unfold zQ; try dsimp only
 refine aC (oM _ (by grind) (by grind)) fun r1 hr1 => ?_
 apply aA
 grind
end
section
attribute [local grind] aQ aF size_mk
theorem rE (x : List ByteArray × ByteArray) (h0 : x.1.length ≤ 1000000) : Tot (slices_Index_string x) (fun y => -1 ≤ y ∧ y < x.1.length ∧ (0 ≤ y → eqS x.2 (gP x.1 y) = true) ∧ (∀ k : Int, 0 ≤ k → k < (if y < 0 then (x.1.length : Int) else y) → eqS x.2 (gP x.1 k) = false)) := by
 unfold slices_Index_string; try dsimp only
 refine aX (fun z2 => z2 ≤ (x.1.length : Int) ∧ 0 ≤ z2 ∧ (∀ k : Int, 0 ≤ k → k < z2 → eqS x.2 (gP x.1 k) = false)) (fun z2 => ((x.1.length : Int) - z2).toNat) fun L1 z2 hz1 hL1 => ?_
 apply aB <;> intro hc
 ·refine aH ?_
  apply aB <;> intro hc
  ·apply aA
   grind
  apply hL1 <;> grind
 apply aA
 grind
end
section
attribute [local grind] aQ aF size_mk iX
theorem aGy (x : ByteArray) (h0 : x.size ≤ 1000) : Tot (iZ x) (fun y => True) := by
 unfold iZ; try dsimp only
 refine aC (aC6 _ (by grind) (by grind)) fun r1 hr1 => ?_
 refine aH ?_
 refine aC (rE _ (by grind)) fun r2 hr2 => ?_
 refine bF (P := fun (z7 : aI × Int) => z7.2 = 1 ∨ z7.2 = 2) ?_ fun z7 hz7j => ?_
 ·apply aB <;> intro hc
  ·apply aA
   grind
  apply aA
  grind
 apply aB <;> intro hc
 ·apply aA
  grind
 apply aB <;> intro hc
 ·apply aA
  grind
 refine aH ?_
 refine aC (qI _ (by first | grind | (have := hr1.1; exact Nat.le_trans (aF8 hr1.1 _ (iX (by omega) (by grind))) (by grind)))) fun r8 hr8 => ?_
 apply aB <;> intro hc
 ·apply aA
  grind
 apply aB <;> intro hc
 ·refine aH ?_
  refine aC (qI _ (by first | grind | (have := hr1.1; exact Nat.le_trans (aF8 hr1.1 _ (iX (by omega) (by grind))) (by grind)))) fun r9 hr9 => ?_
  apply aB <;> intro hc
  ·apply aA
   grind
  apply aA
  grind
 apply aA
 grind
end
theorem aGx (s : aI) (x : ByteArray) (h0 : eD s) (h1 : bs x = kX s) (h2 : x.size ≤ 1000) : Tot (iZ x) (fun y => y = (s, true)) := by
 unfold iZ; try dsimp only
 refine aC (aC6 _ (by grind [aQ, aF, size_mk, iX]) (by grind [aQ, aF, size_mk, iX])) fun r1 hr1 => ?_
 refine dH (by grind [aQ, aF, size_mk, iX]) ?_
 refine aC (rE _ (by grind [aQ, aF, size_mk, iX])) fun r2 hr2 => ?_
 refine bF (P := fun (z7 : aI × Int) => z7 = ((0, (0, 0)), (if s.1 = 1 then 1 else 2))) ?_ fun z7 hz7j => ?_
 ·apply aB <;> intro hc
  ·apply aA
   (have hW : Words r1 s := Words.of hr1.1 h1; have a1 := h0.1; have a2 := h0.2.1; have hi := nM hW h0.1 h0.2.1 hr2.1 hr2.2.1 hr2.2.2.1 hr2.2.2.2; have hwi : aG (1 + r2) = s.1 := (by rw [hi, aG, dD (by omega) (by omega)]; omega); have hl := hW.len; have hw1 := hW.w1; have hw2 := hW.w2; unfold eD at h0; clear hi; grind)
  apply aA
  (have hW : Words r1 s := Words.of hr1.1 h1; have a1 := h0.1; have a2 := h0.2.1; have hi := nM hW h0.1 h0.2.1 hr2.1 hr2.2.1 hr2.2.2.1 hr2.2.2.2; have hwi : aG (1 + r2) = s.1 := (by rw [hi, aG, dD (by omega) (by omega)]; omega); have hl := hW.len; have hw1 := hW.w1; have hw2 := hW.w2; unfold eD at h0; clear hi; grind)
 apply aB <;> intro hc
 ·apply aA
  (have hW : Words r1 s := Words.of hr1.1 h1; have a1 := h0.1; have a2 := h0.2.1; have hi := nM hW h0.1 h0.2.1 hr2.1 hr2.2.1 hr2.2.2.1 hr2.2.2.2; have hwi : aG (1 + r2) = s.1 := (by rw [hi, aG, dD (by omega) (by omega)]; omega); have hl := hW.len; have hw1 := hW.w1; have hw2 := hW.w2; unfold eD at h0; clear hi; grind)
 apply aB <;> intro hc
 ·apply aA
  (have hW : Words r1 s := Words.of hr1.1 h1; have a1 := h0.1; have a2 := h0.2.1; have hi := nM hW h0.1 h0.2.1 hr2.1 hr2.2.1 hr2.2.2.1 hr2.2.2.2; have hwi : aG (1 + r2) = s.1 := (by rw [hi, aG, dD (by omega) (by omega)]; omega); have hl := hW.len; have hw1 := hW.w1; have hw2 := hW.w2; unfold eD at h0; clear hi; grind)
 refine dH (by grind [aQ, aF, size_mk, iX]) ?_
 refine aC (qI _ (by first | grind | (have := hr1.1; exact Nat.le_trans (aF8 hr1.1 _ (iX (by omega) (by grind))) (by grind)))) fun r8 hr8 => ?_
 apply aB <;> intro hc
 ·apply aA
  (have hW : Words r1 s := Words.of hr1.1 h1; have a1 := h0.1; have a2 := h0.2.1; have hi := nM hW h0.1 h0.2.1 hr2.1 hr2.2.1 hr2.2.2.1 hr2.2.2.2; have hwi : aG (1 + r2) = s.1 := (by rw [hi, aG, dD (by omega) (by omega)]; omega); have hl := hW.len; have hw1 := hW.w1; have hw2 := hW.w2; unfold eD at h0; clear hi; grind)
 apply aB <;> intro hc
 ·refine dH (by grind [aQ, aF, size_mk, iX]) ?_
  refine aC (qI _ (by first | grind | (have := hr1.1; exact Nat.le_trans (aF8 hr1.1 _ (iX (by omega) (by grind))) (by grind)))) fun r9 hr9 => ?_
  apply aB <;> intro hc
  ·apply aA
   (have hW : Words r1 s := Words.of hr1.1 h1; have a1 := h0.1; have a2 := h0.2.1; have hi := nM hW h0.1 h0.2.1 hr2.1 hr2.2.1 hr2.2.2.1 hr2.2.2.2; have hwi : aG (1 + r2) = s.1 := (by rw [hi, aG, dD (by omega) (by omega)]; omega); have hl := hW.len; have hw1 := hW.w1; have hw2 := hW.w2; unfold eD at h0; clear hi; grind)
  apply aA
  (have hW : Words r1 s := Words.of hr1.1 h1; have a1 := h0.1; have a2 := h0.2.1; have hi := nM hW h0.1 h0.2.1 hr2.1 hr2.2.1 hr2.2.2.1 hr2.2.2.2; have hwi : aG (1 + r2) = s.1 := (by rw [hi, aG, dD (by omega) (by omega)]; omega); have hl := hW.len; have hw1 := hW.w1; have hw2 := hW.w2; unfold eD at h0; clear hi; grind)
 apply aA
 (have hW : Words r1 s := Words.of hr1.1 h1; have a1 := h0.1; have a2 := h0.2.1; have hi := nM hW h0.1 h0.2.1 hr2.1 hr2.2.1 hr2.2.2.1 hr2.2.2.2; have hwi : aG (1 + r2) = s.1 := (by rw [hi, aG, dD (by omega) (by omega)]; omega); have hl := hW.len; have hw1 := hW.w1; have hw2 := hW.w2; unfold eD at h0; clear hi; grind)
theorem yH (x : ByteArray) (h0 : x.size ≤ 1000) : Tot (iZ x) (fun y => ∀ s, eD s → bs x = kX s → y = (s, true)) := by
 obtain ⟨y, e, _⟩ := aGy x h0
 refine ⟨y, e, fun s hs hx => ?_⟩
 obtain ⟨z, e2, hz⟩ := aGx s x hs hx h0
 rw [e] at e2
 exact (Option.some.inj e2).trans hz
section
attribute [local grind] aQ aF size_mk eD pF
theorem aXm (x : aI) : Tot (aI3 x) (fun y => (y.2 = true ↔ eD x) ∧ (y.2 = true → y.1 = pF x)) := by
 unfold aI3; try dsimp only
 refine aC (aQ2 _) fun r1 hr1 => ?_
 apply aB <;> intro hc
 ·apply aA
  grind
 refine aC (aFc _) fun r2 hr2 => ?_
 apply aB <;> intro hc
 ·apply aA
  grind
 apply aB <;> intro hc
 ·apply aA
  grind
 apply aB <;> intro hc
 ·apply aA
  grind
 apply aB <;> intro hc
 ·apply aA
  grind
 apply aB <;> intro hc
 ·apply aA
  grind
 apply aA
 grind
end
section
attribute [local grind] aQ aF size_mk bFh aHe bR
theorem aDo (x : List aI) (h0 : x.length ≤ 1000000) : Tot (wO x) (fun y => (y.2 = true ↔ fB x) ∧ (y.2 = true → y.1 = x.map pF)) := by
 unfold wO; try dsimp only
 refine aC (jK _) fun r1 hr1 => ?_
 apply aB <;> intro hc
 ·apply aA
  first | grind [fB] | exact ⟨⟨fun _ => ⟨by grind, by grind, bQ (P := eD) (by grind)⟩, fun _ => rfl⟩, fun _ => by grind [bY]⟩
 refine aH ?_
 refine aX (fun z3 => z3.2 ≤ (x.length : Int) ∧ 0 ≤ z3.2 ∧ z3.1.length = z3.2 ∧ z3.1 = (x.take z3.2.toNat).map pF ∧ (∀ k : Int, 0 ≤ k → k < z3.2 → eD (aJ x k))) (fun z3 => ((x.length : Int) - z3.2).toNat) fun L2 z3 hz2 hL2 => ?_
 apply aB <;> intro hc
 ·refine aH ?_
  refine aC (aXm _) fun r4 hr4 => ?_
  apply aB <;> intro hc
  ·apply aA
   first | grind [fB] | exact ⟨⟨fun _ => ⟨by grind, by grind, bQ (P := eD) (by grind)⟩, fun _ => rfl⟩, fun _ => by grind [bY]⟩
  refine aH ?_
  apply hL2 <;> grind
 apply aA
 first | grind [fB] | exact ⟨⟨fun _ => ⟨by grind, by grind, bQ (P := eD) (by grind)⟩, fun _ => rfl⟩, fun _ => by grind [bY]⟩
end
section
attribute [local grind] aQ aF size_mk
theorem aM2 (x : List aI) (h0 : x.length ≤ 1000000) : Tot (aI8 x) (fun y => (y = true ↔ fB x)) := by
 unfold aI8; try dsimp only
 refine aC (aDo _ (by grind)) fun r1 hr1 => ?_
 apply aA
 grind
end
section
attribute [local grind] aQ aF size_mk bDb
theorem aJr (x : Int) (h0 : 0 ≤ x) (h1 : x ≤ 31) : Tot (lJ x) (fun y => bs y = mY 1 ++ 32 :: itoa x ++ [59] ∧ y.size ≤ 30) := by
 unfold lJ; try dsimp only
 refine aC (wQ _ (by grind) (by grind)) fun r1 hr1 => ?_
 iterate 2 refine aH ?_
 apply aA
 (refine ⟨?_, by grind⟩; rw [oL, oL, hr1.1]; rfl)
end
section
attribute [local grind] aQ aF size_mk
theorem aDp (x : ByteArray × Int × Int) (h0 : x.1.size ≤ 10) (h1 : -9999 ≤ x.2.1) (h2 : x.2.1 ≤ 9999) (h3 : -9999 ≤ x.2.2) (h4 : x.2.2 ≤ 9999) : Tot (wP x) (fun y => bs y = bs x.1 ++ 32 :: itoa x.2.1 ++ 32 :: itoa x.2.2 ++ [59] ∧ y.size ≤ 40) := by
 unfold wP; try dsimp only
 refine aH ?_
 refine aC (wQ _ (by grind) (by grind)) fun r1 hr1 => ?_
 iterate 2 refine aH ?_
 refine aC (wQ _ (by grind) (by grind)) fun r3 hr3 => ?_
 iterate 2 refine aH ?_
 apply aA
 (refine ⟨?_, by grind⟩; rw [oL, oL, oL, oL, oL, hr1.1, hr3.1]; simp [show bs (⟨#[32]⟩ : ByteArray) = [32] from rfl, show bs (⟨#[59]⟩ : ByteArray) = [59] from rfl])
end
section
attribute [local grind] aQ aF size_mk
theorem aJq (x : aN) (h0 : 0 ≤ x.1) (h1 : x.1 ≤ 31) (h2 : -9999 ≤ x.2) (h3 : x.2 ≤ 9999) : Tot (lI x) (fun y => bs y = mY 2 ++ 32 :: itoa x.1 ++ 32 :: itoa x.2 ++ [59] ∧ y.size ≤ 40) := by
 unfold lI; try dsimp only
 refine aC (aDp _ (by grind) (by grind) (by grind) (by grind) (by grind)) fun r1 hr1 => ?_
 apply aA
 exact ⟨hr1.1, hr1.2⟩
end
section
attribute [local grind] aQ aF size_mk
theorem aJs (x : aN) (h0 : 0 ≤ x.1) (h1 : x.1 ≤ 31) (h2 : -9999 ≤ x.2) (h3 : x.2 ≤ 9999) : Tot (lK x) (fun y => bs y = mY 3 ++ 32 :: itoa x.1 ++ 32 :: itoa x.2 ++ [59] ∧ y.size ≤ 40) := by
 unfold lK; try dsimp only
 refine aC (aDp _ (by grind) (by grind) (by grind) (by grind) (by grind)) fun r1 hr1 => ?_
 apply aA
 exact ⟨hr1.1, hr1.2⟩
end
section
attribute [local grind] aQ aF size_mk
theorem aHt (x : aN) (h0 : 0 ≤ x.1) (h1 : x.1 ≤ 31) (h2 : -9999 ≤ x.2) (h3 : x.2 ≤ 9999) : Tot (jX x) (fun y => bs y = mY 4 ++ 32 :: itoa x.1 ++ 32 :: itoa x.2 ++ [59] ∧ y.size ≤ 40) := by
 unfold jX; try dsimp only
 refine aC (aDp _ (by grind) (by grind) (by grind) (by grind) (by grind)) fun r1 hr1 => ?_
 apply aA
 exact ⟨hr1.1, hr1.2⟩
end
theorem aGg (x : List aI) (h0 : x.length ≤ 1000000) : Tot (zS x) (fun y => (fB x → bs y = eO x) ∧ (¬ fB x → bs y = [])) := by
 unfold zS aCw
 refine aC (aDo x h0) fun r hr => ?_
 refine aB (fun hc => aA ⟨fun hd => ?_, fun _ => rfl⟩) fun hc => ?_
 ·have := hr.1.2 hd; rw [this] at hc; cases hc
 have ht : r.2 = true := by
  cases hb : r.2 with
  | true => rfl
  | false => rw [hb] at hc; cases hc
 have hd := hr.1.1 ht
 rw [hr.2 ht]
 have one : ∀ s, eD s → Tot (qK lJ lI lK jX (pF s)) (fun t => bs t = kX s ++ [59] ∧ t.size ≤ 40) := by
  intro s hs
  obtain ⟨a, b, c, d, e, f, g⟩ := hs
  have hk : s.1 = 1 ∨ s.1 = 2 ∨ s.1 = 3 ∨ s.1 = 4 := by omega
  unfold pF kX
  rcases hk with h | h | h | h <;> rw [h]
  ·refine (aJr s.2.1 c d).mono fun y hy => ⟨?_, by omega⟩
   rw [hy.1]; simp
  ·refine (aJq s.2 c d e f).mono fun y hy => ⟨?_, hy.2⟩
   rw [hy.1]; simp
  ·refine (aJs s.2 c d e f).mono fun y hy => ⟨?_, hy.2⟩
   rw [hy.1]; simp
  ·refine (aHt s.2 c d e f).mono fun y hy => ⟨?_, hy.2⟩
   rw [hy.1]; simp
 have key : ∀ (l : List aI) (acc : ByteArray), (∀ s ∈ l, eD s) → acc.size + 40 * l.length ≤ 1000000 → Tot (mW (qK lJ lI lK jX) (l.map pF) acc) (fun y => bs y = bs acc ++ eO l) := by
  intro l
  induction l with
  | nil => intro acc _ _; exact aA (by simp [eO])
  | cons s l ih =>
   intro acc hl hs
   simp only [List.length_cons] at hs
   obtain ⟨t, e, h1, h2⟩ := one s (hl s List.mem_cons_self)
   rw [List.map_cons, mW, e, Option.bind_some]
   refine dH (decide_eq_true (by omega)) ((ih (acc ++ t) (fun q hq => hl q (List.mem_cons_of_mem _ hq)) (by rw [aF]; omega)).mono fun y hy => ?_)
   rw [hy, oL, h1]; simp [eO]
 refine (key x emptyS hd.2.2 (by have := hd.2.1; show 0 + _ ≤ _; omega)).mono fun y hy => ⟨fun _ => by rw [hy]; rfl, fun hn => absurd hd hn⟩
section
attribute [local grind] aQ aF size_mk
theorem aPf (x : ByteArray) : Tot (nO x) (fun y => (y.2 = true → fB y.1 ∧ eO y.1 = bs x ∧ x.size ≤ 80) ∧ (y.2 = false → y.1 = [])) := by
 unfold nO; try dsimp only
 apply aB <;> intro hc
 ·apply aA
  first | grind | (refine ⟨fun _ => ?_, fun h => (by cases h)⟩; have hq := dR.1 (show eqS x x = true by grind); have hd : fB x.1 := (by grind); exact ⟨hd, by rw [← hx.1 hd, hq], by grind⟩)
 refine aX (fun z2 => z2.2.size ≤ 80 ∧ z2.1.length + z2.2.size ≤ 80) (fun z2 => z2.2.size) fun L1 z2 hz1 hL1 => ?_
 apply aB <;> intro hc
 ·refine aC (aGe _ (by grind) (by grind)) fun r3 hr3 => ?_
  refine aC (yH _ (by grind)) fun r4 hr4 => ?_
  apply aB <;> intro hc
  ·apply aA
   first | grind | (refine ⟨fun _ => ?_, fun h => (by cases h)⟩; have hq := dR.1 (show eqS x x = true by grind); have hd : fB z2.1 := (by grind); exact ⟨hd, by rw [← hx.1 hd, hq], by grind⟩)
  apply aB <;> intro hc
  ·apply aA
   first | grind | (refine ⟨fun _ => ?_, fun h => (by cases h)⟩; have hq := dR.1 (show eqS x x = true by grind); have hd : fB z2.1 := (by grind); exact ⟨hd, by rw [← hx.1 hd, hq], by grind⟩)
  refine aH ?_
  apply hL1 <;> grind
 refine aC (aM2 _ (by grind)) fun r5 hr5 => ?_
 apply aB <;> intro hc
 ·apply aA
  first | grind | (refine ⟨fun _ => ?_, fun h => (by cases h)⟩; have hq := dR.1 (show eqS x x = true by grind); have hd : fB z2.1 := (by grind); exact ⟨hd, by rw [← hx.1 hd, hq], by grind⟩)
 refine aC (aGg _ (by grind)) fun r6 hr6 => ?_
 apply aB <;> intro hc
 ·apply aA
  first | grind | (refine ⟨fun _ => ?_, fun h => (by cases h)⟩; have hq := dR.1 (show eqS r6 x = true by grind); have hd : fB z2.1 := (by grind); exact ⟨hd, by rw [← hr6.1 hd, hq], by grind⟩)
 apply aA
 first | grind | (refine ⟨fun _ => ?_, fun h => (by cases h)⟩; have hq := dR.1 (show eqS r6 x = true by grind); have hd : fB z2.1 := (by grind); exact ⟨hd, by rw [← hr6.1 hd, hq], by grind⟩)
end
section
attribute [local grind] dR
theorem aPd (L : List aI) (x : ByteArray) (h0 : fB L) (h1 : eO L = bs x) (h2 : x.size ≤ 80) : Tot (nO x) (fun y => y = (L, true)) := by
 unfold nO; try dsimp only
 apply aB <;> intro hc
 ·apply aA
  first | (exfalso; grind) | (exfalso; clear hL1; obtain ⟨hs0, k, hk, e1, e2⟩ := hz1; obtain ⟨s, hsL, hkl, ht, hb⟩ := rest_step hk e2 (fun e => by grind); have hcut := hx.2.2 (kX s) (eO (L.drop (k + 1))) hb (pV s); have hr := hx s (h0.2.2 s hsL) hcut.1; grind) | (clear hL1; obtain ⟨hs0, k, hk, e1, e2⟩ := hz1; have he : x.2 = emptyS := dR.1 (by grind); have hkl : k = L.length := Classical.byContradiction (fun hn => by have hd := List.drop_eq_getElem_cons (show k < L.length by omega); rw [he, hd] at e2; simp [eO, jP] at e2); subst hkl; have hq : x.1 = L := (by rw [e1]; exact List.take_length); first | (have hd : fB x.1 := (by rw [hq]; exact h0); have hb := hx.1 hd; rw [hq, h1] at hb; have := dR.2 (oK hb); grind) | (exfalso; grind) | grind)
 refine eZ (fun z2 => z2.2.size ≤ 80 ∧ (∃ k : Nat, k ≤ L.length ∧ z2.1 = L.take k ∧ bs z2.2 = eO (L.drop k))) (fun z2 => z2.2.size) (by exact ⟨h2, 0, Nat.zero_le _, rfl, h1.symm⟩) (by grind [aQ, aF, size_mk]) fun L1 z2 hz1 hL1 => ?_
 apply aB <;> intro hc
 ·refine aC (aGe _ (by grind [aQ, aF, size_mk]) (by grind [aQ, aF, size_mk])) fun r3 hr3 => ?_
  refine aC (yH _ (by grind [aQ, aF, size_mk])) fun r4 hr4 => ?_
  apply aB <;> intro hc
  ·apply aA
   first | (exfalso; grind) | (exfalso; clear hL1; obtain ⟨hs0, k, hk, e1, e2⟩ := hz1; obtain ⟨s, hsL, hkl, ht, hb⟩ := rest_step hk e2 (fun e => by grind); have hcut := hr3.2.2 (kX s) (eO (L.drop (k + 1))) hb (pV s); have hr := hr4 s (h0.2.2 s hsL) hcut.1; grind) | (clear hL1; obtain ⟨hs0, k, hk, e1, e2⟩ := hz1; have he : z2.2 = emptyS := dR.1 (by grind); have hkl : k = L.length := Classical.byContradiction (fun hn => by have hd := List.drop_eq_getElem_cons (show k < L.length by omega); rw [he, hd] at e2; simp [eO, jP] at e2); subst hkl; have hq : z2.1 = L := (by rw [e1]; exact List.take_length); first | (have hd : fB z2.1 := (by rw [hq]; exact h0); have hb := hx.1 hd; rw [hq, h1] at hb; have := dR.2 (oK hb); grind) | (exfalso; grind) | grind)
  apply aB <;> intro hc
  ·apply aA
   first | (exfalso; grind) | (exfalso; clear hL1; obtain ⟨hs0, k, hk, e1, e2⟩ := hz1; obtain ⟨s, hsL, hkl, ht, hb⟩ := rest_step hk e2 (fun e => by grind); have hcut := hr3.2.2 (kX s) (eO (L.drop (k + 1))) hb (pV s); have hr := hr4 s (h0.2.2 s hsL) hcut.1; grind) | (clear hL1; obtain ⟨hs0, k, hk, e1, e2⟩ := hz1; have he : z2.2 = emptyS := dR.1 (by grind); have hkl : k = L.length := Classical.byContradiction (fun hn => by have hd := List.drop_eq_getElem_cons (show k < L.length by omega); rw [he, hd] at e2; simp [eO, jP] at e2); subst hkl; have hq : z2.1 = L := (by rw [e1]; exact List.take_length); first | (have hd : fB z2.1 := (by rw [hq]; exact h0); have hb := hx.1 hd; rw [hq, h1] at hb; have := dR.2 (oK hb); grind) | (exfalso; grind) | grind)
  refine dH (by first | grind | (obtain ⟨hs0, k, hk, e1, e2⟩ := hz1; have := h0.2.1; refine eX ?_; rw [e1, List.length_take]; simp; omega)) ?_
  refine hL1 _ ?_ ?_
  ·(clear hL1; obtain ⟨hs0, k, hk, e1, e2⟩ := hz1; obtain ⟨s, hsL, hkl, ht, hb⟩ := rest_step hk e2 (fun e => by grind); have hcut := hr3.2.2 (kX s) (eO (L.drop (k + 1))) hb (pV s); have hr := hr4 s (h0.2.2 s hsL) hcut.1; refine ⟨by grind, k + 1, hkl, by rw [hr, ht, e1], hcut.2.1⟩)
  (clear hL1; grind)
 refine aC (aM2 _ (by first | grind | (obtain ⟨hs0, k, hk, e1, e2⟩ := hz1; rw [e1, List.length_take]; have := h0.2.1; omega))) fun r5 hr5 => ?_
 apply aB <;> intro hc
 ·apply aA
  first | (exfalso; grind) | (exfalso; clear hL1; obtain ⟨hs0, k, hk, e1, e2⟩ := hz1; obtain ⟨s, hsL, hkl, ht, hb⟩ := rest_step hk e2 (fun e => by grind); have hcut := hr3.2.2 (kX s) (eO (L.drop (k + 1))) hb (pV s); have hr := hr4 s (h0.2.2 s hsL) hcut.1; grind) | (clear hL1; obtain ⟨hs0, k, hk, e1, e2⟩ := hz1; have he : z2.2 = emptyS := dR.1 (by grind); have hkl : k = L.length := Classical.byContradiction (fun hn => by have hd := List.drop_eq_getElem_cons (show k < L.length by omega); rw [he, hd] at e2; simp [eO, jP] at e2); subst hkl; have hq : z2.1 = L := (by rw [e1]; exact List.take_length); first | (have hd : fB z2.1 := (by rw [hq]; exact h0); have hb := hx.1 hd; rw [hq, h1] at hb; have := dR.2 (oK hb); grind) | (exfalso; grind) | grind)
 refine aC (aGg _ (by first | grind | (obtain ⟨hs0, k, hk, e1, e2⟩ := hz1; rw [e1, List.length_take]; have := h0.2.1; omega))) fun r6 hr6 => ?_
 apply aB <;> intro hc
 ·apply aA
  first | (exfalso; grind) | (exfalso; clear hL1; obtain ⟨hs0, k, hk, e1, e2⟩ := hz1; obtain ⟨s, hsL, hkl, ht, hb⟩ := rest_step hk e2 (fun e => by grind); have hcut := hr3.2.2 (kX s) (eO (L.drop (k + 1))) hb (pV s); have hr := hr4 s (h0.2.2 s hsL) hcut.1; grind) | (clear hL1; obtain ⟨hs0, k, hk, e1, e2⟩ := hz1; have he : z2.2 = emptyS := dR.1 (by grind); have hkl : k = L.length := Classical.byContradiction (fun hn => by have hd := List.drop_eq_getElem_cons (show k < L.length by omega); rw [he, hd] at e2; simp [eO, jP] at e2); subst hkl; have hq : z2.1 = L := (by rw [e1]; exact List.take_length); first | (have hd : fB z2.1 := (by rw [hq]; exact h0); have hb := hr6.1 hd; rw [hq, h1] at hb; have := dR.2 (oK hb); grind) | (exfalso; grind) | grind)
 apply aA
 first | (exfalso; grind) | (exfalso; clear hL1; obtain ⟨hs0, k, hk, e1, e2⟩ := hz1; obtain ⟨s, hsL, hkl, ht, hb⟩ := rest_step hk e2 (fun e => by grind); have hcut := hr3.2.2 (kX s) (eO (L.drop (k + 1))) hb (pV s); have hr := hr4 s (h0.2.2 s hsL) hcut.1; grind) | (clear hL1; obtain ⟨hs0, k, hk, e1, e2⟩ := hz1; have he : z2.2 = emptyS := dR.1 (by grind); have hkl : k = L.length := Classical.byContradiction (fun hn => by have hd := List.drop_eq_getElem_cons (show k < L.length by omega); rw [he, hd] at e2; simp [eO, jP] at e2); subst hkl; have hq : z2.1 = L := (by rw [e1]; exact List.take_length); first | (have hd : fB z2.1 := (by rw [hq]; exact h0); have hb := hr6.1 hd; rw [hq, h1] at hb; have := dR.2 (oK hb); grind) | (exfalso; grind) | grind)
end
theorem aHu (x : ByteArray) : Tot (nO x) (fun y => y = fP x) := by
 obtain ⟨y, e, h1, h2⟩ := aPf x
 refine ⟨y, e, aVr ⟨fun h => ⟨(h1 h).1, (h1 h).2.1⟩, h2, fun L hL hw hs => ?_⟩ ?_⟩
 ·obtain ⟨z, e2, hz⟩ := aPd L x hL hw hs
  rw [e] at e2
  exact (Option.some.inj e2).trans hz
 cases hb : y.2 with
 | true => exact .inl (h1 hb).2.2
 | false => exact .inr rfl
section
attribute [local grind] aQ aF size_mk gG dR
theorem aXp (x : bO) : Tot (aI9 x) (fun y => (y = true ↔ gG x)) := by
 unfold aI9; try dsimp only
 refine aC (aGf _) fun r1 hr1 => ?_
 apply aB <;> intro hc
 ·apply aA
  grind
 refine aC (jK _) fun r2 hr2 => ?_
 apply aB <;> intro hc
 ·apply aA
  grind
 apply aB <;> intro hc
 ·refine aC (aHu _) fun r3 hr3 => ?_
  apply aB <;> intro hc
  ·apply aB <;> intro hc
   ·apply aA
    grind
   apply aA
   grind
  apply aA
  grind
 apply aB <;> intro hc
 ·apply aB <;> intro hc
  ·refine aC (aMz _) fun r4 hr4 => ?_
   apply aB <;> intro hc
   ·refine aC (aDq _) fun r5 hr5 => ?_
    apply aA
    grind
   apply aA
   grind
  apply aA
  grind
 apply aA
 grind
end
end Ab
end
