/-
A part of the proof: pure functions told of the program, and laws about them.
-/
import Derived.Test.YtpkhfddccaljiaaGreatDoorA03
import Derived.LoopN
import Derived.IntWalk
import Derived.KernelRfl
import Derived.Lib.AtoiAll
import Derived.Lib.ItoaNum
import Derived.Shelf.Strings.Split
import Derived.Shelf.Strings.Cut
set_option linter.all false
section
namespace Ab
open Go
section
variable {P : Program} {E : Env} {C : Cx} {σ : St} {ρ : Nat → Loc} {pr : dU} {f : Nat → Value} {w : World} {a : Act} {o : Oper} {g : Nat → Value} {n : Nat} {R : Type} {ops : Array Oper}
def Cx.now (σ : St) (ρ : Nat → Loc) (pr : dU) (w : World) : Cx := ⟨w, fun b => ∃ k, own σ.obj ρ k = some b, pr⟩
theorem Mo.rebase (M : Mo C σ ρ pr f w) : Mo (Cx.now σ ρ pr w) σ ρ pr f w :=
  { sl := M.sl, hp := M.hp, inj := M.inj, prot := M.prot, os := rfl, tape := rfl, output := rfl, size := Nat.le_refl _, heap := fun _ _ _ => rfl,
    prC := fun _ _ h => h, prN := fun _ _ h => .inl h, ownC := fun k _ h => .inl ⟨k, h⟩ }
theorem Mo.trans {σ' : St} {ρ' : Nat → Loc} {pr' : dU} {f' : Nat → Value} {w' : World} (M : Mo C σ ρ pr f w) (N : Mo (Cx.now σ ρ pr w) σ' ρ' pr' f' w') : Mo C σ' ρ' pr' f' w' ∧ PrLe w pr w' pr' :=
  ⟨{ sl := N.sl, hp := N.hp, inj := N.inj, prot := N.prot, os := N.os.trans M.os, tape := N.tape.trans M.tape, output := N.output.trans M.output, size := Nat.le_trans M.size N.size
     heap := fun b h1 h2 => (N.heap b (Nat.lt_of_lt_of_le h1 M.size) (fun ⟨k, hk⟩ => by
        rcases M.ownC k b hk with h | h
        · exact h2 h
        · exact absurd h1 (by omega))).trans (M.heap b h1 h2)
     prC := fun b r h => N.prC b r (M.prC b r h)
     prN := fun b r h => by
        rcases N.prN b r h with h | ⟨k, hk⟩ | h
        · exact M.prN b r h
        · exact .inr (M.ownC k b hk)
        · exact .inr (.inr (Nat.le_trans M.size h))
     ownC := fun k b h => by
        rcases N.ownC k b h with ⟨j, hj⟩ | h
        · exact M.ownC j b hj
        · exact .inr (Nat.le_trans M.size h) },
   fun b r h => ⟨N.prC b r h, N.heap b (M.prot b r h).1 (fun ⟨k, hk⟩ => (M.prot b r h).2 k hk)⟩⟩
theorem Gl.now (h : Gl P C) (M : Mo C σ ρ pr f w) : Gl P (Cx.now σ ρ pr w) := ⟨(h.world M).1, fun b hb => ⟨((h.world M).2 b hb).1, fun ⟨k, hk⟩ => ((h.world M).2 b hb).2 k hk⟩⟩
theorem qL (M : Mo C σ ρ pr f w) (i : Nat) : Rp σ.obj ρ w pr (σ.slot i) [f i] := by
 unfold St.slot
 cases h : lk σ.sl i with
 | none => exact ⟨_, rfl⟩
 | some v => exact M.sl i v h
theorem aVo (M : Mo C σ ρ pr f w) : ∀ vs : List Nat, Rp σ.obj ρ w pr (aEe σ vs) (vs.map f)
 | [] => rfl
 | i :: l => ⟨_, _, rfl, qL M i, aVo M l⟩
theorem aK3 {h : Hp} : ∀ {vs : List Nat} {v : SV} {acc : List (Nat × SV)}, Rp h ρ w pr v (vs.map f) → (∀ i u, lk acc i = some u → Rp h ρ w pr u [f i]) → ∀ i u, lk (aD6 vs v acc) i = some u → Rp h ρ w pr u [f i]
 | [], v, acc, _, ha, i, u, hu => by cases v <;> exact ha i u hu
 | j :: l, v, acc, q, ha, i, u, hu => by
  cases v with
  | cons c d =>
   obtain ⟨x, ds, e, q1, q2⟩ := q
   simp only [List.map_cons, List.cons.injEq] at e
   obtain ⟨rfl, rfl⟩ := e
   simp only [aD6] at hu
   rw [fG] at hu
   split at hu
   ·rename_i e; cases hu; subst e; exact q1
   ·exact aK3 q2 ha i u hu
  | _ => exact ha i u hu
theorem bAs : ∀ {cs : List Nat} {i : Nat} {u : SV}, lk (base σ cs) i = some u → i ∈ cs ∧ u = σ.slot i
 | [], i, u, h => by cases h
 | j :: l, i, u, h => by
  simp only [base] at h
  rw [fG] at h
  split at h
  ·rename_i e; cases h; subst e; exact ⟨by simp, rfl⟩
  obtain ⟨h1, h2⟩ := bAs h; exact ⟨List.mem_cons_of_mem _ h1, h2⟩
theorem aCx {σ0 : St} {cs vs : List Nat} {s : Sh} {ns vis bor : List Nat} {x : s.T} (M : Mo C σ ρ pr f w) (hg : s.get σ (aEe σ vs) [] = some (x, vis, bor)) (hd : eB bor vis = true) (hl : ns.length = s.cnt) (hnd : ns.Nodup)
  (hb : ∀ i ∈ cs, ∃ t y, σ0.slot i = .val t y ∧ t.one = true ∧ Rep w pr t y [f i]) : ∃ ρ' pr', Mo C (aKj σ0 cs vs s ns x) ρ' pr' f w ∧ PrLe w pr w pr' := by
 obtain ⟨pr2, M2, hp2, m2, z2⟩ := M.freezes bor
 obtain ⟨new, e1, e2, e3⟩ := gF hg
 rw [List.nil_append] at e1
 have hvl : vis.length = ns.length := by rw [e1, e2, hl]
 let ρ' : Nat → Loc := fun m => match lk (ns.zip vis) m with | some k => ρ k | none => ρ m
 have hρ' : ∀ (i k m : Nat), vis[i]? = some k → ns[i]? = some m → ρ' m = ρ k := fun i k m h1 h2 => by
  simp only [ρ', aT8 hnd h2 h1]
 have F := fresh (all := ns) (h' := fun m => lk (s.put ns x ns).os m) (ρ' := ρ') M M2 hp2 z2 (fun k hk => qH k bor σ (fun hb => tK hd k hb hk)) hg (aVo M vs) hl hnd (fun _ => rfl)
  (fun i k m h1 h2 => ⟨by rw [hρ' i k m h1 h2], fun _ _ _ _ => hρ' i k m h1 h2⟩)
 refine ⟨ρ', pr2, F.2 C (aD6 vs (s.put ns x ns).v (base σ0 cs)) f M.os M.tape M.output M.size M.heap M2.prC M2.prN (fun k _ b hb => M.ownC k b hb) ?_, hp2⟩
 refine aK3 F.1 fun i u hu => ?_
 obtain ⟨h1, rfl⟩ := bAs hu
 obtain ⟨t, y, h2, h3, h4⟩ := hb i h1
 rw [h2]
 exact ⟨h3, h4.mono hp2⟩
theorem aZu {X R : Type} {Φ : (X → Option R) → X → Option R} {x : X} {r : R} (h : bE Φ x = some r) : ∃ n, rounds Φ n x = some r := ⟨_, (aW0 Φ x).symm.trans h⟩
inductive Xr (σ : St) (ρ : Nat → Loc) (w : World) (pr : dU) : Exit → Xt → Prop where
 | normal : Xr σ ρ w pr .normal .normal
 | exit (i : Nat) : Xr σ ρ w pr (.exit i) (.exit i)
 | ret : Xr σ ρ w pr .ret .ret
 | panic (v : SV) (u : Value) (q : Rp σ.obj ρ w pr v [u]) (far : ∀ i x, lk σ.sl i = some x → 900000 ≤ i) : Xr σ ρ w pr (.panic [{ v := u, recovered := false }]) (.panic v)
def Post (C : Cx) (g : Nat → Value) (n : Nat) (df : List Deferred) (k : Xt → St → Option R) (r : R) (ds : List Nat) (a : Act) : Exit → Act → World → Prop := fun e a' w' =>
 ∃ x σ' ρ' pr', Xr σ' ρ' w' pr' e x ∧ k x σ' = some r ∧ Mo C σ' ρ' pr' (fa g a') w' ∧ a'.tmps.size = n ∧ a'.defers = df ∧ ∀ i, i ∉ ds → a'.tmps[i]? = a.tmps[i]?
theorem aUa : ∀ (l : List (Nat × SV)) (i : Nat), lk (aLq l) i = if 900000 ≤ i then lk l i else none
 | [], i => by simp [aLq, lk]
 | p :: l, i => by
  unfold aLq
  cases hb : Nat.ble 900000 p.1 with
  | true =>
   simp only [cond_true]
   rw [show p = (p.1, p.2) from rfl, fG, fG, aUa l i]
   have := Nat.le_of_ble_eq_true hb
   split
   ·rename_i e; rw [if_pos (by omega)]
   ·rfl
  | false =>
   simp only [cond_false]
   rw [aUa l i, show p = (p.1, p.2) from rfl, fG]
   have : ¬ 900000 ≤ p.1 := fun h => by rw [Nat.ble_eq_true_of_le h] at hb; cases hb
   split
   ·rw [if_neg (by omega)]
   ·rfl
theorem Mo.far (M : Mo C σ ρ pr f w) : Mo C σ.far ρ pr f w :=
  { sl := fun i v hv => M.sl i v (by
      have : lk (aLq σ.sl) i = some v := hv
      rw [aUa] at this
      split at this
      · exact this
      · cases this)
    hp := M.hp, inj := M.inj, prot := M.prot, os := M.os, tape := M.tape, output := M.output, size := M.size, heap := M.heap, prC := M.prC, prN := M.prN, ownC := M.ownC }
theorem bAj {i : Nat} {x : SV} (h : lk σ.far.sl i = some x) : 900000 ≤ i := by
 have : lk (aLq σ.sl) i = some x := h
 rw [aUa] at this
 split at this
 ·assumption
 cases this
theorem aNv (M : Mo C σ ρ pr (fa g a) w) {c : Operand} {b : Bool} (hb : a.eval c = .bool b) (hlt : ∀ t, c = .tmp t → t < 900000) : Mo C (σ.refine c b) ρ pr (fa g a) w := by
 cases c with
 | tmp t =>
  have hlt := hlt t rfl
  have := M.set t (.val .bool b) (fa g a t) (by
   have e : fa g a t = a.eval (.tmp t) := by simp only [fa, hlt, if_true]; rfl
   rw [e, hb]; exact ⟨rfl, rfl⟩)
  have e : (fun i => if i = t then fa g a t else fa g a i) = fa g a := by
   funext i; split
   ·rename_i e; rw [e]
   ·rfl
  rwa [e] at this
 | _ => exact M
theorem bE6 {c : Operand} (h : σ.ev c ≠ .dead) : ∀ t, c = .tmp t → t < 900000 := by
 rintro t rfl
 simp only [St.ev] at h
 cases hb : Nat.blt t 900000 with
 | false => rw [hb] at h; exact absurd rfl h
 | true => exact Nat.le_of_ble_eq_true hb
theorem aRg (M : Mo C σ ρ pr (fa g a) w) {c : Operand} {b : Bool} (he : σ.ev c = .val .bool b) : Mo C (σ.refine c b) ρ pr (fa g a) w ∧ a.eval c = .bool b := by
 have q := dZ M c
 rw [he] at q
 exact ⟨aNv M (oN q) (bE6 (by rw [he]; intro h; cases h)), oN q⟩
theorem aGa {x y : Option R} {r : R} (h : both x y = some r) : x = some r ∧ y = some r := by
 rw [aMo] at h
 split at h
 ·rename_i e; exact ⟨h, e ▸ h⟩
 cases h
theorem nP (hT : TTok P E.tt) (hE : zV P E) (hm : P.follows .mixedOrders = true) (hn : n ≤ 900000) {H : List (Nat × Hint)} {df : List Deferred} :
  ∀ (c : Code) {R : Type} {r : R} {C : Cx} {σ : St} {ρ : Nat → Loc} {pr : dU} {a : Act} {w : World} {k : Xt → St → Option R}, ex E H c R σ k = some r → Gl P C → Mo C σ ρ pr (fa g a) w → a.tmps.size = n → a.defers = df → (∀ i ∈ Code.dsts c, i < n) →
   c.wp P (Post C g n df k r (Code.dsts c) a) a w := by
 intro c
 induction c with
 | skip => intro R r C σ ρ pr a w k h hG M ha hdf _; exact wp_skip ⟨.normal, σ, ρ, pr, .normal, h, M, ha, hdf, fun _ _ => rfl⟩
 | exit id => intro R r C σ ρ pr a w k h hG M ha hdf _; exact wp_exit ⟨.exit id, σ, ρ, pr, .exit id, h, M, ha, hdf, fun _ _ => rfl⟩
 | ret => intro R r C σ ρ pr a w k h hG M ha hdf _; exact wp_ret ⟨.ret, σ, ρ, pr, .ret, h, M, ha, hdf, fun _ _ => rfl⟩
 | region id ops draw =>
  intro R r C σ ρ pr a w k h hG M ha hdf hds
  have hds' : ∀ o ∈ ops.toList, ∀ i, o.dst = some i → i < n := fun o ho i hi => hds i (xQ ho hi)
  simp only [ex] at h
  cases draw with
  | false =>
   refine wp_region_list (zT hT hE hG hn ops.toList h M ha hds' ?_ ?_)
   ·intro a' w' σ' ρ' pr' k1 k2 k3 k4 k5
    exact ⟨.normal, σ', ρ', pr', .normal, k1, k2, k3, k4.trans hdf, k5⟩
   ·intro v u a' w' σ' ρ' pr' k1 k2 k6 k3 k4 k5
    exact ⟨.panic v, σ'.far, ρ', pr', .panic v u k6 (fun i x h => bAj h), k1, k2.far, k3, k4.trans hdf, k5⟩
  | true =>
   simp only [cond_true] at h
   cases hsel : aRk ops.toList with
   | false => rw [hsel] at h; cases h
   | true =>
    rw [hsel] at h
    have Md : Mo C σ ρ pr (fa g a) { w with drawn := w.drawn + 1 } := by
     exact M.world ⟨rfl, rfl, rfl, Nat.le_refl _, fun _ _ => rfl⟩
    refine wp_region_any hm (aM7 _ _ [] _ _ (aUg (a0 := a) (df := df) hT hE hG hn hsel hds' ?_ ?_ ?_ ops.size h Md ha hdf (fun _ _ => rfl) Lst.start (aEw _ _) (fun t ht => by cases ht)))
    ·rintro c a' w' o v ho ⟨x, σ', ρ', pr', hx, hk, M', h1, h2, h3⟩
     cases hx with
     | panic sv u q hfar =>
      refine ⟨.panic sv, σ', ρ', pr', .panic sv u q hfar, hk, M'.slots (fun i x hi => ?_), (mG _ _ _).symm.trans h1, (gX _ _ _).symm.trans h2, fun i hi => ?_⟩
      ·have := hfar i x hi
       simp only [fa]
       rw [if_neg (by omega), if_neg (by omega)]
      ·exact (qF _ _ _ i (fun e => hi (xQ ho e))).symm.trans (h3 i hi)
    ·intro a' w' σ' ρ' pr' k1 k2 k3 k4 k5
     exact ⟨.normal, σ', ρ', pr', .normal, k1, k2, k3, k4, k5⟩
    ·intro v u a' w' σ' ρ' pr' k1 k2 k6 k3 k4 k5
     exact ⟨.panic v, σ'.far, ρ', pr', .panic v u k6 (fun i x h => bAj h), k1, k2.far, k3, k4, k5⟩
 | seq x y ihx ihy =>
  intro R r C σ ρ pr a w k h hG M ha hdf hds
  simp only [ex] at h
  split at h
  ·refine wp_seq (wp_mono (ihx h hG M ha hdf (fun i hi => hds i (List.mem_append_left _ hi))) ?_)
   rintro e a1 w1 ⟨xx, σ1, ρ1, pr1, hx, hk, M1, ha1, hdf1, ho1⟩
   cases hx
   ·exact wp_mono (ihy hk hG M1 ha1 hdf1 (fun i hi => hds i (List.mem_append_right _ hi))) (by
     rintro e a2 w2 ⟨x2, σ2, ρ2, pr2, hx2, hk2, M2, ha2, hdf2, ho2⟩
     refine ⟨x2, σ2, ρ2, pr2, hx2, hk2, M2, ha2, hdf2, fun i hi => ?_⟩
     simp only [Code.dsts, List.mem_append, not_or] at hi
     exact (ho2 i hi.2).trans (ho1 i hi.1))
   all_goals
    refine ⟨_, σ1, ρ1, pr1, by first | exact .exit _ | exact .ret | (exact .panic _ _ ‹_› ‹_›), hk, M1, ha1, hdf1, fun i hi => ?_⟩
    simp only [Code.dsts, List.mem_append, not_or] at hi
    exact ho1 i hi.1
  ·rename_i hint _
   obtain ⟨cs, vs, sp⟩ := hint
   simp only at h
   cases hall : cs.all (fun i => !jI i (Code.dsts x) && aRs (σ.slot i)) with
   | false => rw [hall] at h; cases h
   | true =>
   rw [hall] at h
   simp only [cond_true] at h
   unfold bHi at h
   simp only [aRq, Option.bind_eq_some_iff] at h
   obtain ⟨v, hv, hr⟩ := h
   have hcst : ∀ i ∈ cs, i ∉ Code.dsts x ∧ ∃ t y, σ.slot i = .val t y ∧ t.one = true := fun i hi => by
    have hi' := List.all_eq_true.1 hall i hi
    rw [Bool.and_eq_true, Bool.not_eq_true', eY] at hi'
    refine ⟨hi'.1, ?_⟩
    have h2 := hi'.2
    unfold aRs at h2
    split at h2
    ·rename_i t y e; exact ⟨t, y, e, h2⟩
    ·cases h2
   refine wp_seq (wp_mono (ihx (C := Cx.now σ ρ pr w) hv (hG.now M) M.rebase ha hdf (fun i hi => hds i (List.mem_append_left _ hi))) ?_)
   rintro e a1 w1 ⟨xx, σ1, ρ1, pr1, hx, hk, M1, ha1, hdf1, ho1⟩
   obtain ⟨M1', hple⟩ := M.trans M1
   have hout : ∀ {e : Exit} {q : Xt}, Xr σ1 ρ1 w1 pr1 e q → (k q σ1).map Sum.inr = some v → Post C g n df k r (Code.dsts (.seq x y)) a e a1 w1 := fun {e q} he hq => by
    simp only [Option.map_eq_some_iff] at hq
    obtain ⟨r', hr', rfl⟩ := hq
    simp only [Option.some.injEq] at hr
    subst hr
    refine ⟨q, σ1, ρ1, pr1, he, hr', M1', ha1, hdf1, fun i hi => ?_⟩
    simp only [Code.dsts, List.mem_append, not_or] at hi
    exact ho1 i hi.1
   cases hx
   ·simp only at hk
    split at hk
    ·rename_i z vis bor hg
     cases hd : eB bor vis with
     | false => rw [hd] at hk; cases hk
     | true =>
      rw [hd] at hk
      simp only [cond_true, Option.some.injEq] at hk
      subst hk
      simp only at hr
      obtain ⟨ρ3, pr3, M3, hp3⟩ := aCx (σ0 := σ) (cs := cs) (ns := names 60000000 sp.cnt) M1' hg hd (aA3 _ _) (uG _ _) (fun i hi => by
       obtain ⟨h0, t, y, h1, h2⟩ := hcst i hi
       have q := qL M i
       rw [h1] at q
       refine ⟨t, y, h1, h2, ?_⟩
       have e : fa g a1 i = fa g a i := by
        simp only [fa, Array.getD_eq_getD_getElem?]
        rw [ho1 i h0]
       rw [e]; exact q.2.mono hple)
      exact wp_mono (ihy hr hG M3 ha1 hdf1 (fun i hi => hds i (List.mem_append_right _ hi))) (by
       rintro e a2 w2 ⟨x2, σ2, ρ2, pr2, hx2, hk2, M2, ha2, hdf2, ho2⟩
       refine ⟨x2, σ2, ρ2, pr2, hx2, hk2, M2, ha2, hdf2, fun i hi => ?_⟩
       simp only [Code.dsts, List.mem_append, not_or] at hi
       exact (ho2 i hi.2).trans (ho1 i hi.1))
    ·cases hk
   ·exact hout (.exit _) hk
   ·exact hout .ret hk
   ·exact hout (.panic _ _ ‹_› ‹_›) hk
 | cond c x y ihx ihy =>
  intro R r C σ ρ pr a w k h hG M ha hdf hds
  have arms : ∀ b : Bool, a.eval c = .bool b → (∀ t, c = .tmp t → t < 900000) → (b = true → ex E H x R (σ.refine c true) k = some r) → (b = false → ex E H y R (σ.refine c false) k = some r) → (Code.cond c x y).wp P (Post C g n df k r (Code.dsts (.cond c x y)) a) a w := by
   intro b hb hlt hx hy
   have M' := aNv M hb hlt
   cases b with
   | true =>
    refine wp_cond hb (wp_mono (ihx (hx rfl) hG M' ha hdf (fun i hi => hds i (List.mem_append_left _ hi))) ?_)
    rintro e a2 w2 ⟨x2, σ2, ρ2, pr2, hx2, hk2, M2, ha2, hdf2, ho2⟩
    refine ⟨x2, σ2, ρ2, pr2, hx2, hk2, M2, ha2, hdf2, fun i hi => ?_⟩
    simp only [Code.dsts, List.mem_append, not_or] at hi
    exact ho2 i hi.1
   | false =>
    refine wp_cond hb (wp_mono (ihy (hy rfl) hG M' ha hdf (fun i hi => hds i (List.mem_append_right _ hi))) ?_)
    rintro e a2 w2 ⟨x2, σ2, ρ2, pr2, hx2, hk2, M2, ha2, hdf2, ho2⟩
    refine ⟨x2, σ2, ρ2, pr2, hx2, hk2, M2, ha2, hdf2, fun i hi => ?_⟩
    simp only [Code.dsts, List.mem_append, not_or] at hi
    exact ho2 i hi.2
  simp only [ex] at h
  split at h
  ·rename_i t he
   cases t with
   | true =>
    simp only [cond_true] at h
    obtain ⟨M', hb⟩ := aRg M he
    refine wp_cond hb (wp_mono (ihx h hG M' ha hdf (fun i hi => hds i (List.mem_append_left _ hi))) ?_)
    rintro e a2 w2 ⟨x2, σ2, ρ2, pr2, hx2, hk2, M2, ha2, hdf2, ho2⟩
    refine ⟨x2, σ2, ρ2, pr2, hx2, hk2, M2, ha2, hdf2, fun i hi => ?_⟩
    simp only [Code.dsts, List.mem_append, not_or] at hi
    exact ho2 i hi.1
   | false =>
    simp only [cond_false] at h
    obtain ⟨M', hb⟩ := aRg M he
    refine wp_cond hb (wp_mono (ihy h hG M' ha hdf (fun i hi => hds i (List.mem_append_right _ hi))) ?_)
    rintro e a2 w2 ⟨x2, σ2, ρ2, pr2, hx2, hk2, M2, ha2, hdf2, ho2⟩
    refine ⟨x2, σ2, ρ2, pr2, hx2, hk2, M2, ha2, hdf2, fun i hi => ?_⟩
    simp only [Code.dsts, List.mem_append, not_or] at hi
    exact ho2 i hi.2
  ·rename_i t he
   have q := dZ M c
   rw [he] at q
   obtain ⟨b, hb, hbt⟩ := q
   simp only [List.cons.injEq, and_true] at hb
   rw [show (b != false) = b by cases b <;> rfl] at hb
   have hlt := bE6 (σ := σ) (c := c) (by rw [he]; intro h; cases h)
   have hx : b = true → ex E H x R (σ.refine c true) k = some r := fun e => by
    cases t with
    | true => exact (aGa h).1
    | false => rw [hbt rfl] at e; cases e
   have hy : b = false → ex E H y R (σ.refine c false) k = some r := fun e => by
    cases t with
    | true => exact (aGa h).2
    | false => exact h
   exact arms b hb hlt hx hy
  ·rename_i t he
   have q := dZ M c
   rw [he] at q
   obtain ⟨b, hb, hbt⟩ := q
   simp only [List.cons.injEq, and_true] at hb
   rw [show (b != true) = !b by cases b <;> rfl] at hb
   have hlt := bE6 (σ := σ) (c := c) (by rw [he]; intro h; cases h)
   have hx : (!b) = true → ex E H x R (σ.refine c true) k = some r := fun e => by
    cases t with
    | true => exact (aGa h).1
    | false => exact h
   have hy : (!b) = false → ex E H y R (σ.refine c false) k = some r := fun e => by
    cases t with
    | true => exact (aGa h).2
    | false => rw [hbt rfl] at e; cases e
   exact arms (!b) hb hlt hx hy
  ·cases h
 | block id c ih =>
  intro R r C σ ρ pr a w k h hG M ha hdf hds
  simp only [ex] at h
  refine wp_block (wp_mono (ih h hG M ha hdf hds) ?_)
  rintro e a1 w1 ⟨xx, σ1, ρ1, pr1, hx, hk, M1, ha1, hdf1, ho1⟩
  cases hx
  ·exact ⟨.normal, σ1, ρ1, pr1, .normal, hk, M1, ha1, hdf1, ho1⟩
  ·rename_i j
   simp only at hk
   unfold Exit.inBlock
   cases hj : Nat.beq j id with
   | true =>
    rw [hj] at hk
    have e := Nat.eq_of_beq_eq_true hj
    subst e
    simp only [if_true]
    exact ⟨.normal, σ1, ρ1, pr1, .normal, hk, M1, ha1, hdf1, ho1⟩
   | false =>
    rw [hj] at hk
    have e : ¬ j = id := fun e => by subst e; simp at hj
    simp only [e, if_false]
    exact ⟨.exit j, σ1, ρ1, pr1, .exit j, hk, M1, ha1, hdf1, ho1⟩
  ·exact ⟨.ret, σ1, ρ1, pr1, .ret, hk, M1, ha1, hdf1, ho1⟩
  ·exact ⟨.panic _, σ1, ρ1, pr1, .panic _ _ ‹_› ‹_›, hk, M1, ha1, hdf1, ho1⟩
 | loop c ih =>
  intro R r C σ ρ pr a w k h hG M ha hdf hds
  simp only [ex] at h
  split at h
  ·cases h
  rename_i lid _
  split at h
  ·rename_i hint _
   generalize hint.cs.length = m at h
   refine wp_loop_rounds m ?_
   have key : ∀ (m : Nat) {σ1 : St} {ρ1 : Nat → Loc} {pr1 : dU} (a1 : Act) (w1 : World), bAc (ex E H c R) k m σ1 = some r → Mo C σ1 ρ1 pr1 (fa g a1) w1 → a1.tmps.size = n → a1.defers = df → (∀ i, i ∉ Code.dsts c → a1.tmps[i]? = a.tmps[i]?) →
     Code.rounds P c (Post C g n df k r (Code.dsts c) a) m a1 w1 := by
    intro m
    induction m with
    | zero => intro σ1 ρ1 pr1 a1 w1 hr; cases hr
    | succ m ihm =>
     intro σ1 ρ1 pr1 a1 w1 hr M1 ha1 hdf1 ho1
     rw [rounds_succ]
     simp only [bAc] at hr
     refine wp_mono (ih hr hG M1 ha1 hdf1 hds) ?_
     rintro e a2 w2 ⟨x2, σ2, ρ2, pr2, hx2, hk2, M2, ha2, hdf2, ho2⟩
     have ho2' : ∀ i, i ∉ Code.dsts c → a2.tmps[i]? = a.tmps[i]? := fun i hi => (ho2 i hi).trans (ho1 i hi)
     cases hx2
     ·exact ihm a2 w2 hk2 M2 ha2 hdf2 ho2'
     ·exact ⟨_, σ2, ρ2, pr2, .exit _, hk2, M2, ha2, hdf2, ho2'⟩
     ·exact ⟨_, σ2, ρ2, pr2, .ret, hk2, M2, ha2, hdf2, ho2'⟩
     ·exact ⟨_, σ2, ρ2, pr2, .panic _ _ ‹_› ‹_›, hk2, M2, ha2, hdf2, ho2'⟩
   exact key m a w h M ha hdf (fun _ _ => rfl)
  split at h
  ·cases h
  rename_i hint _
  obtain ⟨cs, vs, sp⟩ := hint
  simp only at h
  cases hall : cs.all (fun i => !jI i (Code.dsts c) && aRs (σ.slot i)) with
  | false => rw [hall] at h; cases h
  | true =>
  rw [hall] at h
  simp only [cond_true] at h
  unfold bHh at h
  split at h
  ·cases h
  ·rename_i x0 ns bor0 hg0
   cases hd0 : eB bor0 ns with
   | false => rw [hd0] at h; cases h
   | true =>
   rw [hd0] at h
   simp only [cond_true] at h
   obtain ⟨m, hm'⟩ := aZu h
   obtain ⟨new, en, el, ed⟩ := gF hg0
   rw [List.nil_append] at en
   have hnsl : ns.length = sp.cnt := by rw [en, el]
   have hnsd : ns.Nodup := ed List.nodup_nil
   have hcst : ∀ i ∈ cs, i ∉ Code.dsts c ∧ ∃ t y, σ.slot i = .val t y ∧ t.one = true := fun i hi => by
    have hi' := List.all_eq_true.1 hall i hi
    rw [Bool.and_eq_true, Bool.not_eq_true', eY] at hi'
    refine ⟨hi'.1, ?_⟩
    have h2 := hi'.2
    unfold aRs at h2
    split at h2
    ·rename_i t y e; exact ⟨t, y, e, h2⟩
    ·cases h2
   refine wp_loop_rounds m ?_
   have key : ∀ (m : Nat) (x : sp.T) (ρ1 : Nat → Loc) (pr1 : dU) (a1 : Act) (w1 : World),
     rounds (fun L x => ex E H c R (aKj σ cs vs sp ns x) fun e σ' => match e with
      | .normal => match sp.get σ' (aEe σ' vs) [] with
       | some (x', vis, bor) => bif eB bor vis then L x' else none
       | none => none
      | .exit i => k (.exit i) σ'
      | .ret => k .ret σ'
      | .panic v => k (.panic v) σ') m x = some r →
     Mo C (aKj σ cs vs sp ns x) ρ1 pr1 (fa g a1) w1 → a1.tmps.size = n → a1.defers = df → (∀ i, i ∉ Code.dsts c → a1.tmps[i]? = a.tmps[i]?) → (∀ i ∈ cs, ∃ t y, σ.slot i = .val t y ∧ t.one = true ∧ Rep w1 pr1 t y [fa g a1 i]) →
     Code.rounds P c (Post C g n df k r (Code.dsts c) a) m a1 w1 := by
    intro m
    induction m with
    | zero => intro x ρ1 pr1 a1 w1 hr; cases hr
    | succ m ihm =>
     intro x ρ1 pr1 a1 w1 hr M1 ha1 hdf1 ho1 hc1
     rw [rounds_succ]
     have hr' := hr
     simp only [rounds] at hr'
     refine wp_mono (ih (C := Cx.now (aKj σ cs vs sp ns x) ρ1 pr1 w1) hr' (hG.now M1) M1.rebase ha1 hdf1 hds) ?_
     rintro e a2 w2 ⟨x2, σ2, ρ2, pr2, hx2, hk2, M2, ha2, hdf2, ho2⟩
     obtain ⟨M2', hple⟩ := M1.trans M2
     have ho2' : ∀ i, i ∉ Code.dsts c → a2.tmps[i]? = a.tmps[i]? := fun i hi => (ho2 i hi).trans (ho1 i hi)
     cases hx2
     ·simp only at hk2
      split at hk2
      ·rename_i x' vis bor hg
       cases hd : eB bor vis with
       | false => rw [hd] at hk2; cases hk2
       | true =>
        rw [hd] at hk2
        have hc2 : ∀ i ∈ cs, ∃ t y, σ.slot i = .val t y ∧ t.one = true ∧ Rep w2 pr2 t y [fa g a2 i] := fun i hi => by
         obtain ⟨t, y, h1, h2, h3⟩ := hc1 i hi
         refine ⟨t, y, h1, h2, ?_⟩
         have e : fa g a2 i = fa g a1 i := by
          simp only [fa, Array.getD_eq_getD_getElem?]
          rw [ho2 i (hcst i hi).1]
         rw [e]; exact h3.mono hple
        obtain ⟨ρ3, pr3, M3, hp3⟩ := aCx (σ0 := σ) (cs := cs) M2' hg hd hnsl hnsd hc2
        exact ihm x' ρ3 pr3 a2 w2 hk2 M3 ha2 hdf2 ho2' (fun i hi => by
         obtain ⟨t, y, h1, h2, h3⟩ := hc2 i hi
         exact ⟨t, y, h1, h2, h3.mono hp3⟩)
      ·cases hk2
     ·exact ⟨_, σ2, ρ2, pr2, .exit _, hk2, M2', ha2, hdf2, ho2'⟩
     ·exact ⟨_, σ2, ρ2, pr2, .ret, hk2, M2', ha2, hdf2, ho2'⟩
     ·exact ⟨_, σ2, ρ2, pr2, .panic _ _ ‹_› ‹_›, hk2, M2', ha2, hdf2, ho2'⟩
   have hc0 : ∀ i ∈ cs, ∃ t y, σ.slot i = .val t y ∧ t.one = true ∧ Rep w pr t y [fa g a i] := fun i hi => by
    obtain ⟨_, t, y, h1, h2⟩ := hcst i hi
    have q := qL M i
    rw [h1] at q
    exact ⟨t, y, h1, h2, q.2⟩
   obtain ⟨ρ3, pr3, M3, hp3⟩ := aCx (σ0 := σ) (cs := cs) M hg0 hd0 hnsl hnsd hc0
   exact key m x0 ρ3 pr3 a w hm' M3 ha hdf (fun _ _ => rfl) (fun i hi => by
    obtain ⟨t, y, h1, h2, h3⟩ := hc0 i hi
    exact ⟨t, y, h1, h2, h3.mono hp3⟩)
 | _ => intro R r C σ ρ pr a w k h; simp only [ex] at h; cases h
end
end Ab
end
section
namespace Ab
open Go
section
variable {P : Program} {E : Env} {C : Cx} {σ : St} {ρ : Nat → Loc} {pr : dU} {f : Nat → Value} {w : World} {a : Act} {o : Oper} {g : Nat → Value} {n : Nat} {R : Type} {ops : Array Oper}
theorem aMj (all : List Nat) : ∀ {s : Sh} (x : s.T) (ns : List Nat), s.lst = true → (s.put all x ns).v.lst = true ∧ (s.put all x ns).v.len = s.len
 | .nil, _, _, _ => ⟨rfl, rfl⟩
 | .cons a b, x, ns, h => by
  obtain ⟨h1, h2⟩ := aMj all (s := b) (Sh.snd a b x) (a.put all (Sh.fst a b x) ns).left h
  exact ⟨h1, by simp only [Sh.put, SV.len, Sh.len, h2]⟩
 | .dead, _, _, h | .nilp, _, _, h | .sc _, _, _, h | .own _ _, _, _, h | .ptr _, _, _, h | .ref _ _, _, _, h | .agg _, _, _, h | .tup _, _, _, h => by cases h
theorem aLx {h : Hp} : ∀ {v : SV} {vs : List Value} {k i : Nat} {u : SV}, Rp h ρ w pr v vs → lk (aJl k v) i = some u → k ≤ i ∧ ∃ x, vs[i - k]? = some x ∧ Rp h ρ w pr u [x]
 | .cons c d, vs, k, i, u, q, hl => by
  obtain ⟨y, ds, rfl, q1, q2⟩ := q
  simp only [aJl] at hl
  rw [fG] at hl
  split at hl
  ·rename_i e; cases hl; subst e; exact ⟨Nat.le_refl _, y, by simp, q1⟩
  ·obtain ⟨h1, x, h2, h3⟩ := aLx q2 hl
   exact ⟨by omega, x, by rw [show i - k = (i - (k + 1)) + 1 by omega]; simpa using h2, h3⟩
 | .nil, _, _, _, _, _, hl | .dead, _, _, _, _, _, hl | .val _ _, _, _, _, _, _, hl | .nsl, _, _, _, _, _, hl | .nilp, _, _, _, _, _, hl | .hd _, _, _, _, _, _, hl | .ptr _ _, _, _, _, _, _, hl
 | .elp _ _ _, _, _, _, _, _, hl | .rop _ _, _, _, _, _, _, hl | .agg _, _, _, _, _, _, hl | .tup _, _, _, _, _, _, hl => by cases hl
theorem aRu {h : Hp} : ∀ {s : Sh} {v : SV} {vs : List Value} {k i : Nat} {u : SV}, Rp h ρ w pr v vs → lk (aHj k s v) i = some u → k ≤ i ∧ ∃ x, vs[i - k]? = some x ∧ Rp h ρ w pr u [x]
 | .cons a b, v, vs, k, i, u, q, hl => by
  cases v with
  | cons c d =>
   obtain ⟨y, ds, rfl, q1, q2⟩ := q
   have go : lk (aHj (k + 1) b d) i = some u → k ≤ i ∧ ∃ x, (y :: ds)[i - k]? = some x ∧ Rp h ρ w pr u [x] := fun hl => by
    obtain ⟨h1, x, h2, h3⟩ := aRu q2 hl
    exact ⟨by omega, x, by rw [show i - k = (i - (k + 1)) + 1 by omega]; simpa using h2, h3⟩
   simp only [aHj] at hl
   split at hl
   ·exact go hl
   ·rw [fG] at hl
    split at hl
    ·rename_i e; cases hl; subst e; exact ⟨Nat.le_refl _, y, by simp, q1⟩
    ·exact go hl
  | _ => cases hl
 | .nil, _, _, _, _, _, _, hl | .dead, _, _, _, _, _, _, hl | .nilp, _, _, _, _, _, _, hl | .sc _, _, _, _, _, _, _, hl | .own _ _, _, _, _, _, _, _, hl | .ptr _, _, _, _, _, _, _, hl | .ref _ _, _, _, _, _, _, _, hl
 | .agg _, _, _, _, _, _, _, hl | .tup _, _, _, _, _, _, _, hl => by cases hl
theorem bEy : ∀ {s : Sh}, s.lst = true → s.io.lst = true ∧ s.io.len = s.len
 | .nil, _ => ⟨rfl, rfl⟩
 | .cons a b, h => by
  obtain ⟨h1, h2⟩ := bEy (s := b) h
  exact ⟨h1, by simp only [Sh.io, Sh.len, h2]⟩
 | .dead, h | .nilp, h | .sc _, h | .own _ _, h | .ptr _, h | .ref _ _, h | .agg _, h | .tup _, h => by cases h
theorem aRv (M : Mo C σ ρ pr f w) : ∀ {s : Sh} {vs : List Value} {k : Nat}, s.lst = true → s.len = vs.length → (∀ i x, vs[i]? = some x → f (k + i) = x) → Rp σ.obj ρ w pr (aO1 σ k s) vs
 | .nil, vs, k, _, hl, _ => List.eq_nil_of_length_eq_zero hl.symm
 | .cons a b, vs, k, h, hl, hf => by
  cases vs with
  | nil => simp [Sh.len] at hl
  | cons x vs =>
   refine ⟨x, vs, rfl, ?_, aRv M (s := b) h (by simpa [Sh.len] using hl) (fun i y hy => by
    have := hf (i + 1) y (by simpa using hy)
    rw [← this]; congr 1; omega)⟩
   have hx : f k = x := hf 0 x rfl
   split
   ·exact ⟨_, rfl⟩
   ·rw [← hx]; exact qL M k
 | .dead, _, _, h, _, _ | .nilp, _, _, h, _, _ | .sc _, _, _, h, _, _ | .own _ _, _, _, h, _, _ | .ptr _, _, _, h, _, _ | .ref _ _, _, _, h, _, _ | .agg _, _, _, h, _, _ | .tup _, _, _, h, _, _ => by cases h
def rvS (a : Act) : ResultVar → Sem Value
 | .tmp t => pure (a.tmps.getD t undef)
 | .cell x t => do loadVar t (← asAddr (a.tmps.getD x undef))
theorem aX3 (fn : Func) (a : Act) : results fn a.tmps = (do let vs ← fn.results.mapM (rvS a); pure (if h : vs.size = 1 then vs[0] else .tuple vs)) := by
 unfold results
 have : (fun r => match r with | .tmp t => pure (a.tmps.getD t undef) | .cell x t => do loadVar t (← asAddr (a.tmps.getD x undef)) : ResultVar → Sem Value) = rvS a := by
  funext r; cases r <;> rfl
 rw [← this]
 rfl
theorem aNu (hT : TTok P E.tt) (M : Mo C σ ρ pr (fa g a) w) {rv : ResultVar} {v : SV} (h : aTf E σ rv = some v) :
  ∃ u, (rvS a rv).run P w = .ok u w ∧ Rp σ.obj ρ w pr v [u] := by
 cases rv with
 | tmp t => cases h; exact ⟨_, rfl, dZ M (.tmp t)⟩
 | cell x t =>
  simp only [aTf] at h
  split at h
  ·rename_i ti ht
   cases hp : Nat.blt 0 ti.n with
   | false => rw [hp] at h; cases h
   | true =>
    rw [hp] at h
    obtain ⟨I⟩ := hT.info ht
    obtain ⟨ad, u, hx, hr, q⟩ := aOw M I (Nat.le_of_ble_eq_true hp) h (dZ M (.tmp x))
    have hx' : a.tmps.getD x undef = .pointer (some ad) := hx
    refine ⟨u, ?_, q⟩
    simp only [rvS, hx', asAddr, Sem.run_bind, Sem.run_pure, Result.andThen]
    exact hr w rfl
  ·cases h
theorem aK6 (hT : TTok P E.tt) (M : Mo C σ ρ pr (fa g a) w) : ∀ {l : List ResultVar} {s : SV}, aMi E σ l = some s →
  ∃ us, (l.mapM (rvS a)).run P w = .ok us w ∧ Rp σ.obj ρ w pr s us ∧ us.length = l.length
 | [], s, h => by cases h; exact ⟨[], rfl, rfl, rfl⟩
 | r :: l, s, h => by
  simp only [aMi, Option.bind_eq_some_iff] at h
  obtain ⟨v, hv, s', hs, h⟩ := h
  cases h
  obtain ⟨u, h1, h2⟩ := aNu hT M hv
  obtain ⟨us, h3, h4, h5⟩ := aK6 hT M hs
  refine ⟨u :: us, ?_, ⟨u, us, rfl, h2, h4⟩, by simp [h5]⟩
  rw [List.mapM_cons]
  simp only [h1, h3, Sem.run_bind, Sem.run_pure, Result.andThen]
theorem aVp (hT : TTok P E.tt) (M : Mo C σ ρ pr (fa g a) w) {fn : Func} {v : SV} (h : bHm E σ fn.results.toList = some v) : ∃ u, (results fn a.tmps).run P w = .ok u w ∧ Rp σ.obj ρ w pr v [u] := by
 have run : ∀ {us : List Value}, (fn.results.toList.mapM (rvS a)).run P w = .ok us w →
   (results fn a.tmps).run P w = .ok (if h : us.toArray.size = 1 then us.toArray[0] else .tuple us.toArray) w := fun {us} hu => by
  rw [aX3, Array.mapM_eq_mapM_toList, map_eq_pure_bind]
  simp only [Sem.run_bind, Sem.run_pure, Result.andThen]
  rw [hu]
 unfold bHm at h
 split at h
 ·rename_i r hr
  obtain ⟨u, h1, h2⟩ := aNu hT M h
  refine ⟨u, ?_, h2⟩
  have := run (us := [u]) (by
   rw [hr, List.mapM_cons, List.mapM_nil]
   simp only [Sem.run_bind, Sem.run_pure, Result.andThen, h1])
  rw [this]; rfl
 rename_i hne
 simp only [Option.bind_eq_some_iff] at h
 obtain ⟨s, hs, h⟩ := h
 cases h
 obtain ⟨us, h1, h2, h3⟩ := aK6 hT M hs
 have hlen : ¬ us.toArray.size = 1 := fun e => by
  have : fn.results.toList.length = 1 := by rw [← h3]; simpa using e
  obtain ⟨r, hr⟩ := List.length_eq_one_iff.1 this
  exact hne r hr
 have := run h1
 rw [dif_neg hlen] at this
 exact ⟨_, this, us, rfl, h2⟩
theorem aUh {fid : Nat} {fn : Func} {c : Code} (hf : P.funcs[fid]? = some fn) (hb : fn.body = some c) (hname : (fn.name == "runtime.NumGoroutine") = false) (args : Array Value) (w : World) :
  (callFunc fid args).run P w = .ok (.enter fid args) w := by
 unfold callFunc
 simp only [Sem.run_bind, run_program, Result.andThen, hf, hname, hb, Bool.false_eq_true, if_false, Option.isNone_some]
 rfl
theorem bE8 {h : Hp} {v : SV} {vs : List Value} (i : Nat) (hl : i ≤ v.len) (q : Rp h ρ w pr v vs) : Rp h ρ w pr (v.drop i) (vs.drop i) := q.drop i hl
def lZ (vals : List Value) : Nat → Value := fun i => vals.getD (i - 1000000) undef
def jM (args : Array Value) (m : Nat) : Act := { tmps := args ++ Array.replicate m undef, defers := [] }
theorem aH6 {ins : Sh} {nx : Nat} {gx : List Value} {args : Array Value} {x : ins.T} (hlst : ins.lst = true) (hnx : nx ≤ ins.len) (hlen : ins.len ≤ 900000) (hgx : gx.length = nx)
    (M : Mo C ⟨[], jN (dS ins x).os⟩ ρ C.pr (fun _ => undef) w) (q : Rp (fun n => lk (dS ins x).os n) ρ w C.pr (dS ins x).v (gx ++ args.toList)) (m : Nat) :
    Mo C (yN nx ins x) ρ C.pr (fa (lZ (gx ++ args.toList)) (jM args m)) w ∧ (gx ++ args.toList).length = ins.len := by
  have hl : (gx ++ args.toList).length = ins.len := by
    obtain ⟨h1, h2⟩ := aMj (jL ins) (s := ins) x (jL ins) hlst
    rw [← h2]; exact Rp.llen h1 q
  refine ⟨?_, hl⟩
  have hal : nx + args.size = ins.len := by rw [← hl, ← hgx]; simp
  have qd : Rp (fun n => lk (dS ins x).os n) ρ w C.pr ((dS ins x).v.drop nx) args.toList := by
    have h2 := (aMj (jL ins) (s := ins) x (jL ins) hlst).2
    have := bE8 nx (by show _ ≤ ((ins.put (jL ins) x (jL ins)).v).len; rw [h2]; exact hnx) q
    rwa [← hgx, List.drop_left, hgx] at this
  have hobj : (yN nx ins x).obj = fun n => lk (dS ins x).os n := by
    funext m
    unfold St.obj yN
    simp only [aA6]
    cases lk (dS ins x).os m <;> rfl
  have hobj0 : ∀ sl, (⟨sl, jN (dS ins x).os⟩ : St).obj = fun n => lk (dS ins x).os n := fun sl => by
    funext m
    unfold St.obj
    simp only [aA6]
    cases lk (dS ins x).os m <;> rfl
  exact
  { sl := fun i u hu => by
      rw [hobj]
      simp only [yN] at hu
      rw [aFx] at hu
      cases hgh : lk (aHj 1000000 ins (dS ins x).v) i with
      | some u' =>
        rw [hgh] at hu; cases hu
        obtain ⟨h1, z, h2, h3⟩ := aRu q hgh
        have : fa (lZ (gx ++ args.toList)) (jM args m) i = z := by
          simp only [fa, lZ]
          rw [if_neg (by omega), List.getD_eq_getElem?_getD, h2]; rfl
        rw [this]; exact h3
      | none =>
        rw [hgh] at hu
        obtain ⟨h1, z, h2, h3⟩ := aLx qd hu
        rw [Nat.sub_zero] at h2
        have hlt : i < args.size := by have := (List.getElem?_eq_some_iff.1 h2).1; simpa using this
        have : fa (lZ (gx ++ args.toList)) (jM args m) i = z := by
          simp only [fa, jM]
          rw [if_pos (by omega), Array.getD_eq_getD_getElem?, Array.getElem?_append_left hlt, ← Array.getElem?_toList, h2]; rfl
        rw [this]; exact h3
    hp := fun k ob hk => by
      rw [hobj] at hk ⊢
      have := M.hp k ob (by rw [hobj0]; exact hk)
      rwa [hobj0] at this
    inj := by have := M.inj; rw [hobj0] at this; rw [hobj]; exact this
    prot := by have := M.prot; rw [hobj0] at this; rw [hobj]; exact this
    os := M.os, tape := M.tape, output := M.output, size := M.size, heap := M.heap, prC := M.prC, prN := M.prN
    ownC := by have := M.ownC; rw [hobj0] at this; rw [hobj]; exact this }
theorem aWr {ins : Sh} {vals : List Value} (M : Mo C σ ρ pr (fa (lZ vals) a) w) (hlst : ins.lst = true) (hl : vals.length = ins.len) : Rp σ.obj ρ w pr (aO1 σ 1000000 ins.io) vals := by
 obtain ⟨i1, i2⟩ := bEy hlst
 refine aRv M i1 (by rw [i2, hl]) fun i z hz => ?_
 simp only [fa, lZ]
 rw [if_neg (by omega), show 1000000 + i - 1000000 = i by omega, List.getD_eq_getElem?_getD, hz]; rfl
theorem aDw {ins res : Sh} {fn : Func} {vals : List Value} {y : (Sh.out ins.io res).T} (hT : TTok P E.tt) (M : Mo C σ ρ pr (fa (lZ vals) a) w) (hlst : ins.lst = true) (hl : vals.length = ins.len) (hr : uT E ins.io res fn.results.toList σ = some y) :
  ∃ v, (results fn a.tmps).run P w = .ok v w ∧ Told ins res vals C bDf y (.returned v) w := by
 unfold uT at hr
 simp only [Option.bind_eq_some_iff] at hr
 obtain ⟨rv, hrv, hr⟩ := hr
 split at hr
 ·rename_i y' vis bor hg
  cases hd : eB bor vis with
  | false => rw [hd] at hr; cases hr
  | true =>
   rw [hd] at hr; cases hr
   obtain ⟨u, h1, h2⟩ := aVp hT M hrv
   exact ⟨u, h1, u, rfl, σ, ρ, pr, _, _, rv, vis, bor, M, hg, hd, aWr M hlst hl, h2⟩
 cases hr
theorem bCh {ins pv : Sh} {vals : List Value} {z : (Sh.out ins.io pv).T} {v : SV} {u : Value} (M : Mo C σ ρ pr (fa (lZ vals) a) w) (hlst : ins.lst = true) (hl : vals.length = ins.len) (q : Rp σ.obj ρ w pr v [u]) (hr : aYf ins.io pv σ v = some z) :
  Told ins pv vals C bHq z (.panicked [{ v := u, recovered := false }]) w := by
 unfold aYf at hr
 split at hr
 ·rename_i y' vis bor hg
  cases hd : eB bor vis with
  | false => rw [hd] at hr; cases hr
  | true =>
   rw [hd] at hr; cases hr
   exact ⟨u, rfl, σ, ρ, pr, _, _, v, vis, bor, M, hg, hd, aWr M hlst hl, q⟩
 cases hr
theorem FnOK.of_run {fid : Nat} {fn : Func} {c : Code} (hf : P.funcs[fid]? = some fn) (hb : fn.body = some c) (hname : (fn.name == "runtime.NumGoroutine") = false) (hT : TTok P E.tt) (hE : zV P E) (hm : P.follows .mixedOrders = true)
  {H : List (Nat × Hint)} {ins res : Sh} {ex : List (Nat × Nat)} (hnx : Nat.ble ex.length ins.len = true) (hlst : ins.lst = true) (hlen : Nat.ble ins.len 900000 = true) (hnt : Nat.ble fn.ntmps 900000 = true) (hds : (Code.dsts c).all (fun i => Nat.blt i fn.ntmps) = true) :
  FnOK P fid ⟨ins, res, aVl E H c fn.results.toList ex.length ins res, ex⟩ where
 ent := aUh hf hb hname
 calls := by
  intro C ρ gx args w x y hgx hy hG M q
  simp only at hgx hy M q
  have hn1 := Nat.le_of_ble_eq_true hlen
  have hn2 := Nat.le_of_ble_eq_true hnt
  obtain ⟨Ms, hl⟩ := aH6 hlst (Nat.le_of_ble_eq_true hnx) hn1 hgx M q (fn.ntmps - args.size)
  have hal : ex.length + args.size = ins.len := by rw [← hl, ← hgx]; simp
  have hsz : (jM args (fn.ntmps - args.size)).tmps.size = args.size + (fn.ntmps - args.size) := by simp [jM]
  refine calls_of_wp hf hb ?_
  unfold aVl at hy
  refine wp_mono (nP (n := (jM args (fn.ntmps - args.size)).tmps.size) (df := []) hT hE hm (by omega) c hy hG Ms rfl rfl (fun i hi => by
   have := Nat.le_of_ble_eq_true (List.all_eq_true.1 hds i hi)
   omega)) ?_
  rintro e a' w' ⟨xx, σ', ρ', pr', hx, hk, M', ha', hdf', _⟩
  cases hx with
  | normal => exact ⟨hdf', aDw hT M' hlst hl hk⟩
  | exit i => cases hk
  | ret => exact ⟨hdf', aDw hT M' hlst hl hk⟩
  | panic v u q _ => cases hk
theorem FnOKP.of_run {fid : Nat} {fn : Func} {c : Code} (hf : P.funcs[fid]? = some fn) (hb : fn.body = some c) (hname : (fn.name == "runtime.NumGoroutine") = false) (hT : TTok P E.tt) (hE : zV P E) (hm : P.follows .mixedOrders = true)
  {H : List (Nat × Hint)} {ins res pv : Sh} {ex : List (Nat × Nat)} (hnx : Nat.ble ex.length ins.len = true) (hlst : ins.lst = true) (hlen : Nat.ble ins.len 900000 = true) (hnt : Nat.ble fn.ntmps 900000 = true) (hds : (Code.dsts c).all (fun i => Nat.blt i fn.ntmps) = true) :
  FnOKP P fid ⟨ins, res, pv, aVk E H c fn.results.toList ex.length ins res pv, ex⟩ where
 ent := aUh hf hb hname
 calls := by
  intro C ρ gx args w x y hgx hy hG M q
  simp only at hgx hy M q
  have hn1 := Nat.le_of_ble_eq_true hlen
  have hn2 := Nat.le_of_ble_eq_true hnt
  obtain ⟨Ms, hl⟩ := aH6 hlst (Nat.le_of_ble_eq_true hnx) hn1 hgx M q (fn.ntmps - args.size)
  have hal : ex.length + args.size = ins.len := by rw [← hl, ← hgx]; simp
  have hsz : (jM args (fn.ntmps - args.size)).tmps.size = args.size + (fn.ntmps - args.size) := by simp [jM]
  refine calls_of_wp hf hb ?_
  unfold aVk at hy
  refine wp_mono (nP (n := (jM args (fn.ntmps - args.size)).tmps.size) (df := []) hT hE hm (by omega) c hy hG Ms rfl rfl (fun i hi => by
   have := Nat.le_of_ble_eq_true (List.all_eq_true.1 hds i hi)
   omega)) ?_
  have fin : ∀ {σ' : St} {ρ' : Nat → Loc} {pr' : dU} {a' : Act} {w' : World}, (uT E ins.io res fn.results.toList σ').map Sum.inl = some y → Mo C σ' ρ' pr' (fa (lZ (gx ++ args.toList)) a') w' → a'.defers = [] →
    a'.defers = [] ∧ ∃ v, (results fn a'.tmps).run P w' = .ok v w' ∧ bHl ins res pv (gx ++ args.toList) C y (.returned v) w' := by
   intro σ' ρ' pr' a' w' hk M' hd
   simp only [Option.map_eq_some_iff] at hk
   obtain ⟨y', hk, rfl⟩ := hk
   exact ⟨hd, aDw hT M' hlst hl hk⟩
  rintro e a' w' ⟨xx, σ', ρ', pr', hx, hk, M', ha', hdf', _⟩
  cases hx with
  | normal => exact fin hk M' hdf'
  | exit i => cases hk
  | ret => exact fin hk M' hdf'
  | panic v u q _ =>
   simp only [Option.map_eq_some_iff] at hk
   obtain ⟨z, hk, rfl⟩ := hk
   exact ⟨hdf', bCh M' hlst hl q hk⟩
end
end Ab
end
section
namespace Ab
open Go
abbrev aG (n : Int) : Int := IntKind.i64.wrap n
abbrev aSq (n : Int) : Int := IntKind.u8.wrap n
abbrev aZ3 (n : Int) : Int := IntKind.u64.wrap n
abbrev emptyS : ByteArray := ⟨#[]⟩
def aGd {A B : Type} (d : A) (x : A ⊕ B) : A := match x with
 | .inl y => y
 | .inr _ => d
def rM {A B : Type} (d : B) (x : A ⊕ B) : B := match x with
 | .inl _ => d
 | .inr y => y
def isL {A B : Type} (x : A ⊕ B) : Bool := match x with
 | .inl _ => true
 | .inr _ => false
def bJn {A B : Type} (k : B → Bool) (x : A ⊕ B) : Bool := match x with
 | .inl _ => false
 | .inr y => k y
def Tot {R : Type} (m : Option R) (Q : R → Prop) : Prop := ∃ r, m = some r ∧ Q r
theorem aA {R : Type} {r : R} {Q : R → Prop} (h : Q r) : Tot (some r) Q := ⟨r, rfl, h⟩
theorem dH {R : Type} {c : Bool} {a : Option R} {Q : R → Prop} (hc : c = true) (h : Tot a Q) : Tot (bif c then a else none) Q := by subst hc; exact h
theorem aB {R : Type} {c : Bool} {a b : Option R} {Q : R → Prop} (h1 : c = true → Tot a Q) (h2 : c = false → Tot b Q) : Tot (bif c then a else b) Q := by
 cases c
 ·exact h2 rfl
 exact h1 rfl
theorem aC {R S : Type} {m : Option S} {k : S → Option R} {P : S → Prop} {Q : R → Prop} (h : Tot m P) (hk : ∀ y, P y → Tot (k y) Q) : Tot (aD m k) Q := by
 obtain ⟨y, rfl, hy⟩ := h
 rw [oG]
 exact hk y hy
theorem dC {R : Type} (a : Option R) : both a a = a := by rw [aMo, if_pos rfl]
theorem aEh {α β : Type} (p : α × β) : (p.1, p.2) = p := rfl
theorem dO {R : Type} {a b : Option R} {Q : R → Prop} (e : a = b) (h : Tot a Q) : Tot (both a b) Q := by
 subst e; rw [aMo, if_pos rfl]; exact h
theorem bF {X R : Type} {m : Option (X ⊕ R)} {b : X → Option R} {P : X → Prop} {Q : R → Prop} (h : Tot m (fun y => match y with | .inl x => P x | .inr r => Q r)) (hb : ∀ x, P x → Tot (b x) Q) : Tot (dA m b) Q := by
 obtain ⟨y, rfl, hy⟩ := h
 rw [aRq]
 cases y with
 | inl x => exact hb x hy
 | inr r => exact ⟨r, rfl, hy⟩
theorem bJh {X R : Type} {m : Option R} {Q : X ⊕ R → Prop} (h : Tot m (fun r => Q (.inr r))) : Tot (m.map Sum.inr) Q := by
 obtain ⟨y, rfl, hy⟩ := h
 exact ⟨_, rfl, hy⟩
theorem aH {R : Type} {c : Bool} {a : Option R} {Q : R → Prop} (h : Tot a Q) (hc : c = true := by grind) : Tot (bif c then a else none) Q := dH hc h
theorem Tot.mono {R : Type} {m : Option R} {P Q : R → Prop} (h : Tot m P) (hk : ∀ y, P y → Q y) : Tot m Q := by
 obtain ⟨y, e, hy⟩ := h
 exact ⟨y, e, hk y hy⟩
theorem Tot.eq {R : Type} {m : Option R} {r : R} (h : Tot m (· = r)) : m = Option.some r := by obtain ⟨_, e, rfl⟩ := h; exact e
theorem Tot.of_eq {R : Type} {m : Option R} {r : R} {Q : R → Prop} (e : m = Option.some r) (h : Q r) : Tot m Q := ⟨r, e, h⟩
theorem Tot.rounds {X R : Type} {Φ : (X → Option R) → X → Option R} {Q : R → Prop} (I : X → Prop) (m : X → Nat)
  (h : ∀ L x, I x → (∀ x', I x' → m x' < m x → Tot (L x') Q) → Tot (Φ L x) Q) : ∀ (n : Nat) (x : X), I x → m x < n → Tot (rounds Φ n x) Q := by
 intro n
 induction n with
 | zero => intro x _ h; omega
 | succ n ih => intro x hx hn; exact h _ x hx fun x' hx' hm => ih x' hx' (by omega)
theorem eZ {X R : Type} {Φ : (X → Option R) → X → Option R} {x : X} {Q : R → Prop} (I : X → Prop) (m : X → Nat)
  (h0 : I x) (hm : m x < 9223372036854775808) (h : ∀ L x, I x → (∀ x', I x' → m x' < m x → Tot (L x') Q) → Tot (Φ L x) Q) : Tot (bE Φ x) Q := by
 rw [aW0]
 exact Tot.rounds I m h _ x h0 hm
theorem aX {X R : Type} {Φ : (X → Option R) → X → Option R} {x : X} {Q : R → Prop} (I : X → Prop) (m : X → Nat)
  (h : ∀ L x, I x → (∀ x', I x' → m x' < m x → Tot (L x') Q) → Tot (Φ L x) Q) (h0 : I x := by grind) (hm : m x < 9223372036854775808 := by grind) : Tot (bE Φ x) Q := eZ I m h0 hm h
theorem bH3 {i : Int} {n : Nat} : inb i n = true ↔ 0 ≤ i ∧ i < (n : Int) := by unfold inb; exact decide_eq_true_iff
theorem aAg {i : Int} {n : Nat} (h1 : 0 ≤ i) (h2 : i < (n : Int)) : inb i n = true := bH3.2 ⟨h1, h2⟩
theorem eX {n b : Nat} (h : n ≤ 1000000000) (hb : b ≤ 100000 := by decide) : fits n b = true := by
 unfold fits
 refine decide_eq_true ⟨?_, by omega⟩
 exact Nat.le_trans (Nat.mul_le_mul h hb) (by decide)
theorem jB {r : Ty} {xs : List r.T} {i : Int} (h1 : 0 ≤ i) (h2 : i < (xs.length : Int)) : iG r xs i ∈ xs := by
 unfold iG
 have : i.toNat < xs.length := by omega
 rw [List.getD_eq_getElem?_getD, List.getElem?_eq_getElem this]
 exact List.getElem_mem this
theorem aW {α : Type} (xs : List α) (i : Int) (x : α) : (dP xs i x).length = xs.length := by simp [dP]
theorem aU2 {α : Type} {xs : List α} {i : Int} {x : α} {P : α → Prop} (h : ∀ x ∈ xs, P x) (hx : P x) : ∀ y ∈ dP xs i x, P y := fun y hy => by
 rcases List.mem_or_eq_of_mem_set hy with h' | h'
 ·exact h y h'
 subst h'; exact hx
theorem bG3 {α : Type} (xs : List α) {lo hi : Int} (h1 : 0 ≤ lo) (h2 : lo ≤ hi) (h3 : hi ≤ (xs.length : Int)) : ((cut xs lo hi).length : Int) = hi - lo := by
 simp only [cut, List.length_take, List.length_drop]; omega
theorem aMs {α : Type} {xs ys : List α} {P : α → Prop} (h : ∀ x ∈ xs, P x) (k : ∀ x ∈ ys, P x) : ∀ x ∈ xs ++ ys, P x := fun x hx => by
 rcases List.mem_append.1 hx with h' | h'
 ·exact h x h'
 exact k x h'
theorem aMk {α : Type} {x : α} {P : α → Prop} (h : P x) : ∀ y ∈ [x], P y := fun y hy => by rw [List.mem_singleton.1 hy]; exact h
theorem kR {r : Ty} {xs : List r.T} {P : r.T → Prop} (h : ∀ k : Int, 0 ≤ k → k < (xs.length : Int) → P (iG r xs k)) : ∀ x ∈ xs, P x := fun x hx => by
 obtain ⟨i, hi, e⟩ := List.mem_iff_getElem.1 hx
 have := h i (by omega) (by omega)
 unfold iG at this
 rw [List.getD_eq_getElem?_getD, Int.toNat_natCast, List.getElem?_eq_getElem hi] at this
 rw [← e]; exact this
theorem nV {r : Ty} {xs : List r.T} {i : Int} (h1 : 0 ≤ i) (h2 : i < (xs.length : Int)) : xs.take (i + 1).toNat = xs.take i.toNat ++ [iG r xs i] := by
 have hi : i.toNat < xs.length := by omega
 rw [show (i + 1).toNat = i.toNat + 1 by omega, List.take_succ_eq_append_getElem hi]
 unfold iG
 rw [List.getD_eq_getElem?_getD, List.getElem?_eq_getElem hi]; rfl
def aV (xs : List Int) (i : Int) : Int := iG (.int .i64) xs i
def aGl (xs : List Int) (i : Int) : Int := iG (.int .u8) xs i
def sW (xs : List Bool) (i : Int) : Bool := iG .bool xs i
def gP (xs : List ByteArray) (i : Int) : ByteArray := iG .str xs i
theorem dB {xs : List Int} {i : Int} (h1 : 0 ≤ i) (h2 : i < (xs.length : Int)) : aV xs i ∈ xs := jB (r := .int .i64) h1 h2
theorem bJo {xs : List Int} {i : Int} (h1 : 0 ≤ i) (h2 : i < (xs.length : Int)) : aGl xs i ∈ xs := jB (r := .int .u8) h1 h2
theorem iX {xs : List ByteArray} {i : Int} (h1 : 0 ≤ i) (h2 : i < (xs.length : Int)) : gP xs i ∈ xs := jB (r := .str) h1 h2
theorem jR {xs : List Int} {P : Int → Prop} (h : ∀ k : Int, 0 ≤ k → k < (xs.length : Int) → P (aV xs k)) : ∀ x ∈ xs, P x := kR (r := .int .i64) h
theorem bCl {xs : List Int} {i : Int} (h1 : 0 ≤ i) (h2 : i < (xs.length : Int)) : xs.take (i + 1).toNat = xs.take i.toNat ++ [aV xs i] := nV (r := .int .i64) h1 h2
end Ab
end
section
namespace Ab
open Go
def aMg : List (Nat × List FS) → Nat → List FS
 | [], _ => []
 | p :: l, j => bif Nat.beq p.1 j then p.2 else aMg l j
def mD (f : Func) : Code := match f.body with
 | some c => c
 | none => .skip
def fnB (fn : Func) (ins : Sh) (nx : Nat) : Bool :=
 (match fn.body with | some _ => true | none => false) && Nat.ble nx ins.len && ins.lst && Nat.ble ins.len 900000 && Nat.ble fn.ntmps 900000 && (Code.dsts (mD fn)).all (fun i => Nat.blt i fn.ntmps)
variable {P : Program}
def OneL (P : Program) (f : Nat) (l : List FS) : Prop := ∀ fs ∈ l, FnOK P f fs
theorem OneL.nil {f : Nat} : OneL P f [] := fun _ h => by cases h
theorem OneL.cons {f : Nat} {fs : FS} {l : List FS} (h : FnOK P f fs) (k : OneL P f l) : OneL P f (fs :: l) := fun x hx => by
 rcases List.mem_cons.1 hx with rfl | hx
 ·exact h
 exact k x hx
theorem OneL.one {f : Nat} {fs : FS} (h : FnOK P f fs) : OneL P f [fs] := .cons h .nil
def EnvL (P : Program) (l : List (Nat × List FS)) : Prop := ∀ p ∈ l, OneL P p.1 p.2
theorem EnvL.nil : EnvL P [] := fun _ h => by cases h
theorem EnvL.cons {f : Nat} {s : List FS} {l : List (Nat × List FS)} (h : OneL P f s) (k : EnvL P l) : EnvL P ((f, s) :: l) := fun x hx => by
 rcases List.mem_cons.1 hx with rfl | hx
 ·exact h
 exact k x hx
theorem EnvL.ok' : ∀ {l : List (Nat × List FS)}, EnvL P l → ∀ f, ∀ fs ∈ aMg l f, FnOK P f fs
 | [], _ => fun _ _ h => by cases h
 | p :: l, h => fun f fs hfs => by
  obtain ⟨k, s⟩ := p
  simp only [aMg] at hfs
  cases hb : Nat.beq k f with
  | true =>
   rw [hb] at hfs
   have := Nat.eq_of_beq_eq_true hb
   subst this
   exact h (k, s) (by simp) fs hfs
  | false =>
   rw [hb] at hfs
   exact EnvL.ok' (l := l) (fun p hp => h p (List.mem_cons_of_mem _ hp)) f fs hfs
theorem EnvL.ok {tt : Nat → Option TI} {l : List (Nat × List FS)} (h : EnvL P l) : zV P { tt := tt, fs := aMg l } := ⟨EnvL.ok' h, fun _ _ h => by cases h⟩
theorem FnOK.of_run2 {fid : Nat} {fn : Func} {tt : Nat → Option TI} {fso : Nat → List FS} {H : List (Nat × Hint)} {ins res : Sh} {ex : List (Nat × Nat)} {F : ins.T → Option (Sh.out ins.io res).T}
  (hf : P.funcs[fid]? = some fn) (_hb : (match fn.body with | some _ => true | none => false) = true) (hname : (fn.name == "runtime.NumGoroutine") = false) (hT : TTok P tt) (hE : zV P { tt := tt, fs := fso }) (hm : P.follows .mixedOrders = true)
  (hB : fnB fn ins ex.length = true) (hF : aVl { tt := tt, fs := fso } H (mD fn) fn.results.toList ex.length ins res = F) : FnOK P fid ⟨ins, res, F, ex⟩ := by
 subst hF
 simp only [fnB, Bool.and_eq_true] at hB
 obtain ⟨⟨⟨⟨⟨h1, h2⟩, h3⟩, h4⟩, h5⟩, h6⟩ := hB
 have hb : fn.body = some (mD fn) := by
  unfold mD
  cases hbb : fn.body with
  | none => rw [hbb] at h1; cases h1
  | some c => rfl
 exact FnOK.of_run hf hb hname hT hE hm h2 h3 h4 h5 h6
def bB3 : List (Nat × List FSP) → Nat → List FSP
 | [], _ => []
 | p :: l, j => bif Nat.beq p.1 j then p.2 else bB3 l j
def OneP (P : Program) (f : Nat) (l : List FSP) : Prop := ∀ fs ∈ l, FnOKP P f fs
theorem OneP.nil {f : Nat} : OneP P f [] := fun _ h => by cases h
theorem OneP.cons {f : Nat} {fs : FSP} {l : List FSP} (h : FnOKP P f fs) (k : OneP P f l) : OneP P f (fs :: l) := fun x hx => by
 rcases List.mem_cons.1 hx with rfl | hx
 ·exact h
 exact k x hx
def EnvP (P : Program) (l : List (Nat × List FSP)) : Prop := ∀ p ∈ l, OneP P p.1 p.2
theorem EnvP.nil : EnvP P [] := fun _ h => by cases h
theorem EnvP.cons {f : Nat} {s : List FSP} {l : List (Nat × List FSP)} (h : OneP P f s) (k : EnvP P l) : EnvP P ((f, s) :: l) := fun x hx => by
 rcases List.mem_cons.1 hx with rfl | hx
 ·exact h
 exact k x hx
theorem EnvP.ok' : ∀ {l : List (Nat × List FSP)}, EnvP P l → ∀ f, ∀ fs ∈ bB3 l f, FnOKP P f fs
 | [], _ => fun _ _ h => by cases h
 | p :: l, h => fun f fs hfs => by
  obtain ⟨k, s⟩ := p
  simp only [bB3] at hfs
  cases hb : Nat.beq k f with
  | true =>
   rw [hb] at hfs
   have := Nat.eq_of_beq_eq_true hb
   subst this
   exact h (k, s) (by simp) fs hfs
  | false =>
   rw [hb] at hfs
   exact EnvP.ok' (l := l) (fun p hp => h p (List.mem_cons_of_mem _ hp)) f fs hfs
theorem EnvL.okP {tt : Nat → Option TI} {l : List (Nat × List FS)} {m : List (Nat × List FSP)} (h : EnvL P l) (k : EnvP P m) : zV P { tt := tt, fs := aMg l, fp := bB3 m } := ⟨EnvL.ok' h, EnvP.ok' k⟩
theorem FnOK.of_run3 {fid : Nat} {fn : Func} {E : Env} {H : List (Nat × Hint)} {ins res : Sh} {ex : List (Nat × Nat)} {F : ins.T → Option (Sh.out ins.io res).T}
  (hf : P.funcs[fid]? = some fn) (_hb : (match fn.body with | some _ => true | none => false) = true) (hname : (fn.name == "runtime.NumGoroutine") = false) (hT : TTok P E.tt) (hE : zV P E) (hm : P.follows .mixedOrders = true)
  (hB : fnB fn ins ex.length = true) (hF : aVl E H (mD fn) fn.results.toList ex.length ins res = F) : FnOK P fid ⟨ins, res, F, ex⟩ := by
 subst hF
 simp only [fnB, Bool.and_eq_true] at hB
 obtain ⟨⟨⟨⟨⟨h1, h2⟩, h3⟩, h4⟩, h5⟩, h6⟩ := hB
 have hb : fn.body = some (mD fn) := by
  unfold mD
  cases hbb : fn.body with
  | none => rw [hbb] at h1; cases h1
  | some c => rfl
 exact FnOK.of_run hf hb hname hT hE hm h2 h3 h4 h5 h6
theorem FnOKP.of_run3 {fid : Nat} {fn : Func} {E : Env} {H : List (Nat × Hint)} {ins res pv : Sh} {ex : List (Nat × Nat)} {F : ins.T → Option ((Sh.out ins.io res).T ⊕ (Sh.out ins.io pv).T)}
  (hf : P.funcs[fid]? = some fn) (_hb : (match fn.body with | some _ => true | none => false) = true) (hname : (fn.name == "runtime.NumGoroutine") = false) (hT : TTok P E.tt) (hE : zV P E) (hm : P.follows .mixedOrders = true)
  (hB : fnB fn ins ex.length = true) (hF : aVk E H (mD fn) fn.results.toList ex.length ins res pv = F) : FnOKP P fid ⟨ins, res, pv, F, ex⟩ := by
 subst hF
 simp only [fnB, Bool.and_eq_true] at hB
 obtain ⟨⟨⟨⟨⟨h1, h2⟩, h3⟩, h4⟩, h5⟩, h6⟩ := hB
 have hb : fn.body = some (mD fn) := by
  unfold mD
  cases hbb : fn.body with
  | none => rw [hbb] at h1; cases h1
  | some c => rfl
 exact FnOKP.of_run hf hb hname hT hE hm h2 h3 h4 h5 h6
theorem FnOK.zero {fid : Nat} {fn : Func} {ins res : Sh} {ex : List (Nat × Nat)} (hf : P.funcs[fid]? = some fn) (h1 : (match fn.body with | some _ => true | none => false) = true) (hname : (fn.name == "runtime.NumGoroutine") = false)
  {F : ins.T → Option (Sh.out ins.io res).T} (hF : ∀ x, F x = none := by intro _; rfl) : FnOK P fid ⟨ins, res, F, ex⟩ where
 ent := by
  cases hbb : fn.body with
  | none => rw [hbb] at h1; cases h1
  | some c => exact aUh hf hbb hname
 calls := fun C ρ gx args w x y _ hy _ => by
  have := hF x
  simp only at hy
  rw [this] at hy; cases hy
end Ab
end
section
namespace Ab
open Go
def aEi : Sh → Bool
 | .nil => true
 | .cons (.sc _) b => aEi b
 | .cons (.own _ _) b => aEi b
 | _ => false
def aLv : Sh → SV
 | .cons _ b => .cons .dead (aLv b)
 | _ => .nil
theorem aKo {σ : St} {vis : List Nat} : ∀ {s : Sh}, aEi s = true → s.io.get σ (aLv s) vis = some (s.io.z, vis, [])
 | .nil, _ => rfl
 | .cons (.sc t) b, h => by
  have := aKo (σ := σ) (vis := vis) (s := b) h
  show (Sh.cons .dead b.io).get σ (.cons .dead (aLv b)) vis = _
  simp only [Sh.get, Option.bind_some, this]
  rfl
 | .cons (.own e r) b, h => by
  have := aKo (σ := σ) (vis := vis) (s := b) h
  show (Sh.cons .dead b.io).get σ (.cons .dead (aLv b)) vis = _
  simp only [Sh.get, Option.bind_some, this]
  rfl
theorem aW6 {h : Hp} {ρ : Nat → Loc} {w : World} {pr : dU} : ∀ {s : Sh} {vs : List Value}, s.lst = true → s.len = vs.length → Rp h ρ w pr (aLv s) vs
 | .nil, vs, _, hl => List.eq_nil_of_length_eq_zero hl.symm
 | .cons a b, [], _, hl => by simp [Sh.len] at hl
 | .cons a b, v :: vs, h, hl => ⟨v, vs, rfl, ⟨v, rfl⟩, aW6 (s := b) h (by simpa [Sh.len] using hl)⟩
theorem aFt : ∀ {s : Sh}, aEi s = true → s.lst = true
 | .nil, _ => rfl
 | .cons (.sc _) b, h => aFt (s := b) h
 | .cons (.own _ _) b, h => aFt (s := b) h
def bHg (ins res : Sh) (r : res.T) : (Sh.out ins.io res).T := Sh.mk (.tup ins.io) (.cons res .nil) ins.io.z (Sh.mk res .nil r ())
variable {P : Program}
theorem FnOK.plain {fid : Nat} {ins res : Sh} {F : ins.T → Option (Sh.out ins.io res).T} (hp : aEi ins = true) (ent : ∀ args w, (callFunc fid args).run P w = .ok (.enter fid args) w)
  (h : ∀ (C : Cx) (ρ : Nat → Loc) (args : Array Value) (w : World) (x : ins.T) y, F x = some y → Gl P C → Mo C ⟨[], jN (dS ins x).os⟩ ρ C.pr (fun _ => undef) w →
   Rp (fun n => lk (dS ins x).os n) ρ w C.pr (dS ins x).v args.toList →
   Calls P fid args w fun e w' => ∃ v, e = .returned v ∧ ∃ σe ρe pre fe rv r vis bor, Mo C σe ρe pre fe w' ∧ res.get σe rv [] = some (r, vis, bor) ∧ eB bor vis = true ∧ Rp σe.obj ρe w' pre rv [v] ∧ y = bHg ins res r) :
  FnOK P fid ⟨ins, res, F, []⟩ where
 ent := ent
 calls := by
  intro C ρ gx args w x y hgx hy hG M q
  have hgx : gx = [] := List.eq_nil_of_length_eq_zero hgx
  subst hgx
  rw [List.nil_append] at q ⊢
  refine (h C ρ args w x y hy hG M q).mono ?_
  rintro e w' ⟨v, rfl, σe, ρe, pre, fe, rv, r, vis, bor, Me, hg, hd, qr, rfl⟩
  have hl : ins.len = args.toList.length := by
   obtain ⟨h1, h2⟩ := aMj (jL ins) (s := ins) x (jL ins) (aFt hp)
   rw [← h2]; exact (Rp.llen h1 q).symm
  refine ⟨v, rfl, σe, ρe, pre, fe, aLv ins, rv, vis, bor, Me, ?_, hd, aW6 (aFt hp) hl, qr⟩
  show ((Sh.tup ins.io).get σe (.tup (aLv ins)) []).bind (fun p => ((Sh.cons res .nil).get σe (.cons rv .nil) p.2.1).bind fun q => some (Sh.mk (.tup ins.io) (.cons res .nil) p.1 q.1, q.2.1, p.2.2 ++ q.2.2)) = _
  have e1 : (Sh.tup ins.io).get σe (.tup (aLv ins)) [] = some (ins.io.z, [], []) := aKo hp
  rw [e1]
  simp only [Option.bind_some, Sh.get, hg, List.nil_append, List.append_nil]
  rfl
theorem fn_ent {fid : Nat} {fn : Func} (hf : P.funcs[fid]? = some fn) (h1 : (match fn.body with | some _ => true | none => false) = true) (hname : (fn.name == "runtime.NumGoroutine") = false) (args : Array Value) (w : World) : (callFunc fid args).run P w = .ok (.enter fid args) w := by
 cases hbb : fn.body with
 | none => rw [hbb] at h1; cases h1
 | some c => exact aUh hf hbb hname args w
end Ab
end
noncomputable section
namespace Ab
open Go
def strings_Cut (x : ByteArray × ByteArray) : Option (ByteArray × ByteArray × Bool) :=
 bif decide (x.1.size < 4294967281) then some (⟨(Lib.cut x.1.data.toList x.2.data.toList).1.toArray⟩, ⟨(Lib.cut x.1.data.toList x.2.data.toList).2.1.toArray⟩, (Lib.cut x.1.data.toList x.2.data.toList).2.2) else none
def strings_Split (x : ByteArray × ByteArray) : Option (List ByteArray) :=
 bif decide (x.1.size < 4294967281) && decide (1 ≤ x.2.size) && decide ((Lib.splitB x.2 0 (Lib.countB x.1 x.2) x.1).length ≤ 1000000) then some (Lib.splitB x.2 0 (Lib.countB x.1 x.2) x.1) else none
def strconv_Atoi (x : ByteArray) : Option (Int × Bool) :=
 bif decide (x.size ≤ 281474976710656) then match Lib.atoiAll x.data.toList with
  | .ok v => some (v, false)
  | .range => some (Lib.atoiSat x.data.toList, true)
  | _ => some (0, true)
 else none
def strconv_Itoa (x : Int) : Option ByteArray := bif decide (-9223372036854775808 ≤ x) && decide (x ≤ 9223372036854775807) then some ⟨(Lib.itoa x).toArray⟩ else none
def gJ (x : List (Int × Int × Int × List Int) × Int × List (Int × Int × Int × List Int)) : Option (List (Int × Int × Int × List Int)) :=
 bif decide (0 ≤ x.2.1) && decide (x.2.1 ≤ x.1.length) && decide (x.2.2.length = 1) && fits (x.1.length + 1) 48 then some (x.1.take x.2.1.toNat ++ x.2.2 ++ x.1.drop x.2.1.toNat) else none
def sortedKeys (es : List (Int × Int)) : List Int := (es.map (·.1)).mergeSort fun x y => decide (x ≤ y)
def aJ4 (x : List (Int × Int) × List Int) : Option (List (Int × Int) × List (Int × Int)) :=
 bE (fun (L1 : ((List (Int × Int)) × List (Int × Int) × List Int × Int) → Option _) (z2 : (List (Int × Int)) × List (Int × Int) × List Int × Int) =>
  bif decide (z2.2.2.2 < (x.2.length : Int)) then
   bif inb z2.2.2.2 z2.2.2.1.length then
   let v3 : Bool := (aC0 (.int .i64) (.int .i64) (aV z2.2.2.1 z2.2.2.2) z2.1) != 0
   bif v3 then
    let v4 : Int := (aC0 (.int .i64) (.int .i64) (aV z2.2.2.1 z2.2.2.2) z2.1)
    bif fits (z2.2.1.length + ([(aV z2.2.2.1 z2.2.2.2, v4)] : List (Int × Int)).length) 16 then
    let v5 : List (Int × Int) := z2.2.1 ++ ([(aV z2.2.2.1 z2.2.2.2, v4)] : List (Int × Int))
    L1 (z2.1, (v5, (z2.2.2.1, aG (z2.2.2.2 + 1))))
    else none
   else
    L1 (z2.1, (z2.2.1, (z2.2.2.1, aG (z2.2.2.2 + 1))))
   else none
  else
   some (z2.1, z2.2.1)) (x.1, ([], (x.2, 0)))
def jO (x : List (Int × Int)) : Option (List (Int × Int) × List (Int × Int)) :=
 bif (x.all fun e => (Lit.int .i64 e.1).wf) && decide (x.length ≤ 1000000) then aJ4 (x, sortedKeys x) else none
end Ab
end
section
namespace Ab
open Go
variable {P : Program} {ops : Array Oper} {Q : Exit → Act → World → Prop} {a : Act} {w : World}
def bHb (P : Program) (ops : Array Oper) (Q : Exit → Act → World → Prop) (l2 : List Oper) : Exit → Act → World → Prop
 | .normal, a, w => wpList P ops Q l2 a w
 | e, a, w => Q e a w
theorem bCi {o : Oper} {l2 : List Oper} {a : Act} {w : World} {K : Act → World → Prop} : o.wp P a w K (bHb P ops Q l2) = o.wp P a w K Q := by
 unfold Oper.wp
 generalize (execOp a.eval o).run P w = r
 cases r with
 | ok n w' => cases n <;> rfl
 | halt x w' => cases x <;> rfl
theorem aG1 {l2 : List Oper} : ∀ (l1 : List Oper) {a : Act} {w : World}, wpList P ops (bHb P ops Q l2) l1 a w → wpList P ops Q (l1 ++ l2) a w
 | [], a, w, h => h
 | o :: l1, a, w, h => by
  simp only [wpList, List.cons_append] at h ⊢
  split at h
  ·rename_i hw
   rw [if_pos hw]
   rcases h with h | ⟨h1, h2⟩
   ·rw [bCi] at h
    exact .inl (Oper.wp_mono (fun a w h => aG1 l1 h) h)
   exact .inr ⟨h1, h2⟩
  rename_i hw
  rw [if_neg hw]
  exact aG1 l1 h
theorem aKu {o : Oper} {rest : List Oper} {f : Nat} {args : Array Operand} {ts : Array TypeId} (hg : o.guard = none) (ho : o.op = .call { callee := .value (.func f), args := args, argTypes := ts })
  (hent : ∀ args w, (callFunc f args).run P w = .ok (.enter f args) w) (h : Calls P f (args.map a.eval) w fun e w' => ∃ v, e = .returned v ∧ wpList P ops Q rest (a.put o.dst v) w') : wpList P ops Q (o :: rest) a w := by
 simp only [wpList]
 have hw : Region.wanted o (yielded ops a.tmps) = true := by simp [Region.wanted, hg]
 rw [if_pos hw]
 refine .inl ?_
 unfold Oper.wp
 have : (execOp a.eval o).run P w = .ok (.enter f (args.map a.eval)) w := by
  unfold execOp
  simp only [ho, resolve]
  have : a.eval (.func f) = .func (.func f) #[] #[] := rfl
  rw [this]
  simp only [Deferred.ofValue, Sem.run_bind, Sem.run_pure, Result.andThen, invoke, Array.append_empty, Array.empty_append]
  exact hent _ _
 rw [this, Oper.upon_enter]
 refine h.mono ?_
 rintro e w' ⟨v, rfl, h⟩
 exact h
def aDk : Code → Code
 | .seq a _ => a
 | c => c
def vE : Code → Code
 | .seq _ b => b
 | c => c
def bHp : Code → Array Oper
 | .region _ ops _ => ops
 | _ => #[]
def fM (l : Array Oper) (i : Nat) : Oper := l.toList.getD i default
end Ab
end
noncomputable section
namespace Ab
open Go
abbrev cP2 : Ty := .cons (.int .i64) (.cons (.int .i64) .nil)
abbrev II : Ty := .int .i64
abbrev cS3 : Ty := .cons II cP2
abbrev aJn : Ty := .alt 168 true (.cons (.int .i64) .nil) (.alt 170 true cP2 (.alt 172 true cP2 (.alt 173 true cP2 .noi)))
abbrev bCc : Ty := .alt 118 true (.cons (.int .i64) .nil) .noi
def nN (x : Int × List Int × List (Int × Int) × (Int ⊕ Unit)) : Option (Int × List Int × List (Int × Int)) :=
 bif !(bJn (fun _ => true) x.2.2.2) then
  bif isL x.2.2.2 then some (aGd 0 x.2.2.2, ([], [])) else some (9, ([], []))
 else some (x.1, (x.2.1, x.2.2.1))
def xS (F82 : List (Int × (Int × Int)) → Option (List (Int ⊕ ((Int × Int) ⊕ ((Int × Int) ⊕ ((Int × Int) ⊕ Unit)))) × Bool)) (F83 : List (Int × Int) → Option Bool)
  (F85 : ((List Int × List Bool × List Int) × (Int ⊕ ((Int × Int) ⊕ ((Int × Int) ⊕ ((Int × Int) ⊕ Unit))))) → Option ((List Int × List Bool × List Int) ⊕ ((List Int × List Bool × List Int) × (Int ⊕ Unit))))
  (x : List (Int × (Int × Int)) × List (Int × Int)) : Option (Int × List Int × List (Int × Int)) :=
 aD (F82 x.1) fun r1 =>
 bif !r1.2 then some (9, ([], []))
 else
  aD (F83 x.2) fun r2 =>
  bif !r2 then some (9, ([], []))
  else
   bE (fun (L1 : (Int × List Int × List (Int × Int) × (List (Int ⊕ ((Int × Int) ⊕ ((Int × Int) ⊕ ((Int × Int) ⊕ Unit))))) × (List Int × List Bool × List Int) × Int) → Option _) (z2 : Int × List Int × List (Int × Int) × (List (Int ⊕ ((Int × Int) ⊕ ((Int × Int) ⊕ ((Int × Int) ⊕ Unit))))) × (List Int × List Bool × List Int) × Int) =>
    bif decide (z2.2.2.2.2.2 < (x.2.length : Int)) then
     bif inb z2.2.2.2.2.2 x.2.length then
     bif inb (iG cP2 x.2 z2.2.2.2.2.2).1 32 then
     let v3 : List Int := dP z2.2.2.2.2.1.1 (iG cP2 x.2 z2.2.2.2.2.2).1 (iG cP2 x.2 z2.2.2.2.2.2).2
     L1 (z2.1, (z2.2.1, (z2.2.2.1, (z2.2.2.2.1, ((v3, z2.2.2.2.2.1.2), aG (z2.2.2.2.2.2 + 1))))))
     else none
     else none
    else
     bE (fun (L4 : ((List Int × List Bool × List Int) × List (Int × Int) × List Int × Int × (List (Int ⊕ ((Int × Int) ⊕ ((Int × Int) ⊕ ((Int × Int) ⊕ Unit))))) × Int) → Option _) (z5 : (List Int × List Bool × List Int) × List (Int × Int) × List Int × Int × (List (Int ⊕ ((Int × Int) ⊕ ((Int × Int) ⊕ ((Int × Int) ⊕ Unit))))) × Int) =>
      let v6 : Bool := decide (z5.2.2.2.2.2 < (z2.2.2.2.1.length : Int))
      bif v6 then
       bif inb z5.2.2.2.2.2 z5.2.2.2.2.1.length then
       let v7 : Int ⊕ ((Int × Int) ⊕ ((Int × Int) ⊕ ((Int × Int) ⊕ Unit))) := (iG aJn z5.2.2.2.2.1 z5.2.2.2.2.2 : Int ⊕ ((Int × Int) ⊕ ((Int × Int) ⊕ ((Int × Int) ⊕ Unit))))
       aD (F85 (z5.1, v7)) fun y_ => match y_ with
       | .inl r8 =>
        L4 (r8, (z5.2.1, (z5.2.2.1, (z5.2.2.2.1, (z5.2.2.2.2.1, aG (z5.2.2.2.2.2 + 1))))))
       | .inr r9 =>
        nN (z5.2.2.2.1, (z5.2.2.1, (z5.2.1, r9.2)))
       else none
      else
       bE (fun (L10 : (Int × List Int × List (Int × Int) × (List Int × List Bool × List Int) × List Bool × Int) → Option _) (z11 : Int × List Int × List (Int × Int) × (List Int × List Bool × List Int) × List Bool × Int) =>
        bif decide (z11.2.2.2.2.2 < 32) then
         bif inb z11.2.2.2.2.2 32 then
         bif iG .bool z11.2.2.2.2.1 z11.2.2.2.2.2 then
          bif inb z11.2.2.2.2.2 32 then
          bif fits (z11.2.2.1.length + ([(z11.2.2.2.2.2, iG II z11.2.2.2.1.1 z11.2.2.2.2.2)] : List (Int × Int)).length) 16 then
          let v12 : List (Int × Int) := z11.2.2.1 ++ ([(z11.2.2.2.2.2, iG II z11.2.2.2.1.1 z11.2.2.2.2.2)] : List (Int × Int))
          L10 (z11.1, (z11.2.1, (v12, (z11.2.2.2.1, (z11.2.2.2.2.1, aG (z11.2.2.2.2.2 + 1))))))
          else none
          else none
         else
          L10 (z11.1, (z11.2.1, (z11.2.2.1, (z11.2.2.2.1, (z11.2.2.2.2.1, aG (z11.2.2.2.2.2 + 1))))))
         else none
        else
         nN (0, (z11.2.2.2.1.2.2, (z11.2.2.1, (.inr ()))))) (z5.2.2.2.1, (z5.2.2.1, (z5.2.1, (z5.1, (z5.1.2.1, 0)))))) (z2.2.2.2.2.1, (z2.2.2.1, (z2.2.1, (z2.1, (z2.2.2.2.1, 0)))))) (0, ([], ([], (r1.1, ((List.replicate 32 0, (List.replicate 32 false, [])), 0)))))
def qK (FG : Int → Option ByteArray) (FP FA FN : Int × Int → Option ByteArray) : Int ⊕ ((Int × Int) ⊕ ((Int × Int) ⊕ ((Int × Int) ⊕ Unit))) → Option ByteArray
 | .inl k => FG k
 | .inr (.inl p) => FP p
 | .inr (.inr (.inl p)) => FA p
 | .inr (.inr (.inr (.inl p))) => FN p
 | .inr (.inr (.inr (.inr _))) => none
def mW (T : Int ⊕ ((Int × Int) ⊕ ((Int × Int) ⊕ ((Int × Int) ⊕ Unit))) → Option ByteArray) : List (Int ⊕ ((Int × Int) ⊕ ((Int × Int) ⊕ ((Int × Int) ⊕ Unit)))) → ByteArray → Option ByteArray
 | [], acc => some acc
 | s :: l, acc => (T s).bind fun t => bif decide (acc.size + t.size ≤ 1000000) then mW T l (acc ++ t) else none
def aCw (F82 : List (Int × (Int × Int)) → Option (List (Int ⊕ ((Int × Int) ⊕ ((Int × Int) ⊕ ((Int × Int) ⊕ Unit)))) × Bool)) (FG : Int → Option ByteArray) (FP FA FN : Int × Int → Option ByteArray) (x : List (Int × (Int × Int))) : Option ByteArray :=
 aD (F82 x) fun r => bif !r.2 then some emptyS else mW (qK FG FP FA FN) r.1 emptyS
end Ab
end
