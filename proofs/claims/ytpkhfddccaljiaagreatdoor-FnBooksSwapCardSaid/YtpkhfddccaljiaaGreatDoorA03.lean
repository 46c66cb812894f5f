/-
A part of the proof: pure functions told of the program, and laws about them.
-/
import Derived.Test.YtpkhfddccaljiaaGreatDoorA02
import Derived.Lib.LaidTab
import Derived.Lib.ItoaNum
import Derived.OrdersHeld
import Derived.Tactics
set_option linter.all false
section
namespace Ab
open Go
section
variable {P : Program} {E : Env} {C : Cx} {σ : St} {ρ : Nat → Loc} {pr : dU} {f : Nat → Value} {w : World} {a : Act} {o : Oper} {g : Nat → Value}
theorem killL_nil : ∀ v : SV, v.killL [] = v
 | .hd _ | .ptr _ _ | .elp _ _ _ | .dead | .val _ _ | .nsl | .nilp | .rop _ _ | .nil | .nli | .mb _ _ | .arp _ _ | .any | .rap _ _ _ | .sgp _ _ _ _ _ _ | .mp _ => rfl
 | .fn f s => by simp only [SV.killL, killL_nil s]
 | .seg r n xs s => by simp only [SV.killL, killL_nil s]
 | .agg s => by simp only [SV.killL, killL_nil s]
 | .tup s => by simp only [SV.killL, killL_nil s]
 | .cons a b => by simp only [SV.killL, killL_nil a, killL_nil b]
theorem Obj.killL_nil (o : Obj) : o.killL [] = o := by cases o <;> simp [Obj.killL, Ab.killL_nil]
theorem aOx (K : List Nat) : ∀ (l : List (Nat × SV)) (i : Nat), lk (aMm K l) i = (lk l i).map (SV.killL K)
 | [], _ => rfl
 | p :: l, i => by
  obtain ⟨a, v⟩ := p
  simp only [aMm, fG, aOx K l i]
  split <;> rfl
theorem aHf (K : List Nat) : ∀ (l : List (Nat × Option Obj)) (i : Nat), lk (aI1 K l) i = (lk l i).map (Option.map (Obj.killL K))
 | [], _ => rfl
 | p :: l, i => by
  obtain ⟨a, o⟩ := p
  cases o with
  | none => simp only [aI1, fG, aHf K l i]; split <;> rfl
  | some o => simp only [aI1, fG, aHf K l i]; split <;> rfl
theorem aFx {α : Type} : ∀ (l m : List (Nat × α)) (i : Nat), lk (l ++ m) i = match lk l i with | some v => some v | none => lk m i
 | [], _, _ => rfl
 | p :: l, m, i => by
  obtain ⟨a, v⟩ := p
  rw [List.cons_append, fG, fG, aFx l m i]
  split <;> rfl
theorem aWn : ∀ (D : List Nat) (i : Nat), lk (aQ5 D) i = if i ∈ D then some none else none
 | [], _ => rfl
 | k :: D, i => by
  rw [aQ5, fG, aWn D i]
  by_cases h : k = i
  ·simp [h]
  have : ¬ i = k := fun e => h e.symm
  simp [h, this]
theorem aA6 : ∀ (os : List (Nat × Obj)) (i : Nat), lk (jN os) i = (lk os i).map some
 | [], _ => rfl
 | (k, o) :: os, i => by
  rw [jN, fG, fG, aA6 os i]
  split <;> rfl
theorem aZp {α : Type} : ∀ {l : List (Nat × α)} {i : Nat} {v : α}, lk l i = some v → (i, v) ∈ l
 | [], _, _, h => by cases h
 | (a, u) :: l, i, v, h => by
  rw [fG] at h
  split at h
  ·rename_i e; cases h; subst e; simp
  exact List.mem_cons_of_mem _ (aZp h)
theorem aT7 {α : Type} : ∀ {l : List (Nat × α)} {i : Nat} {v : α}, (l.map (·.1)).Nodup → (i, v) ∈ l → lk l i = some v
 | (a, u) :: l, i, v, hn, h => by
  simp only [List.map_cons, List.nodup_cons] at hn
  rw [fG]
  rcases List.mem_cons.1 h with h | h
  ·cases h; simp
  have : ¬ a = i := fun e => by subst e; exact hn.1 (List.mem_map.2 ⟨_, h, rfl⟩)
  rw [if_neg this]; exact aT7 hn.2 h
theorem aT9 {α : Type} : ∀ {l : List (Nat × α)} {i : Nat}, i ∉ l.map (·.1) → lk l i = none
 | [], _, _ => rfl
 | (a, u) :: l, i, h => by
  simp only [List.map_cons, List.mem_cons, not_or] at h
  rw [fG, if_neg (fun e => h.1 e.symm)]; exact aT9 h.2
theorem bFj (K : List Nat) (os : List (Nat × Obj)) (D : List Nat) (i : Nat) : lk (σ.after K os D).sl i = (lk σ.sl i).map (SV.killL K) := by
 unfold St.after
 cases K with
 | nil => simp only []; cases lk σ.sl i <;> simp [killL_nil]
 | cons k K => exact aOx _ _ _
theorem aGb (K : List Nat) (os : List (Nat × Obj)) (D : List Nat) (i : Nat) :
  (σ.after K os D).obj i = match lk os i with | some o => some o | none => if i ∈ D then none else (σ.obj i).map (Obj.killL K) := by
 have key : ∀ hp : List (Nat × Option Obj), lk hp i = (lk σ.hp i).map (Option.map (Obj.killL K)) →
   (match lk (jN os ++ (aQ5 D ++ hp)) i with | some o => o | none => none) = match lk os i with | some o => some o | none => if i ∈ D then none else (σ.obj i).map (Obj.killL K) := by
  intro hp h
  rw [aFx, aA6, aFx, aWn, h]
  cases lk os i with
  | some o => rfl
  | none =>
   simp only [Option.map_none]
   by_cases hD : i ∈ D
   ·simp [hD]
   ·simp only [hD, if_false, St.obj]
    cases lk σ.hp i with
    | none => rfl
    | some o => rfl
 unfold St.after
 cases K with
 | nil =>
  refine key σ.hp ?_
  cases lk σ.hp i with
  | none => rfl
  | some o => cases o <;> simp [Obj.killL_nil]
 | cons k K => exact key _ (aHf _ _ _)
theorem Rp.killL {h h' : Hp} {ρ ρ' : Nat → Loc} {w w' : World} {pr pr' : dU} (hp : PrLe w pr w' pr') (K : List Nat) (hh : ∀ j, j ∉ K → HLe h ρ h' ρ' j) :
  ∀ {v : SV} {vs : List Value}, Rp h ρ w pr v vs → Rp h' ρ' w' pr' (v.killL K) vs
 | .dead, _, q => q
 | .val _ _, _, q => ⟨q.1, q.2.mono hp⟩
 | .nsl, _, q => q
 | .nilp, _, q => q
 | .hd j, _, q => by
  obtain ⟨⟨o, ho, hn⟩, hv⟩ := q
  simp only [SV.killL]
  cases e : jI j K with
  | true => exact ⟨_, hv⟩
  | false =>
   obtain ⟨o', ho', hρ, hle⟩ := hh j (eY.1 e) o ho
   exact ⟨⟨o', ho', hle.sl hn⟩, by rw [hv, hρ]⟩
 | .ptr j o, _, q => by
  obtain ⟨⟨cs, hc⟩, hv⟩ := q
  simp only [SV.killL]
  cases e : jI j K with
  | true => exact ⟨_, hv⟩
  | false =>
   obtain ⟨o', ho', hρ, hle⟩ := hh j (eY.1 e) _ hc
   cases o' <;> simp only [OLe] at hle
   exact ⟨⟨_, ho'⟩, by rw [hv, hρ]⟩
 | .elp j i o, _, q => by
  obtain ⟨hs, v, hv, hx⟩ := q
  simp only [SV.killL]
  cases e : jI j K with
  | true => exact ⟨_, hv⟩
  | false =>
   obtain ⟨ob, hob⟩ := Option.isSome_iff_exists.1 hs
   obtain ⟨o', ho', hρ, hle⟩ := hh j (eY.1 e) ob hob
   refine ⟨by rw [ho']; rfl, v, hv, fun e r xs hc => ?_⟩
   rw [ho'] at hc; cases hc
   cases ob <;> simp only [OLe] at hle
   rename_i e0 r0 ys
   obtain ⟨rfl, hle⟩ := hle
   obtain ⟨h0, h1, h2⟩ := hx _ _ _ hob
   exact ⟨h0, by omega, by rw [h2, hρ]⟩
 | .rop t x, _, q => by
  obtain ⟨b, o, cs, h1, h2, h3, h4, h5⟩ := q
  obtain ⟨r, hr⟩ := Option.isSome_iff_exists.1 h2
  exact ⟨b, o, cs, h1, by rw [(hp b r hr).1]; rfl, h3, h4.move (hp b r hr).2, h5.mono hp⟩
 | .any, _, _ => trivial
 | .nli, _, q => q
 | .mb _ _, _, q => q
 | .fn f s, _, q => by obtain ⟨cs, h1, h2⟩ := q; exact ⟨cs, h1, Rp.killL hp K hh h2⟩
 | .arp j n, _, q => by
  obtain ⟨⟨o, ho, hn⟩, h1, hv⟩ := q
  simp only [SV.killL]
  cases e : jI j K with
  | true => exact ⟨_, hv⟩
  | false =>
   obtain ⟨o', ho', hρ, hle⟩ := hh j (eY.1 e) o ho
   exact ⟨⟨o', ho', hle.sl hn⟩, by rw [hρ]; exact h1, by rw [hρ]; exact hv⟩
 | .rap r n xs, _, q => by
  obtain ⟨b, o, cs, h1, h2, h3, h4, h5, h6, h7⟩ := q
  obtain ⟨t, ht⟩ := Option.isSome_iff_exists.1 h2
  exact ⟨b, o, cs, h1, by rw [(hp b t ht).1]; rfl, h3, h4, h5, h6.move (hp b t ht).2, h7.mono hp⟩
 | .seg r n xs s, _, q => by obtain ⟨c, d, h1, h2, h3, h4, h5⟩ := q; exact ⟨c, d, h1, h2, h3, h4.mono hp, Rp.killL hp K hh h5⟩
 | .sgp j o m n i off, _, q => by
  obtain ⟨⟨cs, hc⟩, h1, h2, hv⟩ := q
  simp only [SV.killL]
  cases e : jI j K with
  | true => exact ⟨_, hv⟩
  | false =>
   obtain ⟨o', ho', hρ, hle⟩ := hh j (eY.1 e) _ hc
   cases o' <;> simp only [OLe] at hle
   exact ⟨⟨_, ho'⟩, h1, h2, by rw [hv, hρ]⟩
 | .mp j, _, q => by
  obtain ⟨⟨kt, vt, es, hc⟩, hv⟩ := q
  simp only [SV.killL]
  cases e : jI j K with
  | true => exact ⟨_, hv⟩
  | false =>
   obtain ⟨o', ho', hρ, hle⟩ := hh j (eY.1 e) _ hc
   cases o' <;> simp only [OLe] at hle
   exact ⟨⟨_, _, _, ho'⟩, by rw [hv, hρ]⟩
 | .agg s, _, q => by obtain ⟨cs, h1, h0, h2⟩ := q; exact ⟨cs, h1, h0, Rp.killL hp K hh h2⟩
 | .tup s, _, q => by obtain ⟨cs, h1, h2⟩ := q; exact ⟨cs, h1, Rp.killL hp K hh h2⟩
 | .nil, _, q => q
 | .cons a b, _, q => by obtain ⟨v, d, h1, h2, h3⟩ := q; exact ⟨v, d, h1, Rp.killL hp K hh h2, Rp.killL hp K hh h3⟩
theorem RO.killL {h h' : Hp} {ρ ρ' : Nat → Loc} {w w' : World} {pr pr' : dU} (hp : PrLe w pr w' pr') (K : List Nat) (hh : ∀ j, j ∉ K → HLe h ρ h' ρ' j)
  {k : Nat} {o : Obj} (hρ : ρ' k = ρ k) (q : RO h ρ w pr k o) (hk : h k = some o) (hb : ∀ b, own h ρ k = some b → w'.heap[b]? = w.heap[b]?) : RO h' ρ' w' pr' k (o.killL K) := by
 cases o with
 | map kt vt es =>
  obtain ⟨ms, clock, h1, h2⟩ := q
  refine ⟨ms, clock, ?_, h2.mono hp⟩
  rw [hρ, hb _ (by simp [own, hk])]; exact h1
 | var cs =>
  obtain ⟨arr, E, h1, h2, h3⟩ := q
  refine ⟨arr, E, ?_, h2, h3.killL hp K hh⟩
  rw [hρ, hb _ (by simp [own, hk])]; exact h1
 | chunk e r xs =>
  obtain ⟨h0, hB, cells, h1, h2, h3⟩ := q
  refine ⟨h0, by rw [hρ]; exact hB, cells, ?_, h2.mono hp, h3⟩
  rw [hρ]
  refine ⟨h1.1, h1.2.imp id ?_⟩
  rintro ⟨g, cap, cur, h4, h5, h6, h7⟩
  exact ⟨g, cap, cur, h4, h5, by rw [hb g (by simp [own, hk, h4, Value.ownBlock])]; exact h6, h7⟩
 | ro r xs => show Rep _ _ _ _ _; rw [hρ]; exact Rep.mono hp q
theorem Mo.after (M : Mo C σ ρ pr f w) {D K : List Nat} {os : List (Nat × Obj)} {ρ' : Nat → Loc} {pr' : dU} {w' : World}
    (hos : w'.os = w.os) (htape : w'.tape = w.tape) (hout : w'.output = w.output) (hsize : w.heap.size ≤ w'.heap.size)
    (hsame : Same σ ρ w w' D) (hpr : ∀ b r, pr b = some r → pr' b = some r)
    (hprN : ∀ b r, pr' b = some r → b < w'.heap.size ∧ (pr b = some r ∨ (∃ k ∈ D, own σ.obj ρ k = some b) ∨ w.heap.size ≤ b))
    (hfree : ∀ n ob, (n, ob) ∈ os → n ∈ D ∨ σ.obj n = none) (hnd : (os.map (·.1)).Nodup)
    (hK : ∀ k ∈ D, k ∉ K → ∃ o o', σ.obj k = some o ∧ (k, o') ∈ os ∧ ρ' k = ρ k ∧ OLe o o')
    (hρ : ∀ n, n ∉ os.map (·.1) → ρ' n = ρ n)
    (hro : ∀ n ob, (n, ob) ∈ os → RO (σ.after K os D).obj ρ' w' pr' n ob)
    (hown : ∀ n ob b, (n, ob) ∈ os → own (σ.after K os D).obj ρ' n = some b → (∀ r, pr' b ≠ some r) ∧ ((∃ k ∈ D, own σ.obj ρ k = some b) ∨ w.heap.size ≤ b))
    (hinj : ∀ n m o1 o2 b, (n, o1) ∈ os → (m, o2) ∈ os → own (σ.after K os D).obj ρ' n = some b → own (σ.after K os D).obj ρ' m = some b → n = m) :
    Mo C (σ.after K os D) ρ' pr' f w' ∧ ∀ v vs, Rp σ.obj ρ w pr v vs → Rp (σ.after K os D).obj ρ' w' pr' (v.killL K) vs := by
  have hp : PrLe w pr w' pr' := fun b r h => ⟨hpr b r h, hsame b (M.prot b r h).1 (fun k _ => (M.prot b r h).2 k)⟩
  have stay : ∀ j o, lk os j = none → j ∉ D → σ.obj j = some o → (σ.after K os D).obj j = some (o.killL K) := fun j o h1 h2 h3 => by
    rw [aGb, h1, h3]; simp [h2]
  have nin : ∀ j o, j ∉ D → σ.obj j = some o → j ∉ os.map (·.1) := fun j o h1 h2 h3 => by
    obtain ⟨p, hp, e⟩ := List.mem_map.1 h3
    obtain ⟨n, ob⟩ := p
    simp only at e; subst e
    rcases hfree n ob hp with h | h
    · exact h1 h
    · rw [h] at h2; cases h2
  have hh : ∀ j, j ∉ K → HLe σ.obj ρ (σ.after K os D).obj ρ' j := fun j hj q hq => by
    by_cases hD : j ∈ D
    · obtain ⟨o1, o2, h1, h2, h3, h4⟩ := hK j hD hj
      rw [hq] at h1; cases h1
      exact ⟨o2, by rw [aGb, aT7 hnd h2], h3, h4⟩
    · have hn := nin j q hD hq
      refine ⟨q.killL K, stay j q (aT9 hn) hD hq, hρ j hn, ?_⟩
      cases q <;> simp [Obj.killL, OLe]
  have split : ∀ j o, (σ.after K os D).obj j = some o → (j, o) ∈ os ∨ (j ∉ os.map (·.1) ∧ j ∉ D ∧ ∃ q, σ.obj j = some q ∧ o = q.killL K) := fun j o h => by
    rw [aGb] at h
    cases hl : lk os j with
    | some q => rw [hl] at h; cases h; exact .inl (aZp hl)
    | none =>
      rw [hl] at h
      simp only at h
      by_cases hD : j ∈ D
      · rw [if_pos hD] at h; cases h
      · rw [if_neg hD] at h
        cases hq : σ.obj j with
        | none => rw [hq] at h; cases h
        | some q => rw [hq] at h; cases h; exact .inr ⟨nin j q hD hq, hD, q, rfl, rfl⟩
  have hownF : ∀ j b, own (σ.after K os D).obj ρ' j = some b → (∃ ob, (j, ob) ∈ os) ∨ (j ∉ D ∧ own σ.obj ρ j = some b) := fun j b h => by
    cases ho : (σ.after K os D).obj j with
    | none => simp [own, ho] at h
    | some ob =>
      rcases split j ob ho with h1 | ⟨h1, h2, q, hq, rfl⟩
      · exact .inl ⟨ob, h1⟩
      · right
        refine ⟨h2, ?_⟩
        unfold own at h ⊢
        rw [ho, hρ j h1] at h
        rw [hq]
        cases q <;> simp [Obj.killL] at h ⊢ <;> exact h
  refine ⟨?_, fun v vs q => q.killL hp K hh⟩
  exact
  { sl := fun i v hv => by
      rw [bFj] at hv
      cases hu : lk σ.sl i with
      | none => simp [hu] at hv
      | some u => simp [hu] at hv; subst hv; exact (M.sl i u hu).killL hp K hh
    hp := fun j ob hq => by
      rcases split j ob hq with h1 | ⟨h1, h2, q, hq', rfl⟩
      · exact hro j ob h1
      · exact (M.hp j q hq').killL hp K hh (hρ j h1) hq' (fun b hb => hsame b (M.own_lt hb) (fun k hk e => h2 (by rw [M.inj j k b hb e]; exact hk)))
    inj := fun i j b h1 h2 => by
      rcases hownF i b h1 with ⟨o1, k1⟩ | ⟨n1, k1⟩ <;> rcases hownF j b h2 with ⟨o2, k2⟩ | ⟨n2, k2⟩
      · exact hinj i j o1 o2 b k1 k2 h1 h2
      · rcases (hown i o1 b k1 h1).2 with ⟨k, hk, e⟩ | h3
        · exact absurd (M.inj j k b k2 e ▸ hk) n2
        · have := M.own_lt k2; omega
      · rcases (hown j o2 b k2 h2).2 with ⟨k, hk, e⟩ | h3
        · exact absurd (M.inj i k b k1 e ▸ hk) n1
        · have := M.own_lt k1; omega
      · exact M.inj i j b k1 k2
    prot := fun b r h => ⟨(hprN b r h).1, fun j hj => by
      rcases hownF j b hj with ⟨o1, k1⟩ | ⟨n1, k1⟩
      · exact (hown j o1 b k1 hj).1 r h
      · rcases (hprN b r h).2 with h1 | ⟨k, hk, e⟩ | h1
        · exact (M.prot b r h1).2 j k1
        · exact n1 (M.inj j k b k1 e ▸ hk)
        · have := M.own_lt k1; omega⟩
    os := hos.trans M.os, tape := htape.trans M.tape, output := hout.trans M.output, size := Nat.le_trans M.size hsize
    heap := fun b h1 h2 => (hsame b (Nat.lt_of_lt_of_le h1 M.size) (fun k _ h => by
      rcases M.ownC k b h with h3 | h3
      · exact h2 h3
      · omega)).trans (M.heap b h1 h2)
    prC := fun b r h => hpr b r (M.prC b r h)
    prN := fun b r h => by
      rcases (hprN b r h).2 with h1 | ⟨k, hk, e⟩ | h1
      · exact M.prN b r h1
      · exact .inr (M.ownC k b e)
      · exact .inr (.inr (Nat.le_trans M.size h1))
    ownC := fun j b h => by
      rcases hownF j b h with ⟨o1, k1⟩ | ⟨n1, k1⟩
      · rcases (hown j o1 b k1 h).2 with ⟨k, hk, e⟩ | h3
        · exact M.ownC k b e
        · exact .inr (Nat.le_trans M.size h3)
      · exact M.ownC j b k1 }
end
end Ab
end
section
namespace Ab
open Go
section
variable {P : Program} {E : Env} {C : Cx} {σ : St} {ρ : Nat → Loc} {pr : dU} {f : Nat → Value} {w : World} {a : Act} {o : Oper} {g : Nat → Value}
theorem aFu : ∀ {l : List Nat} {i j k : Nat}, l.Nodup → l[i]? = some k → l[j]? = some k → i = j
 | [], i, _, _, _, h, _ => by simp at h
 | x :: l, 0, 0, _, _, _, _ => rfl
 | x :: l, 0, j + 1, k, hn, h1, h2 => by
  simp only [List.getElem?_cons_zero, Option.some.injEq] at h1
  simp only [List.getElem?_cons_succ] at h2
  subst h1
  exact absurd (List.mem_of_getElem? h2) (List.nodup_cons.1 hn).1
 | x :: l, i + 1, 0, k, hn, h1, h2 => by
  simp only [List.getElem?_cons_zero, Option.some.injEq] at h2
  simp only [List.getElem?_cons_succ] at h1
  subst h2
  exact absurd (List.mem_of_getElem? h1) (List.nodup_cons.1 hn).1
 | x :: l, i + 1, j + 1, k, hn, h1, h2 => by
  simp only [List.getElem?_cons_succ] at h1 h2
  rw [aFu (List.nodup_cons.1 hn).2 h1 h2]
theorem bEv (k : IntKind) : kEq k k = true := by cases k <;> rfl
theorem Ty.eq_refl : ∀ t : Ty, t.eq t = true
 | .int k => bEv k
 | .bool | .str | .nil | .noi | .ern => rfl
 | .alt t g r s => by show (Nat.beq t t && bEq g g && r.eq r && s.eq s) = true; rw [Ty.eq_refl r, Ty.eq_refl s, Nat.beq_refl]; cases g <;> rfl
 | .sl r => Ty.eq_refl r
 | .cons a b => by show (a.eq a && b.eq b) = true; rw [Ty.eq_refl a, Ty.eq_refl b]; rfl
theorem aO0 {r : Ty} : ∀ {l : List Ty}, r ∈ l → iT r l = true
 | t :: l, h => by
  show (t.eq r || iT r l) = true
  rcases List.mem_cons.1 h with h | h
  ·subst h; rw [Ty.eq_refl]; rfl
  rw [aO0 h, Bool.or_true]
theorem Rep.restrict {p2 p3 : dU} {rs : List Ty} (h : ∀ b r, p2 b = some r → iT r rs = true → p3 b = some r) :
  ∀ {t : Ty} {x : t.T} {vs : List Value}, (∀ r ∈ t.rowsIn, iT r rs = true) → Rep w p2 t x vs → Rep w p3 t x vs
 | .int _, _, _, _, q => q
 | .bool, _, _, _, q => q
 | .str, _, _, _, q => q
 | .sl r, xs, vs, hr, q => by
  obtain ⟨A, c, h1, h2, h3, h4⟩ := q
  refine ⟨A, c, h1, h2, h3, h4.imp id ?_⟩
  rintro ⟨b, o, hA, hb, hx⟩
  refine ⟨b, o, hA, h b r hb (hr r (by simp [Ty.rowsIn])), fun i x hi => ?_⟩
  obtain ⟨cs, hl, hrd, hrep⟩ := hx i x hi
  exact ⟨cs, hl, hrd, Rep.restrict h (fun r' hr' => hr r' (by simp [Ty.rowsIn, hr'])) hrep⟩
 | .nil, _, _, _, q => q
 | .cons a b, x, vs, hr, q => by
  obtain ⟨c, d, h1, h2, h3⟩ := q
  exact ⟨c, d, h1, Rep.restrict h (fun r' hr' => hr r' (by simp [Ty.rowsIn, hr'])) h2, Rep.restrict h (fun r' hr' => hr r' (by simp [Ty.rowsIn, hr'])) h3⟩
 | .noi, _, _, _, q => q
 | .alt t g r s, .inr y, vs, hr, q => ⟨fun e => Rep.restrict (t := s) h (fun r' hr' => hr r' (by simp [Ty.rowsIn, hr'])) (q.1 e), q.2⟩
 | .alt t g r s, .inl y, vs, hr, q => by obtain ⟨cs, h1, h2⟩ := q; exact ⟨cs, Rep.restrict (t := r) h (fun r' hr' => hr r' (by simp [Ty.rowsIn, hr'])) h1, h2⟩
 | .ern, _, _, _, q => q
def aZ1 (rs : List Ty) : SV → Prop
 | .val t _ => ∀ r ∈ t.rowsIn, iT r rs = true
 | .rop _ _ | .rap _ _ _ => False
 | .agg s | .tup s | .fn _ s => aZ1 rs s
 | .seg r _ _ s => (∀ r' ∈ r.rowsIn, iT r' rs = true) ∧ aZ1 rs s
 | .cons a b => aZ1 rs a ∧ aZ1 rs b
 | _ => True
def bJf (rs : List Ty) : Obj → Prop
 | .var s => aZ1 rs s
 | .map kt vt _ => (∀ r' ∈ kt.rowsIn, iT r' rs = true) ∧ ∀ r' ∈ vt.rowsIn, iT r' rs = true
 | .chunk _ r _ => ∀ r' ∈ r.rowsIn, iT r' rs = true
 | .ro _ _ => False
theorem Ents.restrict {p2 p3 : dU} {rs : List Ty} (hr : ∀ b r, p2 b = some r → iT r rs = true → p3 b = some r) {kt vt : Ty} (i1 : ∀ r' ∈ kt.rowsIn, iT r' rs = true) (i2 : ∀ r' ∈ vt.rowsIn, iT r' rs = true) :
  ∀ {es : List (kt.T × vt.T)} {ms : List MapEntry}, Ents w p2 kt vt es ms → Ents w p3 kt vt es ms
 | [], [], h => h
 | _ :: _, _ :: _, h => ⟨⟨by obtain ⟨cs, h1, h2⟩ := h.1.1; exact ⟨cs, h1.restrict hr i1, h2⟩, by obtain ⟨cs, h1, h2⟩ := h.1.2; exact ⟨cs, h1.restrict hr i2, h2⟩⟩, Ents.restrict hr i1 i2 h.2⟩
 | [], _ :: _, h => h.elim
 | _ :: _, [], h => h.elim
theorem EntS.restrict {p2 p3 : dU} {rs : List Ty} (hr : ∀ b r, p2 b = some r → iT r rs = true → p3 b = some r) {kt vt : Ty} (i1 : ∀ r' ∈ kt.rowsIn, iT r' rs = true) (i2 : ∀ r' ∈ vt.rowsIn, iT r' rs = true) {es : List (kt.T × vt.T)} {ms : Array MapEntry} {clock : Nat} (h : EntS w p2 kt vt es ms clock) : EntS w p3 kt vt es ms clock := ⟨h.1, h.2.restrict hr i1 i2⟩
theorem Rp.restrict {h : Hp} {p2 p3 : dU} {rs : List Ty} (hr : ∀ b r, p2 b = some r → iT r rs = true → p3 b = some r) :
  ∀ {v : SV} {vs : List Value}, aZ1 rs v → Rp h ρ w p2 v vs → Rp h ρ w p3 v vs
 | .dead, _, _, q => q
 | .val _ _, _, i, q => ⟨q.1, q.2.restrict hr i⟩
 | .nsl, _, _, q => q
 | .nilp, _, _, q => q
 | .hd _, _, _, q => q
 | .ptr _ _, _, _, q => q
 | .elp _ _ _, _, _, q => q
 | .rop _ _, _, i, _ => i.elim
 | .rap _ _ _, _, i, _ => i.elim
 | .any, _, _, _ => trivial
 | .nli, _, _, q => q
 | .mb _ _, _, _, q => q
 | .arp _ _, _, _, q => q
 | .sgp _ _ _ _ _ _, _, _, q => q
 | .mp _, _, _, q => q
 | .fn _ s, _, i, q => by obtain ⟨cs, h1, h2⟩ := q; exact ⟨cs, h1, Rp.restrict (v := s) hr i h2⟩
 | .seg r n xs s, _, i, q => by obtain ⟨c, d, h1, h2, h3, h4, h5⟩ := q; exact ⟨c, d, h1, h2, h3, fun j x hx => (h4 j x hx).restrict hr i.1, Rp.restrict (v := s) hr i.2 h5⟩
 | .agg s, _, i, q => by obtain ⟨cs, h1, h0, h2⟩ := q; exact ⟨cs, h1, h0, Rp.restrict (v := s) hr i h2⟩
 | .tup s, _, i, q => by obtain ⟨cs, h1, h2⟩ := q; exact ⟨cs, h1, Rp.restrict (v := s) hr i h2⟩
 | .nil, _, _, q => q
 | .cons a b, _, i, q => by obtain ⟨v, d, h1, h2, h3⟩ := q; exact ⟨v, d, h1, Rp.restrict hr i.1 h2, Rp.restrict hr i.2 h3⟩
theorem RO.restrict {h : Hp} {p2 p3 : dU} {rs : List Ty} (hr : ∀ b r, p2 b = some r → iT r rs = true → p3 b = some r) {k : Nat} {o : Obj} (i : bJf rs o) (q : RO h ρ w p2 k o) : RO h ρ w p3 k o := by
 cases o with
 | map kt vt es => obtain ⟨ms, clock, h1, h2⟩ := q; exact ⟨ms, clock, h1, h2.restrict hr i.1 i.2⟩
 | var s => obtain ⟨arr, e, h1, h2, h3⟩ := q; exact ⟨arr, e, h1, h2, h3.restrict hr i⟩
 | chunk e r xs => obtain ⟨h0, hB, cells, h1, h2, h3⟩ := q; exact ⟨h0, hB, cells, h1, fun j x hx => (h2 j x hx).restrict hr i, h3⟩
 | ro r xs => exact i.elim
theorem aEg (rs : List Ty) (all : List Nat) : ∀ {s : Sh} (x : s.T) (ns : List Nat), (∀ r ∈ s.rowsIn, iT r rs = true) → aZ1 rs (s.put all x ns).v ∧ ∀ p ∈ (s.put all x ns).os, bJf rs p.2
 | .dead, _, _, _ | .nilp, _, _, _ | .nil, _, _, _ => ⟨trivial, fun p hp => by cases hp⟩
 | .sc t, _, _, h => ⟨h, fun p hp => by cases hp⟩
 | .ref b i, _, ns, _ => by
  simp only [Sh.put]
  split
  ·cases b <;> exact ⟨trivial, fun p hp => by cases hp⟩
  ·exact ⟨trivial, fun p hp => by cases hp⟩
 | .own e r, x, ns, h => by
  cases ns with
  | nil => exact ⟨trivial, fun p hp => by cases hp⟩
  | cons n ns => exact ⟨trivial, fun p hp => by simp [Sh.put] at hp; subst hp; exact h⟩
 | .ptr s, x, ns, h => by
  cases ns with
  | nil => exact ⟨trivial, fun p hp => by cases hp⟩
  | cons n ns =>
   obtain ⟨h1, h2⟩ := aEg rs all (s := s) x ns h
   refine ⟨trivial, fun p hp => ?_⟩
   simp only [Sh.put, List.mem_cons] at hp
   rcases hp with rfl | hp
   ·exact h1
   ·exact h2 p hp
 | .agg s, x, ns, h => aEg rs all (s := s) x ns h
 | .fn _ s, x, ns, h => aEg rs all (s := s) x ns h
 | .seg r n b, x, ns, h => by
  obtain ⟨h1, h2⟩ := aEg rs all (s := b) (Sh.ssnd r n b x) ns (fun r' hr => h r' (by simp [Sh.rowsIn, hr]))
  exact ⟨⟨fun r' hr => h r' (by simp [Sh.rowsIn, hr]), h1⟩, h2⟩
 | .mp kt vt, x, ns, h => by
  cases ns with
  | nil => exact ⟨trivial, fun p hp => by cases hp⟩
  | cons n ns => exact ⟨trivial, fun p hp => by simp [Sh.put] at hp; subst hp; exact ⟨fun r' hr => h r' (by simp [Sh.rowsIn, hr]), fun r' hr => h r' (by simp [Sh.rowsIn, hr])⟩⟩
 | .tup s, x, ns, h => aEg rs all (s := s) x ns h
 | .cons a b, x, ns, h => by
  obtain ⟨h1, h2⟩ := aEg rs all (s := a) (Sh.fst a b x) ns (fun r hr => h r (by simp [Sh.rowsIn, hr]))
  obtain ⟨h3, h4⟩ := aEg rs all (s := b) (Sh.snd a b x) (a.put all (Sh.fst a b x) ns).left (fun r hr => h r (by simp [Sh.rowsIn, hr]))
  refine ⟨⟨h1, h3⟩, fun p hp => ?_⟩
  simp only [Sh.put, List.mem_append] at hp
  rcases hp with hp | hp
  ·exact h2 p hp
  ·exact h4 p hp
theorem wB (all : List Nat) : ∀ {s : Sh} {v : SV} {vis vis' bor ns : List Nat} {x : s.T}, s.get σ v vis = some (x, vis', bor) → s.cnt ≤ ns.length →
  ∀ (j n : Nat) (ob : Obj), (s.put all x ns).os[j]? = some (n, ob) → ∃ k o, vis'[vis.length + j]? = some k ∧ ns[j]? = some n ∧ σ.obj k = some o ∧ Kin o ob
 | .dead, v, vis, vis', bor, ns, x, h, _, j, n, ob, hj => by simp [Sh.put] at hj
 | .nilp, v, vis, vis', bor, ns, x, h, _, j, n, ob, hj => by simp [Sh.put] at hj
 | .sc _, v, vis, vis', bor, ns, x, h, _, j, n, ob, hj => by simp [Sh.put] at hj
 | .nil, v, vis, vis', bor, ns, x, h, _, j, n, ob, hj => by simp [Sh.put] at hj
 | .ref b i, v, vis, vis', bor, ns, x, h, _, j, n, ob, hj => by
  simp only [Sh.put] at hj
  split at hj <;> simp at hj
 | .own e r, v, vis, vis', bor, ns, x, h, hl, j, n, ob, hj => by
  obtain ⟨k, rfl, hk, hob, rfl, _⟩ := aMn h
  cases ns with
  | nil => simp [Sh.cnt] at hl
  | cons m ns =>
   cases j with
   | succ j => simp [Sh.put] at hj
   | zero =>
    simp [Sh.put] at hj
    obtain ⟨rfl, rfl⟩ := hj
    exact ⟨k, _, by simp, rfl, hob, rfl, rfl⟩
 | .ptr s, v, vis, vis', bor, ns, x, h, hl, j, n, ob, hj => by
  obtain ⟨k, cs, rfl, hk, hob, h1⟩ := aJc h
  obtain ⟨new, hnew, hcnt, _⟩ := gF h1
  cases ns with
  | nil => simp [Sh.cnt] at hl
  | cons m ns =>
   simp only [Sh.cnt, List.length_cons] at hl
   cases j with
   | zero =>
    simp [Sh.put] at hj
    obtain ⟨rfl, rfl⟩ := hj
    exact ⟨k, _, by rw [hnew]; simp, rfl, hob, trivial⟩
   | succ j =>
    simp only [Sh.put, List.getElem?_cons_succ] at hj
    obtain ⟨k2, o2, e1, e2, e3⟩ := wB all h1 (by omega) j n ob hj
    rw [List.length_append, List.length_singleton] at e1
    exact ⟨k2, o2, by rw [← e1]; congr 1; omega, by simpa using e2, e3⟩
 | .agg s, v, vis, vis', bor, ns, x, h, hl, j, n, ob, hj => by
  obtain ⟨c, rfl, h1⟩ := aJd h
  exact wB all (s := s) h1 hl j n ob hj
 | .fn f s, v, vis, vis', bor, ns, x, h, hl, j, n, ob, hj => by
  obtain ⟨c, rfl, h1⟩ := aO3 h
  exact wB all (s := s) h1 hl j n ob hj
 | .seg r m b, v, vis, vis', bor, ns, x, h, hl, j, n, ob, hj => by
  obtain ⟨c, rfl, h1⟩ := aJb h
  exact wB all (s := b) h1 hl j n ob hj
 | .mp kt vt, v, vis, vis', bor, ns, x, h, hl, j, n, ob, hj => by
  obtain ⟨k, rfl, hk, hob, rfl, _⟩ := aO2 h
  cases ns with
  | nil => simp [Sh.cnt] at hl
  | cons m ns =>
   cases j with
   | succ j => simp [Sh.put] at hj
   | zero =>
    simp [Sh.put] at hj
    obtain ⟨rfl, rfl⟩ := hj
    exact ⟨k, _, by simp, rfl, hob, rfl, rfl, rfl⟩
 | .tup s, v, vis, vis', bor, ns, x, h, hl, j, n, ob, hj => by
  obtain ⟨c, rfl, h1⟩ := aCz h
  exact wB all (s := s) h1 hl j n ob hj
 | .cons a b, v, vis, vis', bor, ns, x, h, hl, j, n, ob, hj => by
  obtain ⟨c, d, vis1, b1, b2, rfl, h1, h2, rfl⟩ := lL h
  obtain ⟨n1, e1, l1, _⟩ := gF h1
  obtain ⟨n2, e2, l2, _⟩ := gF h2
  simp only [Sh.cnt] at hl
  obtain ⟨p1, p2⟩ := lF all (s := a) (Sh.fst a b x) ns (by omega)
  have hol : (a.put all (Sh.fst a b x) ns).os.length = a.cnt := by
   have := congrArg List.length p2
   simp at this
   omega
  have hvl : vis1.length = vis.length + a.cnt := by rw [e1]; simp [l1]
  simp only [Sh.put, p1] at hj
  rw [List.getElem?_append] at hj
  split at hj
  ·rename_i hlt
   obtain ⟨k, o, k1, k2, k3⟩ := wB all h1 (by omega) j n ob hj
   exact ⟨k, o, by rw [e2, List.getElem?_append_left (by rw [e1]; simp [l1]; omega)]; exact k1, k2, k3⟩
  ·rename_i hge
   obtain ⟨k, o, k1, k2, k3⟩ := wB all h2 (by simp; omega) _ n ob hj
   rw [hol] at k1 k2 hge
   rw [List.getElem?_drop] at k2
   exact ⟨k, o, by rw [← k1]; congr 1; omega, by rw [← k2]; congr 1; omega, k3⟩
section
variable {s : Sh} {v : SV} {x : s.T} {vis bor all : List Nat} {h' : Hp} {ρ' : Nat → Loc}
theorem aY3 (hl : all.length = s.cnt) {i n : Nat} (ha : all[i]? = some n) : ∃ ob, (s.put all x all).os[i]? = some (n, ob) := by
 obtain ⟨p1, p2⟩ := lF all (s := s) x all (by omega)
 rw [← hl, List.take_length] at p2
 have := congrArg (fun l => l[i]?) p2
 simp only [List.getElem?_map, ha, Option.map_eq_some_iff] at this
 obtain ⟨⟨n', ob⟩, h1, h2⟩ := this
 simp only at h2; subst h2
 exact ⟨ob, h1⟩
theorem aVx (hl : all.length = s.cnt) : (s.put all x all).os.map (·.1) = all := by
 obtain ⟨p1, p2⟩ := lF all (s := s) x all (by omega)
 rw [p2, ← hl, List.take_length]
theorem Nm.of_get (hg : s.get σ v [] = some (x, vis, bor)) (hl : all.length = s.cnt) (hh : ∀ n ob, (n, ob) ∈ (s.put all x all).os → h' n = some ob)
  (hρ : ∀ (i k n : Nat), vis[i]? = some k → all[i]? = some n → (ρ' n).blk = (ρ k).blk ∧ ∀ e r xs, σ.obj k = some (.chunk e r xs) → ρ' n = ρ k) : Nm σ ρ h' ρ' vis all where
 blk := fun i k n h1 h2 => (hρ i k n h1 h2).1
 loc := fun i k n e r xs h1 h2 h3 => (hρ i k n h1 h2).2 e r xs h3
 kin := fun i k n o h1 h2 h3 => by
  obtain ⟨ob, hob⟩ := aY3 (x := x) hl h2
  obtain ⟨k', o', k1, _, k2, k3⟩ := wB all hg (by omega) i n ob hob
  simp only [List.length_nil, Nat.zero_add, h1, Option.some.injEq] at k1
  subst k1
  rw [h3] at k2; cases k2
  exact ⟨ob, hh n ob (List.mem_of_getElem? hob), k3⟩
theorem Nm.own (N : Nm σ ρ h' ρ' vis all) {i k n : Nat} {o : Obj} (h1 : vis[i]? = some k) (h2 : all[i]? = some n) (h3 : σ.obj k = some o) : Ab.own h' ρ' n = Ab.own σ.obj ρ k := by
 obtain ⟨ob, h4, h5⟩ := N.kin i k n o h1 h2 h3
 unfold Ab.own
 rw [h3, h4]
 cases o <;> cases ob <;> simp only [Kin] at h5
 ·simp [N.blk i k n h1 h2]
 ·simp [N.blk i k n h1 h2]
 simp [N.loc i k n _ _ _ h1 h2 h3]
theorem fresh {C0 CF : Cx} {σF : St} {pr0 prF : dU} {f0 fF : Nat → Value} {vs : List Value} (M0 : Mo C0 σ ρ pr0 f0 w) (MF : Mo CF σF ρ prF fF w) (hp : PrLe w pr0 w prF) (hz : Fz σ ρ prF bor)
    (hsame : ∀ k ∈ vis, σF.obj k = σ.obj k) (hg : s.get σ v [] = some (x, vis, bor)) (q : Rp σ.obj ρ w pr0 v vs) (hl : all.length = s.cnt) (hnd : all.Nodup) (hh : ∀ n, h' n = lk (s.put all x all).os n)
    (hρ : ∀ (i k n : Nat), vis[i]? = some k → all[i]? = some n → (ρ' n).blk = (ρ k).blk ∧ ∀ e r xs, σ.obj k = some (.chunk e r xs) → ρ' n = ρ k) :
    Rp h' ρ' w prF (s.put all x all).v vs ∧ ∀ (C2 : Cx) (sl : List (Nat × SV)) (f' : Nat → Value),
      w.os = C2.w.os → w.tape = C2.w.tape → w.output = C2.w.output → C2.w.heap.size ≤ w.heap.size → (∀ b, b < C2.w.heap.size → ¬ C2.O b → w.heap[b]? = C2.w.heap[b]?) →
      (∀ b r, C2.pr b = some r → prF b = some r) → (∀ b r, prF b = some r → C2.pr b = some r ∨ C2.O b ∨ C2.w.heap.size ≤ b) →
      (∀ k ∈ vis, ∀ b, Ab.own σ.obj ρ k = some b → C2.O b ∨ C2.w.heap.size ≤ b) →
      (∀ i u, lk sl i = some u → Rp h' ρ' w prF u [f' i]) → Mo C2 ⟨sl, jN (s.put all x all).os⟩ ρ' prF f' w := by
  have hnames := aVx (x := x) hl
  have hmem : ∀ n ob, (n, ob) ∈ (s.put all x all).os → h' n = some ob := fun n ob h => by rw [hh]; exact aT7 (by rw [hnames]; exact hnd) h
  have N := Nm.of_get (ρ := ρ) hg hl hmem hρ
  obtain ⟨new, e1, e2, e3⟩ := gF hg
  rw [List.nil_append] at e1
  have hvl : vis.length = all.length := by rw [e1, e2, hl]
  have T := nU (vs := vs) hp M0.hp N hg (t := []) (by simp) (by omega) hz q
  simp only [List.length_nil, List.drop_zero, Nat.zero_add] at T
  have hobj : ∀ sl n, (⟨sl, jN (s.put all x all).os⟩ : St).obj n = h' n := fun sl n => by
    rw [hh]
    unfold St.obj
    rw [aA6]
    cases lk (s.put all x all).os n <;> rfl
  have hidx : ∀ n ob, h' n = some ob → ∃ (i k : Nat), vis[i]? = some k ∧ all[i]? = some n ∧ (s.put all x all).os[i]? = some (n, ob) := fun n ob h => by
    rw [hh] at h
    obtain ⟨i, hi⟩ := List.mem_iff_getElem?.1 (aZp h)
    obtain ⟨k, o, k1, k2, _⟩ := T.2 i n ob hi
    exact ⟨i, k, k1, k2, hi⟩
  have hown : ∀ n b, Ab.own h' ρ' n = some b → ∃ (i k : Nat), vis[i]? = some k ∧ all[i]? = some n ∧ Ab.own σ.obj ρ k = some b := fun n b h => by
    cases ho : h' n with
    | none => simp [Ab.own, ho] at h
    | some ob =>
      obtain ⟨i, k, h1, h2, h3⟩ := hidx n ob ho
      obtain ⟨k', o, k1, _, k3, _⟩ := T.2 i n ob h3
      rw [h1] at k1; cases k1
      rw [N.own h1 h2 k3] at h
      exact ⟨i, k, h1, h2, h⟩
  refine ⟨T.1, fun C2 sl f' c1 c2 c3 c4 c5 c6 c7 c8 c9 => ?_⟩
  have eobj : (⟨sl, jN (s.put all x all).os⟩ : St).obj = h' := funext (hobj sl)
  exact
  { sl := fun i u hu => by rw [eobj]; exact c9 i u hu
    hp := fun n ob hn => by
      rw [eobj] at hn ⊢
      obtain ⟨i, k, h1, h2, h3⟩ := hidx n ob hn
      obtain ⟨_, _, _, _, _, _, k5⟩ := T.2 i n ob h3
      exact k5
    inj := fun n m b h1 h2 => by
      rw [eobj] at h1 h2
      obtain ⟨i, k, i1, i2, i3⟩ := hown n b h1
      obtain ⟨j, k', j1, j2, j3⟩ := hown m b h2
      have := M0.inj k k' b i3 j3
      subst this
      have hij : i = j := aFu (e3 List.nodup_nil) i1 j1
      subst hij
      rw [i2] at j2; exact Option.some.inj j2
    prot := fun b r hb => ⟨(MF.prot b r hb).1, fun n hn => by
      rw [eobj] at hn
      obtain ⟨i, k, i1, i2, i3⟩ := hown n b hn
      refine (MF.prot b r hb).2 k ?_
      unfold Ab.own at i3 ⊢
      rw [hsame k (List.mem_of_getElem? i1)]; exact i3⟩
    os := c1, tape := c2, output := c3, size := c4, heap := c5, prC := c6, prN := c7
    ownC := fun n b hn => by
      rw [eobj] at hn
      obtain ⟨i, k, i1, i2, i3⟩ := hown n b hn
      exact c8 k (List.mem_of_getElem? i1) b i3 }
end
theorem aBj : ∀ s : Sh, s.top.length = s.cnt
 | .dead | .nilp | .sc _ | .ref _ _ | .nil | .own _ _ | .mp _ _ => rfl
 | .fn _ s => aBj s
 | .seg _ _ s => aBj s
 | .ptr s => by simp [Sh.top, Sh.cnt]
 | .agg s => aBj s
 | .tup s => aBj s
 | .cons a b => by simp [Sh.top, Sh.cnt, aBj a, aBj b]
theorem aJt : ∀ {l : List Bool} {m : List Nat} {k : Nat}, k ∈ aG2 l m → ∃ i : Nat, l[i]? = some true ∧ m[i]? = some k
 | true :: l, j :: m, k, h => by
  simp only [aG2, List.mem_cons] at h
  rcases h with h | h
  ·subst h; exact ⟨0, rfl, rfl⟩
  ·obtain ⟨i, h1, h2⟩ := aJt h; exact ⟨i + 1, h1, h2⟩
 | false :: l, j :: m, k, h => by
  simp only [aG2] at h
  obtain ⟨i, h1, h2⟩ := aJt h; exact ⟨i + 1, h1, h2⟩
 | [], _, _, h => by simp [aG2] at h
 | true :: _, [], _, h => by simp [aG2] at h
 | false :: _, [], _, h => by simp [aG2] at h
def bG9 : Obj → Obj → Prop
 | .var _, .var _ => True
 | .map kt vt _, .map kt' vt' _ => kt = kt' ∧ vt = vt'
 | _, _ => False
theorem aC4 {σ2 : St} {ρ2 : Nat → Loc} {w2 : World} {pr2 : dU} : ∀ {s : Sh} {v v2 : SV} {vis vis' bor vis2 vis2' bor2 : List Nat} {x x2 : s.T} {vs : List Value},
  s.get σ v vis = some (x, vis', bor) → s.get σ2 v2 vis2 = some (x2, vis2', bor2) → Rp σ.obj ρ w pr v vs → Rp σ2.obj ρ2 w2 pr2 v2 vs →
  ∀ i : Nat, s.top[i]? = some true → ∃ k m o1 o2, vis'[vis.length + i]? = some k ∧ vis2'[vis2.length + i]? = some m ∧ σ.obj k = some o1 ∧ σ2.obj m = some o2 ∧ bG9 o1 o2 ∧ (ρ k).blk = (ρ2 m).blk
 | .dead, _, _, _, _, _, _, _, _, _, _, _, _, _, _, _, i, hi => by simp [Sh.top] at hi
 | .nilp, _, _, _, _, _, _, _, _, _, _, _, _, _, _, _, i, hi => by simp [Sh.top] at hi
 | .sc _, _, _, _, _, _, _, _, _, _, _, _, _, _, _, _, i, hi => by simp [Sh.top] at hi
 | .nil, _, _, _, _, _, _, _, _, _, _, _, _, _, _, _, i, hi => by simp [Sh.top] at hi
 | .ref _ _, _, _, _, _, _, _, _, _, _, _, _, _, _, _, _, i, hi => by simp [Sh.top] at hi
 | .own _ _, _, _, _, _, _, _, _, _, _, _, _, _, _, _, _, i, hi => by cases i <;> simp [Sh.top] at hi
 | .ptr s, v, v2, vis, vis', bor, vis2, vis2', bor2, x, x2, vs, h, h2, q, q2, i, hi => by
  obtain ⟨k, cs, rfl, hk, hob, h1⟩ := aJc h
  obtain ⟨k2, cs2, rfl, hk2, hob2, h12⟩ := aJc h2
  obtain ⟨new, hnew, _⟩ := gF h1
  obtain ⟨new2, hnew2, _⟩ := gF h12
  cases i with
  | zero =>
   refine ⟨k, k2, _, _, by rw [hnew]; simp, by rw [hnew2]; simp, hob, hob2, trivial, ?_⟩
   obtain ⟨_, hv⟩ := q
   obtain ⟨_, hv2⟩ := q2
   rw [hv] at hv2
   simp only [List.cons.injEq, and_true, Value.pointer.injEq, Option.some.injEq, Addr.mk.injEq] at hv2
   exact hv2
  | succ i => simp [Sh.top, List.getElem?_replicate] at hi
 | .mp kt vt, v, v2, vis, vis', bor, vis2, vis2', bor2, x, x2, vs, h, h2, q, q2, i, hi => by
  obtain ⟨k, rfl, hk, hob, rfl, _⟩ := aO2 h
  obtain ⟨k2, rfl, hk2, hob2, rfl, _⟩ := aO2 h2
  cases i with
  | zero =>
   refine ⟨k, k2, _, _, by simp, by simp, hob, hob2, ⟨rfl, rfl⟩, ?_⟩
   obtain ⟨_, hv⟩ := q
   obtain ⟨_, hv2⟩ := q2
   rw [hv] at hv2
   simpa using hv2
  | succ i => simp [Sh.top] at hi
 | .fn f s, v, v2, vis, vis', bor, vis2, vis2', bor2, x, x2, vs, h, h2, q, q2, i, hi => by
  obtain ⟨c, rfl, h1⟩ := aO3 h
  obtain ⟨c2, rfl, h12⟩ := aO3 h2
  obtain ⟨cs, e1, q1⟩ := q
  obtain ⟨cs2, e2, q12⟩ := q2
  rw [e1] at e2
  have : cs = cs2 := by simpa using e2
  subst this
  exact aC4 (s := s) h1 h12 q1 q12 i hi
 | .seg r n b, v, v2, vis, vis', bor, vis2, vis2', bor2, x, x2, vs, h, h2, q, q2, i, hi => by
  obtain ⟨c, rfl, h1⟩ := aJb h
  obtain ⟨c2, rfl, h12⟩ := aJb h2
  obtain ⟨cs, ds, e1, _, l1, _, q1⟩ := q
  obtain ⟨cs2, ds2, e2, _, l2, _, q12⟩ := q2
  rw [e1] at e2
  have : ds = ds2 := (List.append_inj e2 (by rw [l1, l2])).2
  subst this
  exact aC4 (s := b) h1 h12 q1 q12 i hi
 | .agg s, v, v2, vis, vis', bor, vis2, vis2', bor2, x, x2, vs, h, h2, q, q2, i, hi => by
  obtain ⟨c, rfl, h1⟩ := aJd h
  obtain ⟨c2, rfl, h12⟩ := aJd h2
  obtain ⟨cs, e1, _, q1⟩ := q
  obtain ⟨cs2, e2, _, q12⟩ := q2
  rw [e1] at e2
  have : cs = cs2 := by simpa using e2
  subst this
  exact aC4 (s := s) h1 h12 q1 q12 i hi
 | .tup s, v, v2, vis, vis', bor, vis2, vis2', bor2, x, x2, vs, h, h2, q, q2, i, hi => by
  obtain ⟨c, rfl, h1⟩ := aCz h
  obtain ⟨c2, rfl, h12⟩ := aCz h2
  obtain ⟨cs, e1, q1⟩ := q
  obtain ⟨cs2, e2, q12⟩ := q2
  rw [e1] at e2
  have : cs = cs2 := by simpa using e2
  subst this
  exact aC4 (s := s) h1 h12 q1 q12 i hi
 | .cons a b, v, v2, vis, vis', bor, vis2, vis2', bor2, x, x2, vs, h, h2, q, q2, i, hi => by
  obtain ⟨c, d, vis1, b1, b2, rfl, h1, h3, rfl⟩ := lL h
  obtain ⟨c', d', vis1', b1', b2', rfl, h1', h3', rfl⟩ := lL h2
  obtain ⟨n1, e1, l1, _⟩ := gF h1
  obtain ⟨n2, e2, l2, _⟩ := gF h3
  obtain ⟨n1', e1', l1', _⟩ := gF h1'
  obtain ⟨n2', e2', l2', _⟩ := gF h3'
  obtain ⟨y, ds, rfl, q1, q3⟩ := q
  obtain ⟨y', ds', ey, q1', q3'⟩ := q2
  simp only [List.cons.injEq] at ey
  obtain ⟨rfl, rfl⟩ := ey
  simp only [Sh.top] at hi
  rw [List.getElem?_append] at hi
  rw [aBj] at hi
  split at hi
  ·rename_i hlt
   obtain ⟨k, m, cs, cs2, k1, k2, k3⟩ := aC4 h1 h1' q1 q1' i hi
   exact ⟨k, m, cs, cs2, by rw [e2, List.getElem?_append_left (by rw [e1]; simp [l1]; omega)]; exact k1, by rw [e2', List.getElem?_append_left (by rw [e1']; simp [l1']; omega)]; exact k2, k3⟩
  ·rename_i hge
   obtain ⟨k, m, cs, cs2, k1, k2, k3⟩ := aC4 h3 h3' q3 q3' _ hi
   have hvl : vis1.length = vis.length + a.cnt := by rw [e1]; simp [l1]
   have hvl' : vis1'.length = vis2.length + a.cnt := by rw [e1']; simp [l1']
   exact ⟨k, m, cs, cs2, by rw [← k1]; congr 1; omega, by rw [← k2]; congr 1; omega, k3⟩
end
end Ab
end
section
namespace Ab
open Go
structure GlobOk (P : Program) (w : World) : Prop where
 n : 3 ≤ P.globals.size
 c0 : ∃ m, w.cell? ⟨0, 0, none⟩ = some (.int .i64 m)
 c1 : ∃ v, w.cell? ⟨1, 0, none⟩ = some v ∧ (v = .nilIface ∨ ∃ t u, v = .iface t u)
 c2 : ∃ v, w.cell? ⟨2, 0, none⟩ = some v ∧ (v = .nilIface ∨ ∃ t u, v = .iface t u)
 tab : ∃ g, P.globalNamed "internal/strconv.uint64pow10" = some g ∧ g < P.globals.size ∧ Lib.TabIs P w "internal/strconv.uint64pow10" .u64 Lib.pow10Tab
structure Gl (P : Program) (C : Cx) : Prop where
 ok : GlobOk P C.w
 low : ∀ b, b < P.globals.size → b < C.w.heap.size ∧ ¬ C.O b
theorem GlobOk.same {P : Program} {w w' : World} (h : GlobOk P w) (hs : ∀ b, b < P.globals.size → w'.heap[b]? = w.heap[b]?) : GlobOk P w' := by
 have hn := h.n
 have hc : ∀ b, b < P.globals.size → w'.cell? ⟨b, 0, none⟩ = w.cell? ⟨b, 0, none⟩ := fun b hb => World.cell?_of_block (hs b hb)
 refine ⟨hn, ?_, ?_, ?_, ?_⟩
 ·rw [hc 0 (by omega)]; exact h.c0
 ·rw [hc 1 (by omega)]; exact h.c1
 ·rw [hc 2 (by omega)]; exact h.c2
 obtain ⟨g, h1, h2, h3⟩ := h.tab
 refine ⟨g, h1, h2, ?_⟩
 unfold Lib.TabIs World.var? at *
 rw [h1] at h3 ⊢
 simp only [Option.bind_some] at h3 ⊢
 rw [hs g h2]; exact h3
theorem Gl.world {P : Program} {C : Cx} {σ : St} {ρ : Nat → Loc} {pr : dU} {f : Nat → Value} {w : World} (h : Gl P C) (M : Mo C σ ρ pr f w) : GlobOk P w ∧ ∀ b, b < P.globals.size → b < w.heap.size ∧ ∀ k, own σ.obj ρ k ≠ some b :=
 ⟨h.ok.same fun b hb => M.heap b (h.low b hb).1 (h.low b hb).2, fun b hb => ⟨Nat.lt_of_lt_of_le (h.low b hb).1 M.size, fun k hk => by
  rcases M.ownC k b hk with h1 | h1
  ·exact (h.low b hb).2 h1
  ·have := (h.low b hb).1; omega⟩⟩
structure FnOK (P : Program) (f : Nat) (fs : FS) : Prop where
 ent : ∀ args w, (callFunc f args).run P w = .ok (.enter f args) w
 calls : ∀ (C : Cx) (ρ : Nat → Loc) (gx : List Value) (args : Array Value) (w : World) (x : fs.ins.T) y, gx.length = fs.ex.length → fs.F x = some y → Gl P C →
  Mo C ⟨[], jN (dS fs.ins x).os⟩ ρ C.pr (fun _ => undef) w →
  Rp (fun n => lk (dS fs.ins x).os n) ρ w C.pr (dS fs.ins x).v (gx ++ args.toList) →
  Calls P f args w fun e w' => ∃ v, e = .returned v ∧ ∃ σe ρe pre fe gs rv vis bor, Mo C σe ρe pre fe w' ∧
   (Sh.out fs.ins.io fs.res).get σe (.cons (.tup gs) (.cons rv .nil)) [] = some (y, vis, bor) ∧ eB bor vis = true ∧
   Rp σe.obj ρe w' pre gs (gx ++ args.toList) ∧ Rp σe.obj ρe w' pre rv [v]
def Told (ins res : Sh) (vals : List Value) (C : Cx) (En : Ending → Value → Prop) (y : (Sh.out ins.io res).T) (e : Ending) (w' : World) : Prop :=
 ∃ v, En e v ∧ ∃ σe ρe pre fe gs rv vis bor, Mo C σe ρe pre fe w' ∧
  (Sh.out ins.io res).get σe (.cons (.tup gs) (.cons rv .nil)) [] = some (y, vis, bor) ∧ eB bor vis = true ∧
  Rp σe.obj ρe w' pre gs vals ∧ Rp σe.obj ρe w' pre rv [v]
def bDf (e : Ending) (v : Value) : Prop := e = .returned v
def bHq (e : Ending) (v : Value) : Prop := e = .panicked [{ v, recovered := false }]
def bHl (ins res pv : Sh) (vals : List Value) (C : Cx) : (Sh.out ins.io res).T ⊕ (Sh.out ins.io pv).T → Ending → World → Prop
 | .inl y => Told ins res vals C bDf y
 | .inr z => Told ins pv vals C bHq z
structure FnOKP (P : Program) (f : Nat) (fs : FSP) : Prop where
 ent : ∀ args w, (callFunc f args).run P w = .ok (.enter f args) w
 calls : ∀ (C : Cx) (ρ : Nat → Loc) (gx : List Value) (args : Array Value) (w : World) (x : fs.ins.T) y, gx.length = fs.ex.length → fs.F x = some y → Gl P C →
  Mo C ⟨[], jN (dS fs.ins x).os⟩ ρ C.pr (fun _ => undef) w →
  Rp (fun n => lk (dS fs.ins x).os n) ρ w C.pr (dS fs.ins x).v (gx ++ args.toList) →
  Calls P f args w (bHl fs.ins fs.res fs.pv (gx ++ args.toList) C y)
structure zV (P : Program) (E : Env) : Prop where
 fs : ∀ f, ∀ fs ∈ E.fs f, FnOK P f fs
 fp : ∀ f, ∀ fs ∈ E.fp f, FnOKP P f fs
section
variable {P : Program} {E : Env} {C : Cx} {σ : St} {ρ : Nat → Loc} {pr : dU} {f : Nat → Value} {w : World} {a : Act} {o : Oper} {g : Nat → Value}
theorem bGz {h : Hp} {v : SV} {vs : List Value} (i : Nat) {c d : SV} (q : Rp h ρ w pr v vs) (e : v.drop i = .cons c d) : ∃ x, Rp h ρ w pr c [x] := by
 have := q.drop i (aE3 i (by rw [e]; simp [SV.len]))
 rw [e] at this
 obtain ⟨y, ds, _, q1, _⟩ := this
 exact ⟨y, q1⟩
theorem aR0 (M : Mo C σ ρ pr f w) {as : SV} {vs : List Value} (q : Rp σ.obj ρ w pr as vs) : ∀ {l : List (Nat × Nat)} {s : SV}, aKm σ as l = some s → ∃ gx : List Value, gx.length = l.length ∧ Rp σ.obj ρ w pr s (gx ++ vs)
 | [], s, h => by cases h; exact ⟨[], rfl, q⟩
 | p :: l, s, h => by
  unfold aKm at h
  split at h
  ·rename_i k hk
   split at h
   ·rename_i cs hcs
    split at h
    ·rename_i r d hd
     simp only [Option.bind_eq_some_iff] at h
     obtain ⟨s', hs', h⟩ := h
     cases h
     obtain ⟨gx, hl, q1⟩ := aR0 M q hs'
     obtain ⟨arr, _, _, _, qc⟩ := M.hp k _ hcs
     obtain ⟨x, qx⟩ := bGz p.2 qc hd
     exact ⟨x :: gx, by simp [hl], ⟨x, gx ++ vs, rfl, qx, q1⟩⟩
    cases h
   cases h
  cases h
theorem aP2 : ∀ {s : Sh} {ts : List Nat} {v v' : SV} {σ σ' : St} {ρ : Nat → Loc} {k : Nat} {vs : List Value} (_ : Mo C σ ρ pr f w) (_ : zI E k s ts v σ = some (σ', v')) (_ : Rp σ.obj ρ w pr v vs),
  ∃ ρ', Mo C σ' ρ' pr f w ∧ Rp σ'.obj ρ' w pr v' vs ∧ (∀ u us, Rp σ.obj ρ w pr u us → Rp σ'.obj ρ' w pr u us) ∧ ∀ j b, own σ'.obj ρ' j = some b → own σ.obj ρ j = some b := by
 intro s
 have same : ∀ {v v' : SV} {σ σ' : St} {ρ : Nat → Loc} {vs : List Value} (_ : Mo C σ ρ pr f w) (_ : some (σ, v) = some (σ', v')) (_ : Rp σ.obj ρ w pr v vs),
  ∃ ρ', Mo C σ' ρ' pr f w ∧ Rp σ'.obj ρ' w pr v' vs ∧ (∀ u us, Rp σ.obj ρ w pr u us → Rp σ'.obj ρ' w pr u us) ∧ ∀ j b, own σ'.obj ρ' j = some b → own σ.obj ρ j = some b := by
  intro v v' σ σ' ρ vs M h q
  cases h
  exact ⟨ρ, M, q, fun _ _ h => h, fun _ _ h => h⟩
 induction s with
 | cons a b iha ihb =>
  intro ts v v' σ σ' ρ k vs M h q
  cases ts with
  | nil => cases a <;> exact same M h q
  | cons t ts =>
   cases v with
   | cons c d =>
    obtain ⟨x, ds, rfl, q1, q2⟩ := q
    have step : ∀ {σ1 : St} {ρ1 : Nat → Loc} {c1 : SV}, Mo C σ1 ρ1 pr f w → Rp σ1.obj ρ1 w pr c1 [x] → (∀ u us, Rp σ.obj ρ w pr u us → Rp σ1.obj ρ1 w pr u us) → (∀ j b, own σ1.obj ρ1 j = some b → own σ.obj ρ j = some b) →
      ((zI E (k + 1) b ts d σ1).bind fun q => some (q.1, SV.cons c1 q.2)) = some (σ', v') →
      ∃ ρ', Mo C σ' ρ' pr f w ∧ Rp σ'.obj ρ' w pr v' (x :: ds) ∧ (∀ u us, Rp σ.obj ρ w pr u us → Rp σ'.obj ρ' w pr u us) ∧ ∀ j b, own σ'.obj ρ' j = some b → own σ.obj ρ j = some b := by
     intro σ1 ρ1 c1 M1 r1 m1 o1 h1
     simp only [Option.bind_eq_some_iff] at h1
     obtain ⟨p, hp, h1⟩ := h1
     cases h1
     obtain ⟨ρ2, M2, r2, m2, o2⟩ := ihb M1 hp (m1 _ _ q2)
     exact ⟨ρ2, M2, ⟨x, ds, rfl, m2 _ _ r1, r2⟩, fun u us h => m2 _ _ (m1 _ _ h), fun j b h => o1 j b (o2 j b h)⟩
    cases a with
    | own e r =>
     simp only [zI, Option.bind_eq_some_iff] at h
     obtain ⟨p, hp, h⟩ := h
     obtain ⟨ρ1, M1, r1, m1, o1⟩ := M.ownS hp q1
     exact step M1 r1 m1 o1 (by simp only [Option.bind_eq_some_iff]; exact h)
    | _ => exact step M q1 (fun _ _ h => h) (fun _ _ h => h) h
   | _ => cases a <;> exact same M h q
 | _ => intro ts v v' σ σ' ρ k vs M h q; exact same M h q
theorem aOt : ∀ (n k i m : Nat), (names k n)[i]? = some m ↔ i < n ∧ m = k + i
 | 0, k, i, m => by simp [names]
 | n + 1, k, 0, m => by simp [names]; exact eq_comm
 | n + 1, k, i + 1, m => by
  simp only [names, List.getElem?_cons_succ, aOt n (k + 1) i m]
  constructor <;> (rintro ⟨h1, h2⟩; exact ⟨by omega, by omega⟩)
theorem aA3 : ∀ (n k : Nat), (names k n).length = n
 | 0, _ => rfl
 | n + 1, k => by simp [names, aA3 n]
theorem bBw {n k m : Nat} (h : m ∈ names k n) : k ≤ m := by
 obtain ⟨i, hi⟩ := List.mem_iff_getElem?.1 h
 have := (aOt n k i m).1 hi
 omega
theorem uG : ∀ (n k : Nat), (names k n).Nodup
 | 0, _ => List.nodup_nil
 | n + 1, k => by
  rw [names, List.nodup_cons]
  exact ⟨fun h => by have := bBw h; omega, uG n (k + 1)⟩
theorem aO5 : ∀ {l : List Nat}, σ.frees l = true → ∀ k ∈ l, σ.free k = true
 | k :: l, h, j, hj => by
  simp only [St.frees, Bool.and_eq_true] at h
  rcases List.mem_cons.1 hj with e | e
  ·subst e; exact h.1
  exact aO5 h.2 j e
theorem aD5 : ∀ {l m : List Nat}, subset l m = true → ∀ k ∈ l, k ∈ m
 | k :: l, m, h, j, hj => by
  simp only [subset, Bool.and_eq_true] at h
  rcases List.mem_cons.1 hj with e | e
  ·subst e; exact aEx.1 h.1
  exact aD5 h.2 j e
theorem tK : ∀ {l m : List Nat}, eB l m = true → ∀ k ∈ l, k ∉ m
 | k :: l, m, h, j, hj => by
  simp only [eB, Bool.and_eq_true, Bool.not_eq_true'] at h
  rcases List.mem_cons.1 hj with e | e
  ·subst e; exact eY.1 h.1
  exact tK h.2 j e
theorem aWl {k : Nat} {l m : List Nat} : k ∈ without l m ↔ k ∈ l ∧ k ∉ m := by
 unfold without
 rw [List.mem_filter, Bool.not_eq_true', eY]
theorem zO (rs : List Ty) : ∀ {l : List Nat} {k : Nat}, k ∈ oC σ rs l → k ∈ l
 | j :: l, k, h => by
  unfold oC at h
  split at h
  ·rename_i e r xs _
   cases hr : iT r rs <;> rw [hr] at h
   ·exact List.mem_cons_of_mem _ (zO rs h)
   rcases List.mem_cons.1 h with e | e
   ·subst e; simp
   exact List.mem_cons_of_mem _ (zO rs e)
  exact List.mem_cons_of_mem _ (zO rs h)
theorem aLk (rs : List Ty) : ∀ {l : List Nat} {k : Nat} {e : Nat} {r : Ty} {xs : List r.T}, k ∈ l → k ∉ oC σ rs l → σ.obj k = some (.chunk e r xs) → iT r rs = false
 | j :: l, k, e, r, xs, hk, hn, ho => by
  unfold oC at hn
  by_cases hjk : j = k
  ·subst hjk
   rw [ho] at hn
   simp only at hn
   cases hr : iT r rs with
   | false => rfl
   | true => rw [hr] at hn; simp at hn
  have hk' : k ∈ l := by
   rcases List.mem_cons.1 hk with h | h
   ·exact absurd h.symm hjk
   ·exact h
  refine aLk rs hk' (fun h => hn ?_) ho
  split
  ·rename_i e' r' xs' _
   cases iT r' rs
   ·exact h
   exact List.mem_cons_of_mem _ h
  exact h
theorem aT8 : ∀ {l m : List Nat} {i n k : Nat}, l.Nodup → l[i]? = some n → m[i]? = some k → lk (l.zip m) n = some k
 | [], m, i, n, k, _, h, _ => by simp at h
 | a :: l, [], i, n, k, _, _, h => by simp at h
 | a :: l, b :: m, 0, n, k, hn, h1, h2 => by
  simp only [List.getElem?_cons_zero, Option.some.injEq] at h1 h2
  subst h1; subst h2
  rw [List.zip_cons_cons, fG, if_pos rfl]
 | a :: l, b :: m, i + 1, n, k, hn, h1, h2 => by
  simp only [List.getElem?_cons_succ] at h1 h2
  have hne : a ≠ n := fun e => by subst e; exact (List.nodup_cons.1 hn).1 (List.mem_of_getElem? h1)
  rw [List.zip_cons_cons, fG, if_neg hne]
  exact aT8 (List.nodup_cons.1 hn).2 h1 h2
end
end Ab
end
section
namespace Ab
open Go
section
variable {P : Program} {E : Env} {C : Cx} {σ : St} {ρ : Nat → Loc} {pr : dU} {f : Nat → Value} {w : World} {a : Act} {o : Oper} {g : Nat → Value}
def aUq (o : Oper) (σ : St) (fn : Nat) (as : SV) (ts : List Nat) : Prop :=
 (∃ args tys, o.op = .call { callee := .value (.func fn), args := args, argTypes := tys } ∧ as = aJk σ args.toList ∧ ts = tys.toList) ∨
 ∃ t args tys cs, o.op = .call { callee := .value (.tmp t), args := args, argTypes := tys } ∧ σ.ev (.tmp t) = .fn fn cs ∧ as = (aJk σ args.toList).app cs ∧ ts = tys.toList ++ List.replicate cs.len 0
theorem Rp.app {h : Hp} : ∀ {s t : SV} {vs us : List Value}, Rp h ρ w pr s vs → s.lst = true → Rp h ρ w pr t us → Rp h ρ w pr (s.app t) (vs ++ us) := by
 intro s
 induction s with
 | nil =>
  intro t vs us q _ q'
  have : vs = [] := q
  subst this
  exact q'
 | cons a b _ ih =>
  intro t vs us q hl q'
  obtain ⟨v, d, rfl, q1, q2⟩ := q
  exact ⟨v, d ++ us, rfl, q1, ih q2 hl q'⟩
 | seg r n xs s ih =>
  intro t vs us q hl q'
  obtain ⟨c, d, rfl, h1, h2, h3, q2⟩ := q
  exact ⟨c, d ++ us, by simp, h1, h2, h3, ih q2 hl q'⟩
 | _ => intro t vs us q hl; cases hl
theorem aSd (σ : St) : ∀ l : List Operand, (aJk σ l).lst = true
 | [] => rfl
 | _ :: l => aSd σ l
theorem aLr {fn : Nat} {as : SV} {ts : List Nat} (M : Mo C σ ρ pr (fa g a) w) (h : aUq o σ fn as ts) (hent : ∀ args w, (callFunc fn args).run P w = .ok (.enter fn args) w) :
  ∃ args : Array Value, (execOp a.eval o).run P w = .ok (.enter fn args) w ∧ Rp σ.obj ρ w pr as args.toList := by
 rcases h with ⟨args, tys, ho, rfl, _⟩ | ⟨t, args, tys, cs, ho, he, rfl, _⟩
 ·refine ⟨args.map a.eval, ?_, by simpa using aJj M args.toList⟩
  unfold execOp
  simp only [ho, resolve]
  have : a.eval (.func fn) = .func (.func fn) #[] #[] := rfl
  rw [this]
  simp only [Deferred.ofValue, Sem.run_bind, Sem.run_pure, Result.andThen, invoke, Array.append_empty, Array.empty_append]
  exact hent _ _
 have q := dZ M (.tmp t)
 rw [he] at q
 obtain ⟨vs, hv, q1⟩ := q
 simp only [List.cons.injEq, and_true] at hv
 refine ⟨args.map a.eval ++ vs.toArray, ?_, by simpa using Rp.app (aJj M args.toList) (aSd σ _) q1⟩
 unfold execOp
 simp only [ho, resolve, hv]
 simp only [Deferred.ofValue, Sem.run_bind, Sem.run_pure, Result.andThen, invoke, Array.append_empty, Array.empty_append]
 exact hent _ _
theorem aIg {h h' : Hp} {k : Nat} (e : h' k = h k) : own h' ρ k = own h ρ k := by unfold own; rw [e]
theorem aJh {d : Option Nat} {as : SV} {ts : List Nat} {Y : Type} {m : Option Y} {F : Y → St} {W : List Nat} : ∀ {l : List FS}, tL E σ d as ts l = .call Y m F W → ∃ fs ∈ l, aC3 E fs σ d as ts = .call Y m F W
 | [], h => by cases h
 | fs :: l, h => by
  unfold tL at h
  split at h
  ·obtain ⟨fs', h1, h2⟩ := aJh h
   exact ⟨fs', List.mem_cons_of_mem _ h1, h2⟩
  exact ⟨fs, by simp, h⟩
theorem aGu {d : Option Nat} {as : SV} {ts : List Nat} {Y Z : Type} {m : Option (Y ⊕ Z)} {F : Y → St} {G : Z → St} {V : Z → SV} {W : List Nat} : ∀ {l : List FSP}, pE E σ d as ts l = .callP Y Z m F G V W → ∃ fs ∈ l, wE E fs σ d as ts = .callP Y Z m F G V W
 | [], h => by cases h
 | fs :: l, h => by
  unfold pE at h
  split at h
  ·obtain ⟨fs', h1, h2⟩ := aGu h
   exact ⟨fs', List.mem_cons_of_mem _ h1, h2⟩
  exact ⟨fs, by simp, h⟩
theorem aKq (hG : Gl P C) (M : Mo C σ ρ pr f w) {ins res : Sh} {ex : List (Nat × Nat)} {as : SV} {vals : List Value} (qas : Rp σ.obj ρ w pr as vals) {d : Option Nat} {ts : List Nat} {σ1 : St} {av : SV} {kk : Nat}
  (hp : (aKm σ as ex).bind (fun as' => zI E kk ins (List.replicate ex.length 0 ++ ts) as' σ) = some (σ1, av)) {x : ins.T} {W bor : List Nat} (hg : ins.get σ1 av [] = some (x, W, bor))
  {xio : ins.io.T} {vio bio : List Nat} (hgio : ins.io.get σ1 av [] = some (xio, vio, bio)) (hdis : eB bor W = true) (hfrees : σ1.frees (names (tok d) res.cnt) = true) (hsub : subset vio W = true)
  {fn : Nat} {args : Array Value} (hargs : args.toList = vals) {y : (Sh.out ins.io res).T} {En : Ending → Value → Prop}
  (hcalls : ∀ (C : Cx) (ρ : Nat → Loc) (gx : List Value), gx.length = ex.length → Gl P C → Mo C ⟨[], jN (dS ins x).os⟩ ρ C.pr (fun _ => undef) w → Rp (fun n => lk (dS ins x).os n) ρ w C.pr (dS ins x).v (gx ++ args.toList) →
   Calls P fn args w (Told ins res (gx ++ args.toList) C En y)) :
  Calls P fn args w fun e w' => ∃ v, En e v ∧ ∃ ρ' pr', Mo C (aKr σ1 ins res W vio bor (names (tok d) res.cnt) y) ρ' pr' f w' ∧
   Rp (aKr σ1 ins res W vio bor (names (tok d) res.cnt) y).obj ρ' w' pr' (aPa ins res vio (names (tok d) res.cnt) y) [v] ∧ Same σ ρ w w' W := by
 simp only [Option.bind_eq_some_iff] at hp
 obtain ⟨as', hex, hp⟩ := hp
 obtain ⟨gx, hgx, qex⟩ := aR0 M qas hex
 obtain ⟨ρ1, M1, q1, _, own1⟩ := aP2 M hp qex
 subst hargs
 generalize hrs : ins.io.rowsIn ++ res.rowsIn = rs
 obtain ⟨prf, Mf, hpf, mf, zf⟩ := M1.freezes (oC σ1 rs bor)
 generalize hσ2 : σ1.freezes (oC σ1 rs bor) = σ2 at Mf mf
 obtain ⟨pr2, M2, hp2, m2, z2, n2⟩ := Mf.freezes2 bor
 have hp12 : PrLe w pr w pr2 := hpf.trans hp2
 have hnb : ∀ k ∈ W, k ∉ bor := fun k hk hb => tK hdis k hb hk
 have e2 : ∀ k, k ∉ oC σ1 rs bor → σ2.obj k = σ1.obj k := fun k hk => by rw [← hσ2]; exact qH k _ σ1 hk
 have e2v : ∀ k ∈ W, σ2.obj k = σ1.obj k := fun k hk => e2 k (fun h => hnb k hk (zO rs h))
 have eFv : ∀ k ∈ W, (σ2.freezes bor).obj k = σ1.obj k := fun k hk => (qH k bor σ2 (hnb k hk)).trans (e2v k hk)
 have hz : Fz σ1 ρ1 pr2 bor := fun k hk e r xs hob b hb => by
  by_cases hm : k ∈ oC σ1 rs bor
  ·exact (hp2 b r (zf k hm e r xs hob b hb)).1
  ·exact z2 k hk e r xs (by rw [e2 k hm]; exact hob) b hb
 obtain ⟨nv, env, lnv, dnv⟩ := gF hg
 rw [List.nil_append] at env
 have hvis : W.Nodup := dnv List.nodup_nil
 have hlv : W.length = ins.cnt := by rw [env, lnv]
 let all0 := jL ins
 have hl0 : all0.length = ins.cnt := aA3 _ _
 have hn0 : all0.Nodup := uG _ _
 let ρ0 : Nat → Loc := fun n => match lk (all0.zip W) n with | some k => ρ1 k | none => ρ1 n
 have hρ0 : ∀ (i k n : Nat), W[i]? = some k → all0[i]? = some n → ρ0 n = ρ1 k := fun i k n h1 h2 => by
  simp only [ρ0, aT8 hn0 h2 h1]
 let C' : Cx := ⟨w, fun b => ∃ k ∈ W, own σ1.obj ρ1 k = some b, pr2⟩
 have hfresh := fresh (all := all0) (h' := fun n => lk (dS ins x).os n) (ρ' := ρ0) M1 M2 hp12 hz eFv hg q1 hl0 hn0 (fun n => rfl)
  (fun i k n h1 h2 => ⟨by rw [hρ0 i k n h1 h2], fun _ _ _ _ => hρ0 i k n h1 h2⟩)
 have hstart : Mo C' ⟨[], jN (dS ins x).os⟩ ρ0 C'.pr (fun _ => undef) w :=
  hfresh.2 C' [] (fun _ => undef) rfl rfl rfl (Nat.le_refl _) (fun _ _ _ => rfl) (fun _ _ h => h) (fun _ _ h => .inl h) (fun k hk b hb => .inl ⟨k, hk, hb⟩) (fun i u hu => by cases hu)
 refine (hcalls C' ρ0 gx hgx ⟨(hG.world M1).1, fun b hb => ⟨((hG.world M1).2 b hb).1, fun ⟨k, _, hk⟩ => ((hG.world M1).2 b hb).2 k hk⟩⟩ hstart hfresh.1).mono ?_
 rintro e w' ⟨v, hen, σe, ρe, pre, fe, gs, rv, visE, borE, Me, hge, hde, qg, qr⟩
 refine ⟨v, hen, ?_⟩
 unfold aKr aPa
 rw [hrs, hσ2]
 obtain ⟨pre2, Me2, hpe, me, ze⟩ := Me.freezes borE
 have hnbE : ∀ k ∈ visE, k ∉ borE := fun k hk hb => tK hde k hb hk
 have eE : ∀ k ∈ visE, (σe.freezes borE).obj k = σe.obj k := fun k hk => qH k borE σe (hnbE k hk)
 obtain ⟨nE, enE, lnE, dnE⟩ := gF hge
 rw [List.nil_append] at enE
 have hvisE : visE.Nodup := dnE List.nodup_nil
 obtain ⟨nio, enio, lnio, dnio⟩ := gF hgio
 rw [List.nil_append] at enio
 have hvio : vio.Nodup := dnio List.nodup_nil
 have hlio : vio.length = ins.io.cnt := by rw [enio, lnio]
 generalize hnew : names (tok d) res.cnt = new
 have hfr : ∀ k ∈ new, σ1.free k = true := fun k hk => aO5 hfrees k (by rw [hnew]; exact hk)
 have hlnew : new.length = res.cnt := by rw [← hnew]; exact aA3 _ _
 have hvv : ∀ k ∈ W, ∃ ob, σ1.obj k = some ob := fun k hk => by
  obtain ⟨i, hi⟩ := List.mem_iff_getElem?.1 hk
  have hli : i < all0.length := by rw [hl0, ← hlv]; exact (List.getElem?_eq_some_iff.1 hi).1
  obtain ⟨ob, hob⟩ := aY3 (x := x) hl0 (List.getElem?_eq_getElem hli)
  obtain ⟨k', o', k1, _, k2, _⟩ := wB all0 hg (by omega) i _ ob hob
  simp only [List.length_nil, Nat.zero_add, hi, Option.some.injEq] at k1
  subst k1
  exact ⟨o', k2⟩
 have hall : (vio ++ new).Nodup := by
  rw [List.nodup_append]
  refine ⟨hvio, by rw [← hnew]; exact uG _ _, fun k hk j hj e => ?_⟩
  subst e
  obtain ⟨ob, hob⟩ := hvv k (aD5 hsub k hk)
  have := free_spec (hfr k hj)
  rw [hob] at this; cases this
 have hcnt : (Sh.out ins.io res).cnt = ins.io.cnt + res.cnt := by simp [Sh.out, Sh.cnt]
 have hlall : (vio ++ new).length = (Sh.out ins.io res).cnt := by rw [hcnt, List.length_append, hlio, hlnew]
 have hlE : visE.length = (vio ++ new).length := by rw [enE, lnE, hlall]
 have hnames := aVx (x := y) hlall
 generalize hput : (Sh.out ins.io res).put (vio ++ new) y (vio ++ new) = re at hnames
 generalize hK : without W (aG2 ins.io.top vio) = K
 let ρ' : Nat → Loc := fun n => match jI n (aG2 ins.io.top vio), lk ((vio ++ new).zip visE) n with
  | false, some k => ρe k
  | _, _ => ρ1 n
 have hal : ∀ i : Nat, ins.io.top[i]? = some true → ∃ k mm o1 o2, vio[i]? = some k ∧ visE[i]? = some mm ∧ σ1.obj k = some o1 ∧ σe.obj mm = some o2 ∧ bG9 o1 o2 ∧ (ρ1 k).blk = (ρe mm).blk := by
  intro i hi
  obtain ⟨c, d, vis1, b1, b2, ec, h1, h2, _⟩ := lL hge
  cases ec
  obtain ⟨c', ec, h1'⟩ := aCz h1
  cases ec
  obtain ⟨k, mm, cs, cs2, k1, k2, k3, k4, k5, k6⟩ := aC4 hgio h1' q1 qg i hi
  obtain ⟨n2, en2, _⟩ := gF h2
  simp only [List.length_nil, Nat.zero_add] at k1 k2
  refine ⟨k, mm, cs, cs2, k1, ?_, k3, k4, k5, k6⟩
  rw [en2, List.getElem?_append_left (List.getElem?_eq_some_iff.1 k2).1]; exact k2
 have htop : ∀ n, n ∈ aG2 ins.io.top vio → ∃ (i : Nat) (mm : Nat) (o1 o2 : Obj), vio[i]? = some n ∧ (vio ++ new)[i]? = some n ∧ visE[i]? = some mm ∧ σ1.obj n = some o1 ∧ σe.obj mm = some o2 ∧ bG9 o1 o2 ∧ (ρ1 n).blk = (ρe mm).blk := by
  intro n hn
  obtain ⟨i, h1, h2⟩ := aJt hn
  obtain ⟨k, mm, cs, cs2, k1, k2, k3, k4, k5, k6⟩ := hal i h1
  rw [h2] at k1; cases k1
  exact ⟨i, mm, cs, cs2, h2, by rw [List.getElem?_append_left (List.getElem?_eq_some_iff.1 h2).1]; exact h2, k2, k3, k4, k5, k6⟩
 have hρ' : ∀ (i k n : Nat), visE[i]? = some k → (vio ++ new)[i]? = some n → (ρ' n).blk = (ρe k).blk ∧ ∀ e r xs, σe.obj k = some (.chunk e r xs) → ρ' n = ρe k := by
  intro i k n h1 h2
  simp only [ρ', aT8 hall h2 h1]
  cases hm : jI n (aG2 ins.io.top vio) with
  | false => exact ⟨rfl, fun _ _ _ _ => rfl⟩
  | true =>
   obtain ⟨j, mm, cs, cs2, j1, j2, j3, j4, j5, j6, j7⟩ := htop n (aEx.1 hm)
   have := aFu hall h2 j2
   subst this
   rw [h1] at j3; cases j3
   exact ⟨j7, fun e r xs he => by rw [j5] at he; cases he; cases cs <;> exact j6.elim⟩
 let σ3 := σ2.after K re.os W
 have hobj3 : ∀ n ob, (n, ob) ∈ re.os → σ3.obj n = some ob := fun n ob hn => by
  show (σ2.after K re.os W).obj n = some ob
  rw [aGb, aT7 (by rw [hnames]; exact hall) hn]
 have N : Nm σe ρe σ3.obj ρ' visE (vio ++ new) := Nm.of_get hge hlall (fun n ob hn => hobj3 n ob (by rw [← hput]; exact hn)) hρ'
 have qall : Rp σe.obj ρe w' pre (.cons (.tup gs) (.cons rv .nil)) [.tuple (gx ++ args.toList).toArray, v] := ⟨_, _, rfl, ⟨gx ++ args.toList, rfl, qg⟩, v, [], rfl, qr, rfl⟩
 have T := nU hpe Me.hp N hge (t := []) (by simp) (by omega) ze qall
 simp only [List.length_nil, List.drop_zero, Nat.zero_add, hput] at T
 let L : Nat → Prop := fun b => ∃ k ∈ bor, k ∉ oC σ1 rs bor ∧ ∃ e r xs, σ1.obj k = some (.chunk e r xs) ∧ (ρ1 k).hdr.ownBlock = some b
 let pr3 : dU := fun b => open Classical in if L b then none else pre2 b
 have hpr3 : ∀ b r, pr3 b = some r → ¬ L b ∧ pre2 b = some r := fun b r hb => by
  by_cases hL : L b
  ·simp [pr3, hL] at hb
  ·simp only [pr3, hL, if_false] at hb; exact ⟨hL, hb⟩
 have hpr3' : ∀ b r, ¬ L b → pre2 b = some r → pr3 b = some r := fun b r hL hb => by simp only [pr3, hL, if_false]; exact hb
 have h2e : ∀ b r, pr2 b = some r → pre2 b = some r := fun b r hb => (hpe b r (Me.prC b r hb)).1
 have hLrow : ∀ b r, pre2 b = some r → iT r rs = true → pr3 b = some r := fun b r hb hr => by
  refine hpr3' b r (fun ⟨k, hk, hnm, e, r', xs, hob, hbk⟩ => ?_) hb
  have := h2e b r' (hz k hk e r' xs hob b hbk)
  rw [hb] at this; cases this
  have := aLk rs hk hnm hob
  rw [hr] at this; cases this
 have hLown : ∀ b, L b → ∃ k, own σ2.obj ρ1 k = some b := fun b ⟨k, hk, hnm, e, r, xs, hob, hbk⟩ => ⟨k, by unfold own; rw [e2 k hnm, hob]; exact hbk⟩
 have howE : ∀ n b, (∃ ob, (n, ob) ∈ re.os) → own σ3.obj ρ' n = some b → ∃ (i k : Nat), visE[i]? = some k ∧ (vio ++ new)[i]? = some n ∧ own σe.obj ρe k = some b := fun n b ⟨ob, hn⟩ hb => by
  obtain ⟨i, hi⟩ := List.mem_iff_getElem?.1 hn
  obtain ⟨k, o', k1, k2, k3, _⟩ := T.2 i n ob hi
  exact ⟨i, k, k1, k2, by rw [← N.own k1 k2 k3]; exact hb⟩
 have howE2 : ∀ n b, (∃ ob, (n, ob) ∈ re.os) → own σ3.obj ρ' n = some b → (∀ r, pre2 b ≠ some r) ∧ ((∃ k ∈ W, own σ2.obj ρ1 k = some b) ∨ w.heap.size ≤ b) := fun n b hn hb => by
  obtain ⟨i, k, k1, k2, k3⟩ := howE n b hn hb
  have hk : own (σe.freezes borE).obj ρe k = some b := by rw [aIg (eE k (List.mem_of_getElem? k1))]; exact k3
  refine ⟨fun r hr => (Me2.prot b r hr).2 k hk, ?_⟩
  rcases Me2.ownC k b hk with ⟨j, hj, hjb⟩ | h
  ·exact .inl ⟨j, hj, by rw [aIg (e2v j hj)]; exact hjb⟩
  ·exact .inr h
 have hrows : ∀ r ∈ (Sh.out ins.io res).rowsIn, iT r rs = true := fun r hr => by
  refine aO0 ?_
  rw [← hrs]
  simpa [Sh.out, Sh.rowsIn] using hr
 obtain ⟨in1, in2⟩ := aEg rs (vio ++ new) (s := Sh.out ins.io res) y (vio ++ new) hrows
 rw [hput] at in1 in2
 have A := Mf.after (D := W) (K := K) (os := re.os) (ρ' := ρ') (pr' := pr3) (w' := w') Me.os Me.tape Me.output Me.size
  (fun b hb hne => Me.heap b hb (fun ⟨k, hk, h⟩ => hne k hk (by rw [aIg (e2v k hk)]; exact h)))
  (fun b r hb => hpr3' b r (fun hL => by obtain ⟨k, hk⟩ := hLown b hL; exact (Mf.prot b r hb).2 k hk) (h2e b r (hp2 b r hb).1))
  (fun b r hb => by
   obtain ⟨hL, hb⟩ := hpr3 b r hb
   refine ⟨(Me2.prot b r hb).1, ?_⟩
   rcases Me2.prN b r hb with h | ⟨k, hk, h⟩ | h
   ·rcases n2 b r h with h | ⟨k, hk, e, xs, hob, hbk⟩
    ·exact .inl h
    ·rw [← hσ2] at hob
     obtain ⟨hnm, hob1⟩ := aAh hob
     exact absurd ⟨k, hk, hnm, e, r, xs, hob1, hbk⟩ hL
   ·exact .inr (.inl ⟨k, hk, by rw [aIg (e2v k hk)]; exact h⟩)
   ·exact .inr (.inr h))
  (fun n ob hn => by
   have : n ∈ vio ++ new := by rw [← hnames]; exact List.mem_map.2 ⟨_, hn, rfl⟩
   rcases List.mem_append.1 this with h | h
   ·exact .inl (aD5 hsub n h)
   ·refine .inr (free_spec ?_)
    rw [← hσ2, aC1]; exact hfr n h)
  (by rw [hnames]; exact hall)
  (fun k hk hkK => by
   have hkt : k ∈ aG2 ins.io.top vio := by
    rw [← hK] at hkK
    exact Classical.byContradiction fun h => hkK (aWl.2 ⟨hk, h⟩)
   obtain ⟨i, mm, cs, cs2, i1, i2, i3, i4, i5, i6, i7⟩ := htop k hkt
   obtain ⟨ob, hob⟩ := aY3 (x := y) hlall i2
   rw [hput] at hob
   obtain ⟨k', o', k1, _, k2, k3, _⟩ := T.2 i k ob hob
   rw [i3] at k1; cases k1
   rw [i5] at k2; cases k2
   refine ⟨cs, _, by rw [e2v k hk]; exact i4, List.mem_of_getElem? hob, ?_, ?_⟩
   ·simp only [ρ', aEx.2 hkt]
   ·cases cs <;> cases cs2 <;> simp only [bG9] at i6
    ·cases ob <;> simp only [Kin] at k3
     obtain ⟨h1, h2, _⟩ := k3
     exact ⟨i6.1.trans h1, i6.2.trans h2⟩
    ·cases ob <;> simp only [Kin] at k3
     trivial)
  (fun n hn => by
   have : lk ((vio ++ new).zip visE) n = none := aT9 (fun h => by
    obtain ⟨p, hp, e⟩ := List.mem_map.1 h
    obtain ⟨n', k⟩ := p
    simp only at e; subst e
    rw [hnames] at hn
    exact hn (List.of_mem_zip hp).1)
   simp only [ρ', this]
   cases jI n (aG2 ins.io.top vio) <;> rfl)
  (fun n ob hn => by
   obtain ⟨i, hi⟩ := List.mem_iff_getElem?.1 hn
   obtain ⟨k, o', k1, k2, k3, k4, k5⟩ := T.2 i n ob hi
   exact k5.restrict hLrow (in2 _ hn))
  (fun n ob b hn hb => by
   obtain ⟨h1, h2⟩ := howE2 n b ⟨ob, hn⟩ hb
   exact ⟨fun r hr => h1 r (hpr3 b r hr).2, h2⟩)
  (fun n m o1 o2 b hn hm hb hb' => by
   obtain ⟨i, k, i1, i2, i3⟩ := howE n b ⟨o1, hn⟩ hb
   obtain ⟨j, k', j1, j2, j3⟩ := howE m b ⟨o2, hm⟩ hb'
   have := Me.inj k k' b i3 j3
   subst this
   have := aFu hvisE i1 j1
   subst this
   rw [i2] at j2; exact Option.some.inj j2)
 have q3 := T.1.restrict hLrow in1
 refine ⟨ρ', pr3, ?_, ?_, fun b hb hne => Me.heap b hb (fun ⟨k, hk, h⟩ => hne k hk (own1 k b h))⟩
 ·exact A.1
 obtain ⟨c, d, W1, b1, b2, ec, _⟩ := lL hge
 have q4 : Rp σ3.obj ρ' w' pr3 re.v [.tuple (gx ++ args.toList).toArray, v] := q3
 rw [← hput] at q4
 obtain ⟨_, _, e1, _, _, _, e2', q5, _⟩ := q4
 simp only [List.cons.injEq] at e1
 obtain ⟨_, rfl⟩ := e1
 simp only [List.cons.injEq] at e2'
 obtain ⟨rfl, _⟩ := e2'
 have q6 : Rp σ3.obj ρ' w' pr3 (match ((Sh.out ins.io res).put (vio ++ new) y (vio ++ new)).v with | .cons _ (.cons r _) => r | _ => .dead) [v] := q5
 rw [hput] at q6
 exact q6
theorem aUj (hG : Gl P C) (M : Mo C σ ρ pr f w) {fs : FS} {as : SV} {args : Array Value} (qas : Rp σ.obj ρ w pr as args.toList) {d : Option Nat} {ts : List Nat} {fn : Nat} (hF : FnOK P fn fs) {Y : Type} {m : Option Y} {F : Y → St} {W : List Nat} (h : aC3 E fs σ d as ts = .call Y m F W) {y : Y} (hy : m = some y) :
  Calls P fn args w fun e w' => ∃ v, e = .returned v ∧ ∃ ρ' pr', Mo C (F y) ρ' pr' (fd d v f) w' ∧ Same σ ρ w w' W := by
 unfold aC3 at h
 split at h
 ·cases h
 rename_i p hp
 split at h
 ·cases h
 rename_i x vis bor hg
 split at h
 ·cases h
 rename_i xio vio bio hgio
 simp only at h
 cases hc : (eB bor vis && p.1.frees (names (tok d) fs.res.cnt) && subset vio vis) with
 | false => rw [hc] at h; cases h
 | true =>
 rw [hc] at h
 simp only [cond_true] at h
 simp only [Bool.and_eq_true] at hc
 cases h
 refine (aKq (σ1 := p.1) (av := p.2) (En := bDf) (d := d) hG M qas hp hg hgio hc.1.1 hc.1.2 hc.2 rfl (fun C ρ gx h1 h0 h2 h3 => hF.calls C ρ gx args w x y h1 hy h0 h2 h3)).mono ?_
 rintro e w' ⟨v, he, ρ', pr', M', q, hs⟩
 exact ⟨v, he, ρ', pr', M'.setd d _ v q, hs⟩
theorem aQw (hG : Gl P C) (M : Mo C σ ρ pr f w) {fs : FSP} {as : SV} {args : Array Value} (qas : Rp σ.obj ρ w pr as args.toList) {d : Option Nat} {ts : List Nat} {fn : Nat} (hF : FnOKP P fn fs) {Y Z : Type} {m : Option (Y ⊕ Z)} {F : Y → St} {G : Z → St} {V : Z → SV} {W : List Nat}
  (h : wE E fs σ d as ts = .callP Y Z m F G V W) {s : Y ⊕ Z} (hy : m = some s) :
  Calls P fn args w fun e w' => match s with
   | .inl y => ∃ v, e = .returned v ∧ ∃ ρ' pr', Mo C (F y) ρ' pr' (fd d v f) w' ∧ Same σ ρ w w' W
   | .inr z => ∃ v, e = .panicked [{ v, recovered := false }] ∧ ∃ ρ' pr', Mo C (G z) ρ' pr' f w' ∧ Rp (G z).obj ρ' w' pr' (V z) [v] := by
 unfold wE at h
 split at h
 ·cases h
 rename_i p hp
 split at h
 ·cases h
 rename_i x vis bor hg
 split at h
 ·cases h
 rename_i xio vio bio hgio
 cases hc : (eB bor vis && p.1.frees (names (tok d) fs.res.cnt) && subset vio vis && p.1.frees (names (tok d) fs.pv.cnt)) with
 | false => rw [hc] at h; cases h
 | true =>
 rw [hc] at h
 simp only [cond_true] at h
 simp only [Bool.and_eq_true] at hc
 obtain ⟨⟨⟨c1, c2⟩, c3⟩, c4⟩ := hc
 cases h
 cases s with
 | inl y =>
  refine (aKq (σ1 := p.1) (av := p.2) (En := bDf) (d := d) hG M qas hp hg hgio c1 c2 c3 rfl (fun C ρ gx h1 h0 h2 h3 => hF.calls C ρ gx args w x _ h1 hy h0 h2 h3)).mono ?_
  rintro e w' ⟨v, he, ρ', pr', M', q, hs⟩
  exact ⟨v, he, ρ', pr', M'.setd d _ v q, hs⟩
 | inr z =>
  refine (aKq (σ1 := p.1) (av := p.2) (En := bHq) (d := d) hG M qas hp hg hgio c1 c4 c3 rfl (fun C ρ gx h1 h0 h2 h3 => hF.calls C ρ gx args w x _ h1 hy h0 h2 h3)).mono ?_
  rintro e w' ⟨v, he, ρ', pr', M', q, hs⟩
  exact ⟨v, he, ρ', pr', M', q⟩
theorem bFe {d : Option Nat} {fn : Nat} {as : SV} {ts : List Nat} {v : SV} (h : aBe E σ d fn as ts = .panic v) : False := by
 have h1 : ∀ l : List FSP, pE E σ d as ts l ≠ .panic v := by
  intro l
  induction l with
  | nil => intro h; cases h
  | cons fs l ih =>
   intro h
   unfold pE at h
   split at h
   ·exact ih h
   ·unfold wE at h
    split at h
    ·cases h
    ·split at h
     ·cases h
     ·split at h
      ·cases h
      ·revert h
       generalize (eB _ _ && _ && _ && _) = b
       cases b <;> intro h <;> cases h
 have h2 : ∀ l : List FS, tL E σ d as ts l ≠ .panic v := by
  intro l
  induction l with
  | nil => intro h; cases h
  | cons fs l ih =>
   intro h
   unfold tL at h
   split at h
   ·exact ih h
   ·unfold aC3 at h
    split at h
    ·cases h
    ·split at h
     ·cases h
     ·split at h
      ·cases h
      ·revert h
       simp only
       generalize (eB _ _ && _ && _) = b
       cases b <;> intro h <;> cases h
 unfold aBe at h
 split at h
 ·exact h1 _ h
 exact h2 _ h
theorem aZx {d : Option Nat} {fn : Nat} {as : SV} {ts : List Nat} {Y : Type} {m : Option Y} {F : Y → St} {W : List Nat} (h : aBe E σ d fn as ts = .call Y m F W) : ∃ fs ∈ E.fs fn, aC3 E fs σ d as ts = .call Y m F W := by
 unfold aBe at h
 split at h
 ·exfalso
  have : ∀ l : List FSP, pE E σ d as ts l ≠ .call Y m F W := by
   intro l
   induction l with
   | nil => intro h; cases h
   | cons fs l ih =>
    intro h
    unfold pE at h
    split at h
    ·exact ih h
    ·unfold wE at h
     split at h
     ·cases h
     ·split at h
      ·cases h
      ·split at h
       ·cases h
       ·revert h
        generalize (eB _ _ && _ && _ && _) = b
        cases b <;> intro h <;> cases h
  exact this _ h
 exact aJh h
theorem aW8 {d : Option Nat} {fn : Nat} {as : SV} {ts : List Nat} {Y Z : Type} {m : Option (Y ⊕ Z)} {F : Y → St} {G : Z → St} {V : Z → SV} {W : List Nat} (h : aBe E σ d fn as ts = .callP Y Z m F G V W) : ∃ fs ∈ E.fp fn, wE E fs σ d as ts = .callP Y Z m F G V W := by
 unfold aBe at h
 split at h
 ·exact aGu h
 exfalso
 have : ∀ l : List FS, tL E σ d as ts l ≠ .callP Y Z m F G V W := by
  intro l
  induction l with
  | nil => intro h; cases h
  | cons fs l ih =>
   intro h
   unfold tL at h
   split at h
   ·exact ih h
   ·unfold aC3 at h
    split at h
    ·cases h
    ·split at h
     ·cases h
     ·split at h
      ·cases h
      ·revert h
       simp only
       generalize (eB _ _ && _ && _) = b
       cases b <;> intro h <;> cases h
 exact this _ h
end
end Ab
end
section
namespace Ab
open Go
section
variable {P : Program} {E : Env} {C : Cx} {σ : St} {ρ : Nat → Loc} {pr : dU} {f : Nat → Value} {w : World} {a : Act} {o : Oper} {g : Nat → Value} {n : Nat} {R : Type}
theorem mG (a : Act) (d : Option Nat) (v : Value) : (a.put d v).tmps.size = a.tmps.size := by cases d <;> simp [Act.put]
theorem gX (a : Act) (d : Option Nat) (v : Value) : (a.put d v).defers = a.defers := by cases d <;> rfl
theorem qF (a : Act) (d : Option Nat) (v : Value) (i : Nat) (h : d ≠ some i) : (a.put d v).tmps[i]? = a.tmps[i]? := by
 cases d with
 | none => rfl
 | some d =>
  have : d ≠ i := fun e => h (by rw [e])
  simp [Act.put, Array.getElem?_setIfInBounds_ne this]
theorem aE2 (hn : n ≤ 900000) (ha : a.tmps.size = n) {d : Option Nat} (hd : ∀ i, d = some i → i < n) (v : Value) : fa g (a.put d v) = fd d v (fa g a) := by
 cases d with
 | none => rfl
 | some d =>
  have hdn := hd d rfl
  funext i
  simp only [fa, fd, Act.put]
  by_cases hi : i = d
  ·subst hi
   rw [if_pos (by omega), if_pos rfl]
   rw [Array.getD_eq_getD_getElem?, Array.getElem?_setIfInBounds_self_of_lt (by omega)]
   rfl
  ·rw [if_neg hi]
   by_cases hl : i < 900000
   ·rw [if_pos hl, if_pos hl]
    rw [Array.getD_eq_getD_getElem?, Array.getD_eq_getD_getElem?, Array.getElem?_setIfInBounds_ne (fun e => hi e.symm)]
   ·rw [if_neg hl, if_neg hl]
def OR.noCall : OR → Bool
 | .fail | .one _ _ => true
 | _ => false
theorem aUi {b : Bool} {x y : OR} (hx : x.noCall = true) (hy : y.noCall = true) : OR.noCall (bif b then x else y) = true := by
 cases b
 ·exact hy
 exact hx
theorem aZz {d : Option Nat} {ti : TI} {s x : SV} : (aJm σ d ti s x).noCall = true := by
 unfold aJm
 repeat' first | rfl | apply aUi | split
theorem aZe : (∃ fn as ts, aUq o σ fn as ts ∧ aTm E o σ = aBe E σ o.dst fn as ts) ∨ (aTm E o σ).noCall = true := by
 unfold aTm
 split
 case h_8 fn as ts ho => exact .inl ⟨fn, _, _, .inl ⟨as, ts, ho, rfl, rfl⟩, rfl⟩
 all_goals right
 all_goals repeat' first | rfl | exact aZz | apply aUi | split
theorem aZc : (∃ fn as ts, aUq o σ fn as ts ∧ aP6 E o σ = aBe E σ o.dst fn as ts) ∨ (∃ x ty z, o.op = .panic x ∧ σ.ev x = .val ty z ∧ ty.iok = true ∧ uW ty z = false ∧ aP6 E o σ = .panic (.val ty z)) ∨ (aP6 E o σ).noCall = true := by
 unfold aP6
 split
 case h_7 t as ts ho =>
  split
  ·rename_i fn cs he
   exact .inl ⟨fn, _, _, .inr ⟨t, as, ts, cs, ho, he, rfl, rfl⟩, rfl⟩
  ·exact .inr (.inr rfl)
 case h_8 x ho =>
  right
  split
  ·rename_i ty z hx
   cases hb : (ty.iok && !(uW ty z)) with
   | false => exact .inr rfl
   | true =>
    simp only [Bool.and_eq_true, Bool.not_eq_true'] at hb
    exact .inl ⟨x, ty, z, ho, hx, hb.1, hb.2, rfl⟩
  ·exact .inr rfl
 all_goals right; right
 all_goals repeat' first | rfl | apply aUi | split
theorem aJ5 : (∃ fn as ts, aUq o σ fn as ts ∧ opW E o σ = aBe E σ o.dst fn as ts) ∨ (∃ x ty z, o.op = .panic x ∧ σ.ev x = .val ty z ∧ ty.iok = true ∧ uW ty z = false ∧ opW E o σ = .panic (.val ty z)) ∨ (opW E o σ).noCall = true := by
 unfold opW
 split
 ·exact aZc
 rcases aZe (E := E) (o := o) (σ := σ) with h | h
 ·exact .inl h
 exact .inr (.inr h)
theorem aZ5 (hT : TTok P E.tt) (hE : zV P E) (hG : Gl P C) (M : Mo C σ ρ pr (fa g a) w) (hn : n ≤ 900000) (ha : a.tmps.size = n) (hd : ∀ i, o.dst = some i → i < n) {next : Act → World → Prop} {Q : Exit → Act → World → Prop}
  (h : match opx E o σ with
   | .fail => False
   | .one ok σ' => ok = true ∧ ∀ v ρ' pr' w', Mo C σ' ρ' pr' (fa g (a.put o.dst v)) w' → Same σ ρ w w' (wr o σ) → next (a.put o.dst v) w'
   | .call _ m F W => ∃ y, m = some y ∧ ∀ v ρ' pr' w', Mo C (F y) ρ' pr' (fa g (a.put o.dst v)) w' → Same σ ρ w w' W → next (a.put o.dst v) w'
   | .callP _ _ m F G V W => ∃ s, m = some s ∧ match s with
    | .inl y => ∀ v ρ' pr' w', Mo C (F y) ρ' pr' (fa g (a.put o.dst v)) w' → Same σ ρ w w' W → next (a.put o.dst v) w'
    | .inr z => ∀ v ρ' pr' w', Mo C (G z) ρ' pr' (fa g a) w' → Rp (G z).obj ρ' w' pr' (V z) [v] → Q (.panic [{ v, recovered := false }]) a w'
   | .panic sv => ∀ v, Rp σ.obj ρ w pr sv [v] → Q (.panic [{ v, recovered := false }]) a w) :
  o.wp P a w next Q := by
 unfold Oper.wp
 have fin : ∀ {σ' : St} {W : List Nat}, Done P C g o a σ ρ w W σ' → (∀ v ρ' pr' w', Mo C σ' ρ' pr' (fa g (a.put o.dst v)) w' → Same σ ρ w w' W → next (a.put o.dst v) w') → o.upon P a next Q ((execOp a.eval o).run P w) := by
  rintro σ' W ⟨r, v, w', ρ', pr', hr, hv, M', hs⟩ hk
  rw [hr]
  have := hk v ρ' pr' w' (by rw [aE2 hn ha hd]; exact M') hs
  rcases hv with rfl | ⟨rfl, rfl⟩
  ·exact this
  ·exact this
 unfold opx at h
 cases hR : opR E o σ with
 | some p =>
  rw [hR] at h
  exact fin ((aRj hT M (σ' := p.2) (ok := p.1) hR h.1).done (wr o σ)) h.2
 | none =>
  rw [hR] at h
  simp only at h
  cases hW : opW E o σ with
  | fail => rw [hW] at h; exact h.elim
  | one ok σ' =>
   rw [hW] at h
   exact fin (bBu hT M hW h.1) h.2
  | call Y m F W =>
   rw [hW] at h
   obtain ⟨y, hy, hk⟩ := h
   rcases aJ5 (E := E) (o := o) (σ := σ) with ⟨fn, as, ts, ho, hc⟩ | ⟨_, _, _, _, _, _, _, hc⟩ | hc
   ·rw [hW] at hc
    obtain ⟨fs, hfs, hcall⟩ := aZx hc.symm
    have hF := hE.fs _ _ hfs
    obtain ⟨args, hr, qas⟩ := aLr M ho hF.ent
    rw [hr, Oper.upon_enter]
    refine (aUj hG M qas hF hcall hy).mono ?_
    rintro e w' ⟨v, rfl, ρ', pr', M', hs⟩
    exact hk v ρ' pr' w' (by rw [aE2 hn ha hd]; exact M') hs
   ·rw [hW] at hc; cases hc
   ·rw [hW] at hc; cases hc
  | callP Y Z m F G V W =>
   rw [hW] at h
   obtain ⟨s, hs, hk⟩ := h
   rcases aJ5 (E := E) (o := o) (σ := σ) with ⟨fn, as, ts, ho, hc⟩ | ⟨_, _, _, _, _, _, _, hc⟩ | hc
   ·rw [hW] at hc
    obtain ⟨fs, hfs, hcall⟩ := aW8 hc.symm
    have hF := hE.fp _ _ hfs
    obtain ⟨args, hr, qas⟩ := aLr M ho hF.ent
    rw [hr, Oper.upon_enter]
    refine (aQw hG M qas hF hcall hs).mono ?_
    intro e w' hh
    cases s with
    | inl y =>
     obtain ⟨v, rfl, ρ', pr', M', hs⟩ := hh
     exact hk v ρ' pr' w' (by rw [aE2 hn ha hd]; exact M') hs
    | inr z =>
     obtain ⟨v, rfl, ρ', pr', M', q⟩ := hh
     exact hk v ρ' pr' w' M' q
   ·rw [hW] at hc; cases hc
   ·rw [hW] at hc; cases hc
  | panic sv =>
   rw [hW] at h
   rcases aJ5 (E := E) (o := o) (σ := σ) with ⟨fn, as, ts, ho, hc⟩ | ⟨x, ty, z, ho, hx, h1, h2, hc⟩ | hc
   ·rw [hW] at hc
    exfalso
    have := bFe hc.symm
    exact this
   ·rw [hW] at hc
    cases hc
    have q := dZ M x
    rw [hx] at q
    rcases aHh h1 q.2 with ⟨h3, _⟩ | ⟨_, t, u, h3⟩
    ·rw [h2] at h3; cases h3
    ·have : (execOp a.eval o).run P w = .halt (.panic (a.eval x)) w := by
      unfold execOp
      simp only [ho, h3]
      rfl
     rw [this]
     exact h _ q
   ·rw [hW] at hc; cases hc
theorem aCy {ops : Array Oper} {go skip : St → Option R} {r : R} (M : Mo C σ ρ pr (fa g a) w) (hn : n ≤ 900000) (ha : a.tmps.size = n) (hd : ∀ i, o.dst = some i → i < n) (h : guarded ops o σ go skip = some r) :
  (Region.wanted o (yielded ops a.tmps) = true ∧ ∃ σ', go σ' = some r ∧ Mo C σ' ρ pr (fa g a) w ∧ σ'.hp = σ.hp) ∨
  (Region.wanted o (yielded ops a.tmps) = false ∧ ∃ σ', skip σ' = some r ∧ Mo C σ' ρ pr (fa g (a.put o.dst undef)) w) := by
 unfold guarded at h
 unfold Region.wanted
 split at h
 ·rename_i hg
  rw [hg]
  exact .inl ⟨rfl, σ, h, M, rfl⟩
 rename_i j want hg
 rw [hg]
 split at h
 ·rename_i gd hgd
  have q := dZ M (.tmp gd)
  have hy : yielded ops a.tmps j = match a.tmps[gd]? with | some (.bool b) => some b | _ => none := by
   unfold yielded; rw [hgd]; rfl
  have hev : a.eval (.tmp gd) = a.tmps.getD gd undef := rfl
  have skp : ∀ {σ1 : St}, Mo C σ1 ρ pr (fa g a) w → Mo C (σ1.setd o.dst (.tup .nil)) ρ pr (fa g (a.put o.dst undef)) w := fun M1 => by
   rw [aE2 hn ha hd]
   exact M1.setd o.dst (.tup .nil) undef ⟨[], rfl, rfl⟩
  split at h
  ·rename_i b he
   rw [he] at q
   have hb := oN q
   rw [hev, Array.getD_eq_getD_getElem?] at hb
   have hb' : a.tmps[gd]? = some (.bool b) := by
    cases hx : a.tmps[gd]? with
    | none => rw [hx] at hb; simp [undef] at hb
    | some u => rw [hx] at hb; simp at hb; rw [hb]
   rw [hb'] at hy
   simp only at hy ⊢
   rw [hy]
   have hset : Mo C (σ.set gd (.val .bool b)) ρ pr (fa g a) w := by
    have := M.set gd (.val .bool b) (fa g a gd) (by
     have hlt : gd < 900000 := by
      obtain ⟨hx, _⟩ := Array.getElem?_eq_some_iff.1 hb'
      exact Nat.lt_of_lt_of_le (by rw [ha] at hx; exact hx) hn
     refine ⟨rfl, ?_⟩
     simp only [fa, hlt, if_true, Array.getD_eq_getD_getElem?, hb']
     rfl)
    have e : (fun i => if i = gd then fa g a gd else fa g a i) = fa g a := by
     funext i; split
     ·rename_i e; rw [e]
     ·rfl
    rwa [e] at this
   cases b with
   | true =>
    simp only [cond_true] at h
    cases want with
    | true => exact .inl ⟨rfl, _, h, hset, rfl⟩
    | false => exact .inr ⟨rfl, _, h, skp hset⟩
   | false =>
    simp only [cond_false] at h
    cases want with
    | false => exact .inl ⟨rfl, _, h, hset, rfl⟩
    | true => exact .inr ⟨rfl, _, h, skp hset⟩
  ·rename_i he
   rw [he] at q
   obtain ⟨cs, hv, hcs⟩ := q
   have hcs : cs = [] := hcs
   subst hcs
   simp only [List.cons.injEq, and_true] at hv
   rw [hev, Array.getD_eq_getD_getElem?] at hv
   have hy' : yielded ops a.tmps j = none := by
    rw [hy]
    cases hx : a.tmps[gd]? with
    | none => rfl
    | some u => rw [hx] at hv; simp at hv; rw [hv]
   simp only [hy']
   exact .inr ⟨rfl, _, h, skp M⟩
  cases h
 cases h
theorem aNo {k : St → Option R} {kp : SV → St → Option R} {r : R} (h : step1 E o σ k kp = some r) :
  match opx E o σ with
  | .fail => False
  | .one ok σ' => ok = true ∧ k σ' = some r
  | .call _ m F _ => ∃ y, m = some y ∧ k (F y) = some r
  | .callP _ _ m F G V _ => ∃ s, m = some s ∧ match s with
   | .inl y => k (F y) = some r
   | .inr z => kp (V z) (G z) = some r
  | .panic v => kp v σ = some r := by
 unfold step1 at h
 cases hx : opx E o σ with
 | fail => rw [hx] at h; cases h
 | one ok σ' =>
  rw [hx] at h
  cases ok with
  | false => cases h
  | true => exact ⟨rfl, h⟩
 | call Y m F W =>
  rw [hx] at h
  simp only [OR.go, oG, Option.bind_eq_some_iff] at h
  exact h
 | callP Y Z m F G V W =>
  rw [hx] at h
  simp only [OR.go, oG, Option.bind_eq_some_iff] at h
  obtain ⟨s, h1, h2⟩ := h
  refine ⟨s, h1, ?_⟩
  cases s <;> exact h2
 | panic v => rw [hx] at h; exact h
theorem zT (hT : TTok P E.tt) (hE : zV P E) (hG : Gl P C) (hn : n ≤ 900000) {ops : Array Oper} {k : St → Option R} {kp : SV → St → Option R} {r : R} {Q : Exit → Act → World → Prop} :
  ∀ (l : List Oper) {σ : St} {ρ : Nat → Loc} {pr : dU} {a : Act} {w : World}, aLs E ops kp l σ k = some r → Mo C σ ρ pr (fa g a) w → a.tmps.size = n → (∀ o ∈ l, ∀ i, o.dst = some i → i < n) →
  (∀ a' w' σ' ρ' pr', k σ' = some r → Mo C σ' ρ' pr' (fa g a') w' → a'.tmps.size = n → a'.defers = a.defers → (∀ i, i ∉ dstsOf l → a'.tmps[i]? = a.tmps[i]?) → Q .normal a' w') →
  (∀ v u a' w' σ' ρ' pr', kp v σ' = some r → Mo C σ' ρ' pr' (fa g a') w' → Rp σ'.obj ρ' w' pr' v [u] → a'.tmps.size = n → a'.defers = a.defers → (∀ i, i ∉ dstsOf l → a'.tmps[i]? = a.tmps[i]?) → Q (.panic [{ v := u, recovered := false }]) a' w') →
  wpList P ops Q l a w
 | [], σ, ρ, pr, a, w, h, M, ha, _, hQ, _ => hQ a w σ ρ pr h M ha rfl (fun _ _ => rfl)
 | o :: l, σ, ρ, pr, a, w, h, M, ha, hl, hQ, hQp => by
  have hd := hl o (by simp)
  have hdst : ∀ i, i ∉ dstsOf (o :: l) → o.dst ≠ some i ∧ i ∉ dstsOf l := fun i hi => by
   unfold dstsOf at hi
   split at hi
   ·rename_i d hd'
    simp only [List.mem_cons, not_or] at hi
    exact ⟨fun e => hi.1 (by rw [hd'] at e; exact (Option.some.inj e).symm), hi.2⟩
   ·rename_i hd'
    exact ⟨by rw [hd']; simp, hi⟩
  have rest : ∀ {σ' : St} {ρ' : Nat → Loc} {pr' : dU} {w' : World} (v : Value), aLs E ops kp l σ' k = some r → Mo C σ' ρ' pr' (fa g (a.put o.dst v)) w' → wpList P ops Q l (a.put o.dst v) w' := fun v h' M' =>
   zT hT hE hG hn l h' M' ((mG _ _ _).trans ha) (fun o ho => hl o (List.mem_cons_of_mem _ ho)) (fun a' w' σ' ρ' pr' k1 k2 k3 k4 k5 =>
    hQ a' w' σ' ρ' pr' k1 k2 k3 (k4.trans (gX _ _ _)) (fun i hi => (k5 i (hdst i hi).2).trans (qF _ _ _ i (hdst i hi).1)))
    (fun v u a' w' σ' ρ' pr' k1 k2 k6 k3 k4 k5 => hQp v u a' w' σ' ρ' pr' k1 k2 k6 k3 (k4.trans (gX _ _ _)) (fun i hi => (k5 i (hdst i hi).2).trans (qF _ _ _ i (hdst i hi).1)))
  simp only [aLs] at h
  simp only [wpList]
  rcases aCy M hn ha hd h with ⟨hw, σ', hgo, M', _⟩ | ⟨hw, σ', hskip, M'⟩
  ·rw [hw, if_pos rfl]
   refine .inl (aZ5 hT hE hG M' hn ha hd ?_)
   have := aNo hgo
   cases hx : opx E o σ' with
   | fail => rw [hx] at this; exact this
   | one ok σ2 => rw [hx] at this; exact ⟨this.1, fun v ρ' pr' w' M2 _ => rest v this.2 M2⟩
   | call Y m F W => rw [hx] at this; obtain ⟨y, hy, hk⟩ := this; exact ⟨y, hy, fun v ρ' pr' w' M2 _ => rest v hk M2⟩
   | callP Y Z m F G V W =>
    rw [hx] at this
    obtain ⟨s, hs, hk⟩ := this
    refine ⟨s, hs, ?_⟩
    cases s with
    | inl y => exact fun v ρ' pr' w' M2 _ => rest v hk M2
    | inr z => exact fun v ρ' pr' w' M2 q => hQp _ v a w' _ ρ' pr' hk M2 q ha rfl (fun _ _ => rfl)
   | panic sv => rw [hx] at this; exact fun v q => hQp _ v a w _ ρ pr this M' q ha rfl (fun _ _ => rfl)
  rw [hw, if_neg (by simp)]
  exact rest undef hskip M'
end
end Ab
end
section
namespace Ab
open Go
section
variable {P : Program} {ops : Array Oper} {Q : Exit → Act → World → Prop} {S : World → Prop}
abbrev Hd := List (List Nat × (World → Prop))
def uO (ops : Array Oper) (j : Nat) (I : List Nat) : Bool := match ops[j]? with | some o => aDv o I | none => false
def oZ (ops : Array Oper) (j : Nat) (T : Hd) : Hd := T.filter fun t => !uO ops j t.1
def aLn (ops : Array Oper) (i : Nat) (T : Hd) : Hd := T.map fun t => (bif uO ops i t.1 then i :: t.1 else t.1, t.2)
def uN (P : Program) (ops : Array Oper) (Q : Exit → Act → World → Prop) : Nat → Array Bool → Hd → Act → World → Prop
 | 0, listed, _, a, w => Region.ready .any ops listed = [] ∧ Q .normal a w
 | fuel + 1, listed, T, a, w =>
  (Region.ready .any ops listed = [] → Q .normal a w) ∧
  ∀ j ∈ Region.ready .any ops listed, wpOp P ops Q j (fun a' w' => (∀ t ∈ oZ ops j T, t.2 w') ∧ uN P ops Q fuel (listed.setIfInBounds j true) (oZ ops j T) a' w') a w
theorem aM7 : ∀ (fuel : Nat) (listed : Array Bool) (T : Hd) (a : Act) (w : World), uN P ops Q fuel listed T a w → wpAny P .any ops Q fuel listed a w
 | 0, _, _, _, _, h => h
 | fuel + 1, _, _, _, _, h => ⟨h.1, fun i hi => wpOp_mono (fun a' w' h' => aM7 fuel _ _ a' w' h'.2) (h.2 i hi)⟩
theorem aRt {j : Nat} {T T' : Hd} (h : ∀ t ∈ T', t ∈ T) : ∀ t ∈ oZ ops j T', t ∈ oZ ops j T := fun t ht => by
 unfold oZ at *
 rw [List.mem_filter] at *
 exact ⟨h t ht.1, ht.2⟩
theorem aKv : ∀ (fuel : Nat) (listed : Array Bool) (T T' : Hd) (a : Act) (w : World), (∀ t ∈ T', t ∈ T) → uN P ops Q fuel listed T a w → uN P ops Q fuel listed T' a w
 | 0, _, _, _, _, _, _, h => h
 | fuel + 1, _, _, _, _, _, hs, h => ⟨h.1, fun j hj => wpOp_mono (fun a' w' h' => ⟨fun t ht => h'.1 t (aRt hs t ht), aKv fuel _ _ _ a' w' (aRt hs) h'.2⟩) (h.2 j hj)⟩
theorem aDs {i : Nat} : ∀ (fuel : Nat) (listed : Array Bool) (T : Hd) (a : Act) (w : World), uN P ops Q fuel listed T a w → uN P ops Q fuel listed (([i], fun _ => True) :: T) a w
 | 0, _, _, _, _, h => h
 | fuel + 1, listed, T, a, w, h => ⟨h.1, fun j hj => wpOp_mono (fun a' w' h' => by
   unfold oZ at *
   rw [List.filter_cons]
   split
   ·refine ⟨fun t ht => ?_, aDs fuel _ _ a' w' h'.2⟩
    rcases List.mem_cons.1 ht with rfl | ht
    ·trivial
    exact h'.1 t ht
   exact h') (h.2 j hj)⟩
theorem aBi {i : Nat} {oi : Oper} {v : Value} (hi : ops[i]? = some oi) (hsel : ∀ (j : Nat) (o : Oper) cs b, ops[j]? = some o → o.op ≠ .select cs b)
  (hQ : ∀ c a w, Q (.panic c) (a.put oi.dst v) w → Q (.panic c) a w) :
  ∀ (fuel : Nat) (listed : Array Bool) (T : Hd) (a : Act) (w : World),
   (∀ j oj, ops[j]? = some oj → j ≠ i → listed.getD j true = false → aDu oj i = false → oi.apart ops oj = true) →
   i ∈ Region.ready .any ops listed → YieldsIf P ops S oi v a → S w → (∀ t ∈ T, t.2 w) →
   uN P ops Q fuel (listed.setIfInBounds i true) (([i], S) :: aLn ops i T) (a.put oi.dst v) w → uN P ops Q (fuel + 1) listed T a w := by
 intro fuel
 have now : ∀ (fuel : Nat) (listed : Array Bool) (T : Hd) (a : Act) (w : World), YieldsIf P ops S oi v a → S w → (∀ t ∈ T, t.2 w) →
   uN P ops Q fuel (listed.setIfInBounds i true) (([i], S) :: aLn ops i T) (a.put oi.dst v) w →
   wpOp P ops Q i (fun a' w' => (∀ t ∈ oZ ops i T, t.2 w') ∧ uN P ops Q fuel (listed.setIfInBounds i true) (oZ ops i T) a' w') a w := fun fuel listed T a w hy hS hT H =>
  hy.wpOp hi hS ⟨fun t ht => hT t (List.mem_filter.1 ht).1, aKv fuel _ _ _ _ _ (fun t ht => List.mem_cons_of_mem _ (by
   unfold oZ at ht
   rw [List.mem_filter] at ht
   refine List.mem_map.2 ⟨t, ht.1, ?_⟩
   have : uO ops i t.1 = false := by simpa using ht.2
   rw [this]; rfl)) H⟩
 induction fuel with
 | zero =>
  intro listed T a w _ hr hy hS hT H
  refine ⟨fun h => (by rw [h] at hr; cases hr), fun j hj => ?_⟩
  by_cases hji : j = i
  ·subst hji; exact now _ _ _ _ _ hy hS hT H
  ·have := ready_mono hj hji
   rw [H.1] at this
   cases this
 | succ fuel ih =>
  intro listed T a w hfree hr hy hS hT H
  refine ⟨fun h => (by rw [h] at hr; cases hr), fun j hj => ?_⟩
  by_cases hji : j = i
  ·subst hji; exact now _ _ _ _ _ hy hS hT H
  ·have h1 := H.2 j (ready_mono hj hji)
   obtain ⟨hjun, oj, hoj, hall⟩ := mem_ready.1 hj
   have hnot : aDu oj i = false := by
    cases hw : aDu oj i with
    | false => rfl
    | true =>
     unfold aDu at hw
     obtain ⟨e, he, hb⟩ := List.any_eq_true.1 hw
     simp only [Bool.and_eq_true] at hb
     have heq := Nat.eq_of_beq_eq_true hb.1
     have h1 := hall e (by simpa using he) hb.2
     have h0 := (mem_ready.1 hr).1
     rw [heq] at h1
     rcases Nat.lt_or_ge i listed.size with h' | h'
     ·simp [h'] at h0 h1; rw [h0] at h1; cases h1
     ·simp [Array.getElem?_eq_none h'] at h1
   have hwj : uO ops j [i] = false := by unfold uO; rw [hoj]; simp [aDv, hnot]
   have hcons : ∀ I : List Nat, uO ops j (i :: I) = uO ops j I := fun I => by unfold uO; rw [hoj]; simp [aDv, hnot]
   have hjoin : ∀ T : Hd, oZ ops j (aLn ops i T) = aLn ops i (oZ ops j T) := fun T => by
    unfold oZ aLn
    rw [List.filter_map]
    congr 1
    refine List.filter_congr (fun t _ => ?_)
    simp only [Function.comp]
    cases uO ops i t.1
    ·rfl
    ·simp only [cond_true, hcons]
   have hheld : oZ ops j (([i], S) :: aLn ops i T) = ([i], S) :: aLn ops i (oZ ops j T) := by
    rw [← hjoin]
    unfold oZ
    rw [List.filter_cons, if_pos (by simp [hwj])]
   rw [hheld] at h1
   have h2 := wpOp_putIf hoj (hfree j oj hoj hji hjun hnot) (fun cs b => hsel i oi cs b hi) (fun cs b => hsel j oj cs b hoj) hQ hy h1
   have hfree' : ∀ k ok, ops[k]? = some ok → k ≠ i → (listed.setIfInBounds j true).getD k true = false → aDu ok i = false → oi.apart ops ok = true := fun k ok hk hki hun hno => by
    refine hfree k ok hk hki ?_ hno
    by_cases hjk : j = k
    ·subst hjk; exact hjun
    ·rw [getD_set_ne true hjk] at hun; exact hun
   refine wpOp_mono (fun a' w' h3 => ?_) h2
   obtain ⟨hy', hT', H'⟩ := h3
   have hS' : S w' := hT' ([i], S) (by simp)
   have hT'' : ∀ t ∈ oZ ops j T, t.2 w' := fun t ht => hT' (bif uO ops i t.1 then i :: t.1 else t.1, t.2) (List.mem_cons_of_mem _ (List.mem_map.2 ⟨t, ht, rfl⟩))
   exact ⟨hT'', ih (listed.setIfInBounds j true) _ a' w' hfree' (ready_mono hr (Ne.symm hji)) hy' hS' hT'' (by rw [Array.setIfInBounds_comm _ _ hji]; exact H')⟩
end
section
variable {ops : Array Oper}
theorem wT : ∀ l : List Operand, looks.tmpsOf' l = l.filterMap fun | .tmp t => some t | _ => none
 | [] => rfl
 | .tmp t :: l => by simp [looks.tmpsOf', wT l]
 | .const _ :: l => by simp [looks.tmpsOf', wT l]
 | .global _ :: l => by simp [looks.tmpsOf', wT l]
 | .func _ :: l => by simp [looks.tmpsOf', wT l]
theorem aWm (o : Oper) : looks ops o = o.looksAt ops := by
 unfold looks Oper.looksAt
 rw [wT]
 cases o.guard with
 | none => rfl
 | some p =>
  obtain ⟨j, b⟩ := p
  simp only
  cases (ops[j]?).bind (·.dst) <;> rfl
theorem aXc {x y : Oper} (h : aZ0 ops x y = true) : x.apart ops y = true := by
 unfold aZ0 at h
 unfold Oper.apart
 rw [aWm, aWm] at h
 have key : ∀ d l, (!jI d l) = true → (!List.contains l d) = true := fun d l h => by
  have := eY.1 (by simpa using h : jI d l = false)
  simpa using this
 simp only [Bool.and_eq_true] at h ⊢
 obtain ⟨h1, h2⟩ := h
 constructor
 ·cases hx : x.dst with
  | none => rfl
  | some d =>
   rw [hx] at h1
   simp only [Bool.and_eq_true] at h1 ⊢
   refine ⟨key d _ h1.1, ?_⟩
   cases hy : y.dst with
   | none => rfl
   | some e =>
    have h3 := h1.2
    rw [hy] at h3
    simp only [Bool.not_eq_true'] at h3
    have : e ≠ d := fun e' => by subst e'; simp at h3
    simpa using this
 cases hy : y.dst with
 | none => rfl
 | some d =>
  rw [hy] at h2
  exact key d _ h2
structure Lst (ops : Array Oper) (un : List (Nat × Oper)) (listed : Array Bool) : Prop where
 size : listed.size = ops.size
 un1 : ∀ j o, (j, o) ∈ un → ops[j]? = some o ∧ listed.getD j true = false
 un2 : ∀ j, listed.getD j true = false → ∃ o, (j, o) ∈ un
theorem aOz {i : Nat} : ∀ {un : List (Nat × Oper)}, bB1 i un = true ↔ ∃ o, (i, o) ∈ un
 | [] => by simp [bB1]
 | p :: l => by
  obtain ⟨j, o⟩ := p
  simp only [bB1, Bool.or_eq_true, aOz (un := l), List.mem_cons, Prod.mk.injEq]
  constructor
  ·rintro (h | ⟨o', h⟩)
   ·exact ⟨o, .inl ⟨(Nat.eq_of_beq_eq_true h).symm, rfl⟩⟩
   exact ⟨o', .inr h⟩
  rintro ⟨o', ⟨rfl, rfl⟩ | h⟩
  ·left; simp
  exact .inr ⟨o', h⟩
theorem aI0 {listed : Array Bool} {i : Nat} (hi : i < listed.size) : listed.getD i false = true ↔ ¬ listed.getD i true = false := by
 simp [hi]
theorem Lst.ready {un : List (Nat × Oper)} {listed : Array Bool} (L : Lst ops un listed) {j : Nat} {o : Oper} (hm : (j, o) ∈ un) : j ∈ Region.ready .any ops listed ↔ aG7 ops.size un o = true := by
 obtain ⟨h1, h2⟩ := L.un1 j o hm
 rw [mem_ready]
 unfold aG7
 rw [List.all_eq_true]
 constructor
 ·rintro ⟨_, o', ho', hall⟩ e he
  rw [h1] at ho'; cases ho'
  cases hb : aMq e with
  | false => rfl
  | true =>
   have h3 := hall e (by simpa using he) hb
   have hlt : e.on < listed.size := by
    rcases Nat.lt_or_ge e.on listed.size with h | h
    ·exact h
    ·simp [Array.getElem?_eq_none h] at h3
   simp only [Bool.not_true, Bool.false_or, Bool.and_eq_true, Bool.not_eq_true']
   refine ⟨Nat.ble_eq_true_of_le (by rw [← L.size]; exact hlt), ?_⟩
   cases hu : bB1 e.on un with
   | false => rfl
   | true =>
    obtain ⟨o2, hu⟩ := aOz.1 hu
    exact absurd (L.un1 _ _ hu).2 ((aI0 hlt).1 h3)
 intro hall
 refine ⟨h2, o, h1, fun e he hb => ?_⟩
 have h3 := hall e (by simpa using he)
 have hb' : aMq e = true := hb
 rw [hb'] at h3
 simp only [Bool.not_true, Bool.false_or, Bool.and_eq_true, Bool.not_eq_true'] at h3
 have hlt : e.on < listed.size := by rw [L.size]; exact Nat.le_of_ble_eq_true h3.1
 refine (aI0 hlt).2 fun hf => ?_
 obtain ⟨o2, hu⟩ := L.un2 _ hf
 rw [aOz.2 ⟨o2, hu⟩] at h3
 cases h3.2
theorem aHd {i : Nat} : ∀ {un : List (Nat × Oper)}, (un.map (·.1)).Nodup → ∀ {j : Nat} {o : Oper}, (j, o) ∈ lM i un ↔ (j, o) ∈ un ∧ j ≠ i
 | [], _, j, o => by simp [lM]
 | p :: l, hn, j, o => by
  obtain ⟨a, b⟩ := p
  simp only [List.map_cons, List.nodup_cons] at hn
  unfold lM
  cases h : Nat.beq a i with
  | true =>
   have e := Nat.eq_of_beq_eq_true h
   subst e
   simp only [h, cond_true, List.mem_cons, Prod.mk.injEq]
   constructor
   ·intro hm
    exact ⟨.inr hm, fun e => by subst e; exact hn.1 (List.mem_map.2 ⟨_, hm, rfl⟩)⟩
   ·rintro ⟨⟨rfl, _⟩ | hm, hne⟩
    ·exact absurd rfl hne
    ·exact hm
  | false =>
   have hne : a ≠ i := fun e => by subst e; simp at h
   simp only [h, cond_false, List.mem_cons, Prod.mk.injEq, aHd hn.2]
   constructor
   ·rintro (⟨rfl, rfl⟩ | ⟨hm, hj⟩)
    ·exact ⟨.inl ⟨rfl, rfl⟩, hne⟩
    ·exact ⟨.inr hm, hj⟩
   ·rintro ⟨⟨rfl, rfl⟩ | hm, hj⟩
    ·exact .inl ⟨rfl, rfl⟩
    ·exact .inr ⟨hm, hj⟩
theorem eraseN_sub {i : Nat} : ∀ {un : List (Nat × Oper)}, List.Sublist (lM i un) un
 | [] => List.Sublist.slnil
 | p :: l => by
  unfold lM
  cases h : Nat.beq p.1 i with
  | true => simp only [cond_true]; exact List.sublist_cons_self _ _
  | false => simp only [cond_false]; exact (eraseN_sub (un := l)).cons_cons _
theorem Lst.erase {un : List (Nat × Oper)} {listed : Array Bool} (L : Lst ops un listed) (hn : (un.map (·.1)).Nodup) {i : Nat} {oi : Oper} (hi : (i, oi) ∈ un) : Lst ops (lM i un) (listed.setIfInBounds i true) where
 size := by rw [Array.size_setIfInBounds]; exact L.size
 un1 := fun j o hm => by
  obtain ⟨h1, h2⟩ := (aHd hn).1 hm
  obtain ⟨h3, h4⟩ := L.un1 j o h1
  exact ⟨h3, by rw [getD_set_ne true (fun e => h2 e.symm)]; exact h4⟩
 un2 := fun j hj => by
  by_cases e : i = j
  ·subst e
   exfalso
   have hlt : i < listed.size := by
    have h0 := (L.un1 i oi hi).2
    rcases Nat.lt_or_ge i listed.size with h | h
    ·exact h
    ·simp [Array.getElem?_eq_none h] at h0
   rw [Array.getD_eq_getD_getElem?, Array.getElem?_setIfInBounds_self_of_lt hlt] at hj
   cases hj
  ·rw [getD_set_ne true e] at hj
   obtain ⟨o, ho⟩ := L.un2 j hj
   exact ⟨o, (aHd hn).2 ⟨ho, fun h => e h.symm⟩⟩
theorem aCs : ∀ (l : List Oper) (k j : Nat) (o : Oper), (j, o) ∈ numbered k l ↔ k ≤ j ∧ l[j - k]? = some o
 | [], k, j, o => by simp [numbered]
 | x :: l, k, j, o => by
  simp only [numbered, List.mem_cons, Prod.mk.injEq, aCs l (k + 1) j o]
  constructor
  ·rintro (⟨rfl, rfl⟩ | ⟨h1, h2⟩)
   ·exact ⟨Nat.le_refl _, by simp⟩
   refine ⟨by omega, ?_⟩
   rw [show j - k = (j - (k + 1)) + 1 by omega, List.getElem?_cons_succ]; exact h2
  rintro ⟨h1, h2⟩
  by_cases e : j = k
  ·subst e; simp at h2; exact .inl ⟨rfl, h2.symm⟩
  rw [show j - k = (j - (k + 1)) + 1 by omega, List.getElem?_cons_succ] at h2
  exact .inr ⟨by omega, h2⟩
theorem aLj : ∀ (l : List Oper) (k j : Nat), j ∈ (numbered k l).map (·.1) → k ≤ j
 | [], k, j, h => by simp [numbered] at h
 | x :: l, k, j, h => by
  simp only [numbered, List.map_cons, List.mem_cons] at h
  rcases h with rfl | h
  ·exact Nat.le_refl _
  have := aLj l (k + 1) j h; omega
theorem aEw : ∀ (l : List Oper) (k : Nat), ((numbered k l).map (·.1)).Nodup
 | [], _ => List.nodup_nil
 | x :: l, k => by
  simp only [numbered, List.map_cons, List.nodup_cons]
  exact ⟨fun h => by have := aLj l (k + 1) k h; omega, aEw l (k + 1)⟩
theorem Lst.start : Lst ops (numbered 0 ops.toList) (Array.replicate ops.size false) where
 size := by simp
 un1 := fun j o hm => by
  obtain ⟨_, h⟩ := (aCs _ _ _ _).1 hm
  have h' : ops[j]? = some o := by simpa using h
  have hlt : j < ops.size := (Array.getElem?_eq_some_iff.1 h').1
  exact ⟨h', by simp [hlt]⟩
 un2 := fun j hj => by
  have hlt : j < ops.size := by
   rcases Nat.lt_or_ge j ops.size with h | h
   ·exact h
   ·simp [h] at hj
  exact ⟨ops[j], (aCs _ _ _ _).2 ⟨Nat.zero_le _, by simp [hlt]⟩⟩
theorem aOs : ∀ {l : List Oper}, aRk l = true → ∀ o ∈ l, ∀ cs b, o.op ≠ .select cs b
 | [], _, o, ho, _, _ => by cases ho
 | x :: l, h, o, ho, cs, b => by
  unfold aRk at h
  rcases List.mem_cons.1 ho with rfl | ho
  ·intro e; rw [e] at h; cases h
  split at h
  ·cases h
  exact aOs h o ho cs b
theorem aSe {α R : Type} {g : α → Option R} {r : R} : ∀ {l : List α}, bFi g l = some r → l ≠ [] ∧ ∀ x ∈ l, g x = some r
 | [], h => by cases h
 | [x], h => ⟨by simp, fun y hy => by simp at hy; subst hy; exact h⟩
 | x :: y :: l, h => by
  have h' : both (g x) (bFi g (y :: l)) = some r := h
  rw [aMo] at h'
  split at h'
  ·rename_i e
   have h2 := aSe (l := y :: l) (e ▸ h')
   refine ⟨by simp, fun z hz => ?_⟩
   rcases List.mem_cons.1 hz with rfl | hz
   ·exact h'
   exact h2.2 z hz
  cases h'
theorem aNy {E : Env} {lt : List Nat} {N : Nat} {σ : St} {un : List (Nat × Oper)} : ∀ {l : List (Nat × Oper)} {p : Nat × Oper}, aVu E lt N σ un l = some p → p ∈ l ∧ bEt E σ p.2 = true ∧ aG7 N un p.2 = true
 | [], p, h => by cases h
 | q :: l, p, h => by
  unfold aVu at h
  cases hb : (bEt E σ q.2 && aG7 N un q.2 && !jI q.1 lt) with
  | true => rw [hb] at h; cases h; simp only [Bool.and_eq_true] at hb; exact ⟨by simp, hb.1⟩
  | false => rw [hb] at h; obtain ⟨h1, h2⟩ := aNy h; exact ⟨List.mem_cons_of_mem _ h1, h2⟩
end
end Ab
end
section
namespace Ab
open Go
section
variable {P : Program} {E : Env} {C : Cx} {σ : St} {ρ : Nat → Loc} {pr : dU} {f : Nat → Value} {w : World} {a : Act} {o : Oper} {g : Nat → Value} {n : Nat} {R : Type} {ops : Array Oper}
def TR (T : List (List Nat × Nat)) (TP : Hd) (a : Act) (w : World) : Prop :=
 ∀ t ∈ TP, ∃ p ∈ T, p.1 = t.1 ∧ ∃ (ad : Addr) (c : Option Go.Obj), a.eval (.tmp p.2) = .pointer (some ad) ∧ t.2 = (fun u : World => u.heap[ad.block]? = c) ∧ w.heap[ad.block]? = c
theorem TR.holds {T : List (List Nat × Nat)} {TP : Hd} (h : TR T TP a w) : ∀ t ∈ TP, t.2 w := fun t ht => by
 obtain ⟨p, _, _, ad, c, _, h1, h2⟩ := h t ht
 rw [h1]; exact h2
theorem TR.put {T : List (List Nat × Nat)} {TP : Hd} (h : TR T TP a w) (hd : uX o T = true) (v : Value) : TR T TP (a.put o.dst v) w := fun t ht => by
 obtain ⟨p, hp, h0, ad, c, h1, h2⟩ := h t ht
 refine ⟨p, hp, h0, ad, c, ?_, h2⟩
 rw [← h1]
 refine Act.eval_put fun d hdd e => ?_
 unfold uX at hd
 rw [hdd] at hd
 have := List.all_eq_true.1 hd p hp
 cases e
 simp at this
theorem TR.held {T : List (List Nat × Nat)} {TP : Hd} (h : TR T TP a w) {j : Nat} (ho : ops[j]? = some o) : TR (aJa o T) (oZ ops j TP) a w := fun t ht => by
 unfold oZ at ht
 rw [List.mem_filter] at ht
 obtain ⟨p, hp, h0, rest⟩ := h t ht.1
 refine ⟨p, List.mem_filter.2 ⟨hp, ?_⟩, h0, rest⟩
 have := ht.2
 unfold uO at this
 rw [ho] at this
 rw [h0]; exact this
theorem TR.join {T : List (List Nat × Nat)} {TP : Hd} (h : TR T TP a w) {j : Nat} (ho : ops[j]? = some o) : TR (aLm j o T) (aLn ops j TP) a w := fun t ht => by
 obtain ⟨t', ht', rfl⟩ := List.mem_map.1 ht
 obtain ⟨p, hp, h0, rest⟩ := h t' ht'
 refine ⟨_, List.mem_map.2 ⟨p, hp, rfl⟩, ?_, rest⟩
 unfold uO
 rw [ho, h0]
theorem aHl {T : List (List Nat × Nat)} {j : Nat} {o2 : Oper} (h : uX o T = true) : uX o (aLm j o2 T) = true := by
 unfold uX at *
 split
 ·rename_i d hd
  rw [hd] at h
  rw [List.all_eq_true] at *
  intro p hp
  obtain ⟨q, hq, rfl⟩ := List.mem_map.1 hp
  exact h q hq
 rfl
theorem aZs (M : Mo C σ ρ pr (fa g a) w) {W : List Nat} {T : List (List Nat × Nat)} (h : xU σ W T = true) {p : List Nat × Nat} (hp : p ∈ T) {ad : Addr} (ha : a.eval (.tmp p.2) = .pointer (some ad)) {w' : World} (hs : Same σ ρ w w' W) :
  w'.heap[ad.block]? = w.heap[ad.block]? := by
 have h1 := List.all_eq_true.1 h p hp
 have q := dZ M (.tmp p.2)
 rw [ha] at q
 split at h1
 ·rename_i k off he
  rw [he] at q
  obtain ⟨⟨cs, hob⟩, hv⟩ := q
  simp only [List.cons.injEq, and_true, Value.pointer.injEq, Option.some.injEq] at hv
  have hown : own σ.obj ρ k = some (ρ k).blk := by simp [own, hob]
  rw [hv]
  refine hs _ (M.own_lt hown) fun k' hk' e => ?_
  have := M.inj k k' _ hown e
  subst this
  simp only [Bool.not_eq_true'] at h1
  exact eY.1 h1 hk'
 ·rename_i k i off he
  rw [he] at q
  simp only [Bool.and_eq_true, Bool.not_eq_true'] at h1
  obtain ⟨_, v, hv, hx⟩ := q
  have h2 := h1.2
  split at h2
  ·rename_i e r xs hob
   obtain ⟨i0, i1, hy⟩ := hx _ _ _ hob
   simp only [List.cons.injEq, and_true] at hv
   rw [← hv] at hy
   simp only [Value.pointer.injEq, Option.some.injEq] at hy
   obtain ⟨_, hB, cells, c1, _⟩ := M.hp k _ hob
   rcases c1.2 with ⟨_, hn0⟩ | ⟨g0, cap, cur, hh, _⟩
   ·omega
   have hb := hB g0 (by rw [hh]; rfl)
   have hown : own σ.obj ρ k = some (ρ k).blk := by simp [own, hob, hh, Value.ownBlock, hb]
   rw [hy]
   refine hs _ (M.own_lt hown) fun k' hk' e => ?_
   have := M.inj k k' _ hown e
   subst this
   exact eY.1 h1.1 hk'
  cases h2
 ·rename_i k m he
  rw [he] at q
  simp only [Bool.and_eq_true, Bool.not_eq_true'] at h1
  obtain ⟨_, hh, hv⟩ := q
  simp only [List.cons.injEq, and_true, Value.pointer.injEq, Option.some.injEq] at hv
  have h2 := h1.2
  split at h2
  ·rename_i e r xs hob
   have hown : own σ.obj ρ k = some (ρ k).blk := by simp [own, hob, hh, Value.ownBlock]
   rw [hv]
   refine hs _ (M.own_lt hown) fun k' hk' e => ?_
   have := M.inj k k' _ hown e
   subst this
   exact eY.1 h1.1 hk'
  cases h2
 ·rename_i k o' m' n' i' off' he
  rw [he] at q
  obtain ⟨⟨cs, hob⟩, _, _, hv⟩ := q
  simp only [List.cons.injEq, and_true, Value.pointer.injEq, Option.some.injEq] at hv
  have hown : own σ.obj ρ k = some (ρ k).blk := by simp [own, hob]
  rw [hv]
  refine hs _ (M.own_lt hown) fun k' hk' e => ?_
  have := M.inj k k' _ hown e
  subst this
  simp only [Bool.not_eq_true'] at h1
  exact eY.1 h1 hk'
 ·rename_i t x he
  rw [he] at q
  obtain ⟨b, ofs, cs, hv, hb, _⟩ := q
  simp only [List.cons.injEq, and_true, Value.pointer.injEq, Option.some.injEq] at hv
  obtain ⟨r, hr⟩ := Option.isSome_iff_exists.1 hb
  rw [hv]
  exact hs b (M.prot b r hr).1 (fun k' _ => (M.prot b r hr).2 k')
 ·rename_i t m x he
  rw [he] at q
  obtain ⟨b, ofs, cs, hv, hb, _⟩ := q
  simp only [List.cons.injEq, and_true, Value.pointer.injEq, Option.some.injEq] at hv
  obtain ⟨r, hr⟩ := Option.isSome_iff_exists.1 hb
  rw [hv]
  exact hs b (M.prot b r hr).1 (fun k' _ => (M.prot b r hr).2 k')
 cases h1
theorem TR.after {T : List (List Nat × Nat)} {TP : Hd} (h : TR T TP a w) (M : Mo C σ ρ pr (fa g a) w) {W : List Nat} (hh : xU σ W T = true) (hd : uX o T = true) {w' : World} (hs : Same σ ρ w w' W) (v : Value) : TR T TP (a.put o.dst v) w' := by
 refine TR.put (fun t ht => ?_) hd v
 obtain ⟨p, hp, h0, ad, c, h1, h2, h3⟩ := h t ht
 exact ⟨p, hp, h0, ad, c, h1, h2, by rw [aZs M hh hp h1 hs]; exact h3⟩
theorem xQ : ∀ {l : List Oper} {o : Oper} {d : Nat}, o ∈ l → o.dst = some d → d ∈ dstsOf l
 | [], _, _, h, _ => by cases h
 | x :: l, o, d, h, hd => by
  unfold dstsOf
  rcases List.mem_cons.1 h with rfl | h
  ·rw [hd]; simp
  split
  ·exact List.mem_cons_of_mem _ (xQ h hd)
  exact xQ h hd
theorem aQu {s : Nat} (h : aIz o = some s) : ∃ t, o.op = .load t (.tmp s) := by
 unfold aIz at h
 split at h
 ·rename_i t s' ho; cases h; exact ⟨t, ho⟩
 cases h
theorem aX0 {T : List (List Nat × Nat)} {k : St → Option R} {kp : SV → St → Option R} {r : R} (h : stepW E o T σ k kp = some r) :
  match opx E o σ with
  | .fail => False
  | .one ok σ' => xU σ (wr o σ) T = true ∧ ok = true ∧ k σ' = some r
  | .call _ m F W => xU σ W T = true ∧ ∃ y, m = some y ∧ k (F y) = some r
  | .callP _ _ m F G V W => xU σ W T = true ∧ ∃ s, m = some s ∧ match s with
   | .inl y => k (F y) = some r
   | .inr z => kp (V z) (G z) = some r
  | .panic v => kp v σ = some r := by
 unfold stepW at h
 cases hx : opx E o σ with
 | fail => rw [hx] at h; cases h
 | one ok σ' =>
  rw [hx] at h
  simp only [OR.goW] at h
  cases hh : xU σ (wr o σ) T <;> rw [hh] at h
  ·cases h
  ·cases ok with
   | false => cases h
   | true => exact ⟨rfl, rfl, h⟩
 | call Y m F W =>
  rw [hx] at h
  simp only [OR.goW] at h
  cases hh : xU σ W T <;> rw [hh] at h
  ·cases h
  ·simp only [cond_true, oG, Option.bind_eq_some_iff] at h
   exact ⟨hh, h⟩
 | callP Y Z m F G V W =>
  rw [hx] at h
  simp only [OR.goW] at h
  cases hh : xU σ W T <;> rw [hh] at h
  ·cases h
  ·simp only [cond_true, oG, Option.bind_eq_some_iff] at h
   obtain ⟨s, h1, h2⟩ := h
   refine ⟨hh, s, h1, ?_⟩
   cases s <;> exact h2
 | panic v => rw [hx] at h; exact h
theorem aUg {lt : List Nat} (hT : TTok P E.tt) (hE : zV P E) (hG : Gl P C) (hn : n ≤ 900000) {k : St → Option R} {kp : SV → St → Option R} {r : R} {Q : Exit → Act → World → Prop} {a0 : Act} {df : List Deferred}
  (hsel : aRk ops.toList = true) (hds : ∀ o ∈ ops.toList, ∀ i, o.dst = some i → i < n) (hQi : ∀ c a w o v, o ∈ ops.toList → Q (.panic c) (a.put o.dst v) w → Q (.panic c) a w)
  (hQ : ∀ a' w' σ' ρ' pr', k σ' = some r → Mo C σ' ρ' pr' (fa g a') w' → a'.tmps.size = n → a'.defers = df → (∀ i, i ∉ dstsOf ops.toList → a'.tmps[i]? = a0.tmps[i]?) → Q .normal a' w')
  (hQp : ∀ v u a' w' σ' ρ' pr', kp v σ' = some r → Mo C σ' ρ' pr' (fa g a') w' → Rp σ'.obj ρ' w' pr' v [u] → a'.tmps.size = n → a'.defers = df → (∀ i, i ∉ dstsOf ops.toList → a'.tmps[i]? = a0.tmps[i]?) → Q (.panic [{ v := u, recovered := false }]) a' w') :
  ∀ (f : Nat) {un : List (Nat × Oper)} {T : List (List Nat × Nat)} {σ : St} {ρ : Nat → Loc} {pr : dU} {a : Act} {w : World} {listed : Array Bool} {TP : Hd},
   rA E lt ops ops.size kp f un T σ k = some r → Mo C σ ρ pr (fa g a) w → a.tmps.size = n → a.defers = df → (∀ i, i ∉ dstsOf ops.toList → a.tmps[i]? = a0.tmps[i]?) →
   Lst ops un listed → (un.map (·.1)).Nodup → TR T TP a w → uN P ops Q f listed TP a w := by
 have hselA : ∀ (j : Nat) (o : Oper) cs b, ops[j]? = some o → o.op ≠ .select cs b := fun j o cs b hj => aOs hsel o (by
  rw [← Array.getElem?_toList] at hj; exact List.mem_of_getElem? hj) cs b
 have hmemA : ∀ {j : Nat} {o : Oper}, ops[j]? = some o → o ∈ ops.toList := fun hj => by rw [← Array.getElem?_toList] at hj; exact List.mem_of_getElem? hj
 intro f
 induction f with
 | zero =>
  intro un T σ ρ pr a w listed TP h M ha hdf hoth L hnd hTR
  cases un with
  | cons p un => cases h
  | nil =>
   refine ⟨?_, hQ a w σ ρ pr h M ha hdf hoth⟩
   apply List.eq_nil_iff_forall_not_mem.2
   intro j hj
   obtain ⟨o, ho⟩ := L.un2 j (mem_ready.1 hj).1
   cases ho
 | succ f ih =>
  intro un T σ ρ pr a w listed TP h M ha hdf hoth L hnd hTR
  cases un with
  | nil =>
   refine ⟨fun _ => hQ a w σ ρ pr h M ha hdf hoth, fun j hj => ?_⟩
   obtain ⟨o, ho⟩ := L.un2 j (mem_ready.1 hj).1
   cases ho
  | cons p un =>
   generalize hun : p :: un = U at *
   have hx : rA E lt ops ops.size kp (f + 1) U T σ k = match aVu E lt ops.size σ U U with
    | some (i, o) => bif bE3 ops i o U && uX o T then
      guarded ops o σ (fun σ' => match aIz o with
       | some s => bif Nat.blt s 900000 && uX o [([i], s)] then step1 E o σ' (fun σ'' => rA E lt ops ops.size kp f (lM i U) (([i], s) :: aLm i o T) σ'' k) (fun _ _ => none) else none
       | none => match opR E o σ' with
        | some q => bif q.1 then rA E lt ops ops.size kp f (lM i U) (aLm i o T) q.2 k else none
        | none => none)
       (fun σ' => rA E lt ops ops.size kp f (lM i U) (aLm i o T) σ' k)
     else none
    | none => bFi (fun q => bif uX q.2 (aJa q.2 T) then
       guarded ops q.2 σ (fun σ' => stepW E q.2 (aJa q.2 T) σ' (fun σ'' => rA E lt ops ops.size kp f (lM q.1 U) (aJa q.2 T) σ'' k) kp)
        (fun σ' => rA E lt ops ops.size kp f (lM q.1 U) (aJa q.2 T) σ' k)
      else none) (U.filter fun q => aG7 ops.size U q.2) := by subst hun; rfl
   rw [hx] at h
   clear hx
   have othPut : ∀ {j : Nat} {o : Oper} (v : Value), ops[j]? = some o → ∀ i, i ∉ dstsOf ops.toList → (a.put o.dst v).tmps[i]? = a0.tmps[i]? := fun {j o} v hj i hi =>
    (qF _ _ _ i (fun e => hi (xQ (hmemA hj) e))).trans (hoth i hi)
   split at h
   ·rename_i i o hpick
    obtain ⟨hm, hkind, hready⟩ := aNy hpick
    obtain ⟨hoi, hli⟩ := L.un1 i o hm
    have hri := (L.ready hm).2 hready
    have hdo := hds o (hmemA hoi)
    cases hc : (bE3 ops i o U && uX o T) with
    | false => rw [hc] at h; cases h
    | true =>
    rw [hc] at h
    simp only [cond_true] at h
    simp only [Bool.and_eq_true] at hc
    have hfree : ∀ j oj, ops[j]? = some oj → j ≠ i → listed.getD j true = false → aDu oj i = false → o.apart ops oj = true := fun j oj hj hji hlj hw => by
     obtain ⟨o2, ho2⟩ := L.un2 j hlj
     have := (L.un1 j o2 ho2).1
     rw [hj] at this; cases this
     have h1 := List.all_eq_true.1 hc.1 (j, oj) ho2
     simp only [hw, Bool.or_false, Bool.or_eq_true] at h1
     rcases h1 with h1 | h1
     ·exact absurd (Nat.eq_of_beq_eq_true h1) hji
     ·exact aXc h1
    have L' := L.erase hnd hm
    have hnd' : ((lM i U).map (·.1)).Nodup := hnd.sublist (eraseN_sub.map _)
    rcases aCy M hn ha hdo h with ⟨hw, σ', hgo, M', _⟩ | ⟨hw, σ', hskip, M'⟩
    ·split at hgo
     ·rename_i s hs
      cases hc2 : (Nat.blt s 900000 && uX o [([i], s)]) with
      | false => rw [hc2] at hgo; cases hgo
      | true =>
      rw [hc2] at hgo
      simp only [cond_true] at hgo
      simp only [Bool.and_eq_true] at hc2
      obtain ⟨t, ho⟩ := aQu hs
      have h1 := aNo hgo
      obtain ⟨σ2, hx2, ad, u, had, hrun, M2⟩ : ∃ σ2, opx E o σ' = .one true σ2 ∧ ∃ ad u, a.eval (.tmp s) = .pointer (some ad) ∧ (∀ w', w'.heap[ad.block]? = w.heap[ad.block]? → (execOp a.eval o).run P w' = .ok (.value u) w') ∧ Mo C σ2 ρ pr (fd o.dst u (fa g a)) w := by
       have hopR : opR E o σ' = none := by unfold opR bGo bGn; rw [ho]
       have hopW : aTm E o σ' = match E.tt t with
         | some ti => match aIy σ' ti (σ'.ev (.tmp s)) with
          | some v => bif Nat.blt 0 ti.n then .one true (σ'.setd o.dst v) else .fail
          | none => .fail
         | none => .fail := by unfold aTm; rw [ho]; rfl
       have hopB : aP6 E o σ' = match E.tt t with
         | some ti => match aLl σ' ti (σ'.ev (.tmp s)) with
          | some v => bif Nat.blt 0 ti.n then .one true (σ'.setd o.dst v) else .fail
          | none => .fail
         | none => .fail := by unfold aP6; rw [ho]; rfl
       have hxx : opx E o σ' = match aTm E o σ' with
         | .fail => aP6 E o σ'
         | r => r := by unfold opx; rw [hopR]; rfl
       rw [hopW, hopB] at hxx
       rw [hxx] at h1 ⊢
       cases ht : E.tt t with
       | none => rw [ht] at h1; exact h1.elim
       | some ti =>
        rw [ht] at h1
        simp only at h1 ⊢
        cases hpos : Nat.blt 0 ti.n with
        | false =>
         rw [hpos] at h1
         exfalso
         revert h1
         cases aIy σ' ti (σ'.ev (.tmp s)) <;> cases aLl σ' ti (σ'.ev (.tmp s)) <;> simp
        | true =>
         rw [hpos] at h1
         cases hv : aIy σ' ti (σ'.ev (.tmp s)) with
         | some v =>
          obtain ⟨ad, u, had, hrun, M2⟩ := aTj hT M' ho ht (Nat.le_of_ble_eq_true hpos) hv
          exact ⟨_, rfl, ad, u, had, hrun, M2⟩
         | none =>
          rw [hv] at h1
          simp only at h1 ⊢
          cases hv2 : aLl σ' ti (σ'.ev (.tmp s)) with
          | none => rw [hv2] at h1; exact h1.elim
          | some v =>
           obtain ⟨ad, u, had, hrun, M2⟩ := aP4 hT M' ho ht (Nat.le_of_ble_eq_true hpos) hv2
           exact ⟨_, rfl, ad, u, had, hrun, M2⟩
      rw [hx2] at h1
      simp only at h1
      rw [← aE2 hn ha hdo] at M2
      refine aBi (S := fun w' => w'.heap[ad.block]? = w.heap[ad.block]?) (v := u) hoi hselA (fun c a w h => hQi c a w o _ (hmemA hoi) h) f listed TP a w hfree hri (.inl ⟨hw, hrun⟩) rfl hTR.holds ?_
      refine ih h1.2 M2 ((mG _ _ _).trans ha) ((gX _ _ _).trans hdf) (othPut u hoi) L' hnd' ?_
      intro t' ht'
      rcases List.mem_cons.1 ht' with rfl | ht'
      ·refine ⟨([i], s), by simp, rfl, ad, _, ?_, rfl, rfl⟩
       rw [← had]
       refine Act.eval_put (fun d hdd e => ?_)
       have := hc2.2
       unfold uX at this
       rw [hdd] at this
       cases e
       simp at this
      ·obtain ⟨p', hp', rest⟩ := (hTR.join hoi).put (aHl hc.2) u t' ht'
       exact ⟨p', List.mem_cons_of_mem _ hp', rest⟩
     ·split at hgo
      ·rename_i q hq
       cases hq1 : q.1 with
       | false => rw [hq1] at hgo; cases hgo
       | true =>
       rw [hq1] at hgo
       simp only [cond_true] at hgo
       obtain ⟨v, ρ2, pr2, hrun, M2⟩ := aRj hT M' (ok := q.1) (σ' := q.2) hq hq1
       rw [← aE2 hn ha hdo] at M2
       refine aBi (S := fun _ => True) (v := v) hoi hselA (fun c a w h => hQi c a w o _ (hmemA hoi) h) f listed TP a w hfree hri (.inl ⟨hw, fun u _ => hrun u⟩) trivial hTR.holds ?_
       exact aDs _ _ _ _ _ (ih hgo M2 ((mG _ _ _).trans ha) ((gX _ _ _).trans hdf) (othPut v hoi) L' hnd' ((hTR.join hoi).put (aHl hc.2) v))
      ·cases hgo
    ·refine aBi (S := fun _ => True) (v := undef) hoi hselA (fun c a w h => hQi c a w o _ (hmemA hoi) h) f listed TP a w hfree hri (.inr ⟨hw, rfl⟩) trivial hTR.holds ?_
     exact aDs _ _ _ _ _ (ih hskip M' ((mG _ _ _).trans ha) ((gX _ _ _).trans hdf) (othPut undef hoi) L' hnd' ((hTR.join hoi).put (aHl hc.2) undef))
   ·rename_i hpick
    obtain ⟨hne, hall⟩ := aSe h
    refine ⟨fun h0 => ?_, fun j hj => ?_⟩
    ·exfalso
     obtain ⟨q, hq⟩ := List.exists_mem_of_ne_nil _ hne
     rw [List.mem_filter] at hq
     have := (L.ready (j := q.1) (o := q.2) hq.1).2 hq.2
     rw [h0] at this; cases this
    ·obtain ⟨o, hm⟩ := L.un2 j (mem_ready.1 hj).1
     obtain ⟨hoj, _⟩ := L.un1 j o hm
     have hdo := hds o (hmemA hoj)
     have hg := hall (j, o) (List.mem_filter.2 ⟨hm, (L.ready hm).1 hj⟩)
     simp only at hg
     cases hdk : uX o (aJa o T) with
     | false => rw [hdk] at hg; cases hg
     | true =>
     rw [hdk] at hg
     simp only [cond_true] at hg
     have L' := L.erase hnd hm
     have hnd' : ((lM j U).map (·.1)).Nodup := hnd.sublist (eraseN_sub.map _)
     have hTR' := hTR.held hoj
     have next : ∀ {σ2 : St} {ρ2 : Nat → Loc} {pr2 : dU} {w2 : World} (v : Value), rA E lt ops ops.size kp f (lM j U) (aJa o T) σ2 k = some r → Mo C σ2 ρ2 pr2 (fa g (a.put o.dst v)) w2 → TR (aJa o T) (oZ ops j TP) (a.put o.dst v) w2 →
       (∀ t ∈ oZ ops j TP, t.2 w2) ∧ uN P ops Q f (listed.setIfInBounds j true) (oZ ops j TP) (a.put o.dst v) w2 := fun v hk M2 hTR2 =>
      ⟨hTR2.holds, ih hk M2 ((mG _ _ _).trans ha) ((gX _ _ _).trans hdf) (othPut v hoj) L' hnd' hTR2⟩
     unfold wpOp
     simp only [hoj]
     rcases aCy M hn ha hdo hg with ⟨hw, σ', hgo, M', _⟩ | ⟨hw, σ', hskip, M'⟩
     ·rw [hw, if_pos rfl]
      refine .inl (aZ5 hT hE hG M' hn ha hdo ?_)
      have h1 := aX0 hgo
      cases hx : opx E o σ' with
      | fail => rw [hx] at h1; exact h1
      | one ok σ2 =>
       rw [hx] at h1
       exact ⟨h1.2.1, fun v ρ2 pr2 w2 M2 hs => next v h1.2.2 M2 (hTR'.after M' h1.1 hdk hs v)⟩
      | call Y m F W =>
       rw [hx] at h1
       obtain ⟨hh, y, hy, hk⟩ := h1
       exact ⟨y, hy, fun v ρ2 pr2 w2 M2 hs => next v hk M2 (hTR'.after M' hh hdk hs v)⟩
      | callP Y Z m F G V W =>
       rw [hx] at h1
       obtain ⟨hh, s, hs, hk⟩ := h1
       refine ⟨s, hs, ?_⟩
       cases s with
       | inl y => exact fun v ρ2 pr2 w2 M2 hs => next v hk M2 (hTR'.after M' hh hdk hs v)
       | inr z => exact fun v ρ2 pr2 w2 M2 q => hQp _ v a w2 _ ρ2 pr2 hk M2 q ha hdf hoth
      | panic sv => rw [hx] at h1; exact fun v q => hQp _ v a w _ ρ pr h1 M' q ha hdf hoth
     ·rw [hw, if_neg (by simp)]
      exact next undef hskip M' (hTR'.put hdk undef)
end
end Ab
end
