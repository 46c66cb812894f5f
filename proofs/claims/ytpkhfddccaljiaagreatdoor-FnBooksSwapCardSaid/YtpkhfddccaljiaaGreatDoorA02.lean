/-
A part of the proof: pure functions told of the program, and laws about them.
-/
import Derived.Test.YtpkhfddccaljiaaGreatDoorA01
set_option linter.all false
section
namespace Ab
open Go
section
variable {P : Program} {E : Env} {C : Cx} {σ : St} {ρ : Nat → Loc} {pr : dU} {f : Nat → Value} {w : World} {a : Act} {o : Oper} {g : Nat → Value}
theorem aRc {r : Ty} {pr' : dU} (hp : PrLe w pr w pr') (ho : ∀ k o, σ.obj k = some o → RO σ.obj ρ w pr k o) : ∀ {l : List (Nat × SV)} {m : List (Nat × Value)} {xs ys : List r.T} {fz : List Nat} {cs : Array Value},
  aVm σ r l xs = some (ys, fz) → Ab.Rows w pr' r xs cs.toList → cs.size = xs.length * r.n → (∀ u ∈ cs.toList, u.oneCell' = true) → l.length = m.length →
  (∀ (j : Nat) (p : Nat × SV) (q : Nat × Value), l[j]? = some p → m[j]? = some q → p.1 = q.1 ∧ Rp σ.obj ρ w pr p.2 [q.2]) → Fz σ ρ pr' fz →
  ∃ out, Instr.fill (fun i => some (i * r.n, r.n)) cs m = some out ∧ Ab.Rows w pr' r ys out.toList ∧ out.size = ys.length * r.n ∧ ys.length = xs.length ∧ ∀ u ∈ out.toList, u.oneCell' = true
 | [], [], xs, ys, fz, cs, hf, q, hs, h1, _, _, _ => by cases hf; exact ⟨cs, rfl, q, hs, rfl, h1⟩
 | (i, v) :: l, (i', x) :: m, xs, ys, fz, cs, hf, q, hs, h1, hl, hc, hz => by
  obtain ⟨e, qv⟩ := hc 0 _ _ rfl rfl
  simp only at e qv
  subst e
  unfold aVm at hf
  simp only [Option.bind_eq_some_iff] at hf
  obtain ⟨p, ⟨c, hcv, hf1⟩, qq, hf2, hf3⟩ := hf
  cases hf3
  cases hcond : (c.lst && Nat.beq c.len r.n && Nat.blt i xs.length) with
  | false => rw [hcond] at hf1; cases hf1
  | true =>
   rw [hcond] at hf1
   simp only [cond_true] at hf1
   simp only [Bool.and_eq_true] at hcond
   have hcl := Nat.eq_of_beq_eq_true hcond.1.2
   have hlt : i < xs.length := Nat.le_of_ble_eq_true hcond.2
   obtain ⟨qc, o1⟩ := aBc ho hcv qv
   have hlen := Rp.llen hcond.1.1 qc
   have hrow := aFr hp ho hf1 qc hz.left
   have hn : x.cells.size = r.n := by rw [← hcl, ← hlen]; simp
   have hfit : i * r.n + r.n ≤ xs.length * r.n := by rw [← Nat.succ_mul]; exact Nat.mul_le_mul_right _ hlt
   rw [aRz (ofs := i * r.n) (n := r.n) rfl hn (by omega) rfl]
   have hcsl : cs.toList.length = xs.length * r.n := by simpa using hs
   have hL : x.cells.toList.length = r.n := by simpa using hn
   obtain ⟨out, k1, k2, k3, k4, k5⟩ := aRc hp ho (m := m) (xs := xs.set i p.1) hf2 (cs := (cs.toList.take (i * r.n) ++ x.cells.toList ++ cs.toList.drop (i * r.n + x.cells.toList.length)).toArray)
    (by
     rw [List.toList_toArray]
     intro i' x' hx'
     have hi' : i' < xs.length := by have := (List.getElem?_eq_some_iff.1 hx').1; simpa using this
     have hfit' : i' * r.n + r.n ≤ xs.length * r.n := by rw [← Nat.succ_mul]; exact Nat.mul_le_mul_right _ hi'
     by_cases e : i' = i
     ·subst e
      have : x' = p.1 := by simpa [hlt] using hx'.symm
      subst this
      have := aNt cs.toList x.cells.toList (i' * r.n) 0 r.n (by omega) (by omega)
      simp only [Nat.add_zero, Nat.zero_add, List.take_zero, List.nil_append] at this
      rw [this, List.drop_of_length_le (by simp; omega), List.append_nil]
      exact hrow
     ·have hx2 : xs[i']? = some x' := by
       rw [List.getElem?_set, if_neg (fun h => e h.symm)] at hx'; exact hx'
      have hdist : i' * r.n + r.n ≤ i * r.n ∨ i * r.n + x.cells.toList.length ≤ i' * r.n := by
       rcases Nat.lt_or_gt_of_ne e with h | h
       ·left; have : (i' + 1) * r.n ≤ i * r.n := Nat.mul_le_mul_right _ h
        rw [Nat.succ_mul] at this; omega
       ·right; have : (i + 1) * r.n ≤ i' * r.n := Nat.mul_le_mul_right _ h
        rw [Nat.succ_mul] at this; omega
      rw [aJ1 _ _ _ _ _ hdist (by omega)]
      exact q i' x' hx2)
    (by simp; omega)
    (by
     intro u hu
     rw [List.toList_toArray] at hu
     simp only [List.mem_append] at hu
     rcases hu with (hu | hu) | hu
     ·exact h1 u (List.mem_of_mem_take hu)
     ·exact o1 u hu
     ·exact h1 u (List.mem_of_mem_drop hu))
    (by simpa using hl) (fun j p q hp hq => hc (j + 1) p q (by simpa using hp) (by simpa using hq)) hz.right
   exact ⟨out, k1, k2, k3, by simpa using k4, k5⟩
 | [], _ :: _, _, _, _, _, _, _, _, _, hl, _, _ => by simp at hl
 | _ :: _, [], _, _, _, _, _, _, _, _, hl, _, _ => by simp at hl
theorem aRo {r : Ty} {z : Array Value} {len : Nat} (hz : z.toList = aAk r) (hn : 0 < r.n) :
  Ab.Rows w pr r (List.replicate len r.z) (madeCells z (len * r.n)).toList ∧ ∀ u ∈ (madeCells z (len * r.n)).toList, u.oneCell' = true := by
 have hl : z.size = r.n := by have := congrArg List.length hz; rw [(Rep.z w pr r).len] at this; simpa using this
 have hget : ∀ j, j < len * r.n → (madeCells z (len * r.n)).toList[j]? = (aAk r)[j % r.n]? := by
  intro j hj
  have hm : j % z.size < z.size := Nat.mod_lt _ (by omega)
  simp only [madeCells, Array.toList_map, List.getElem?_map, Array.toList_range, List.getElem?_range hj, Option.map_some]
  rw [← hz, ← hl, Array.getElem?_toList, getElem!_pos z _ hm, Array.getElem?_eq_getElem hm]
 refine ⟨fun i x hx => ?_, fun u hu => ?_⟩
 ·have hi : i < len := by have := (List.getElem?_eq_some_iff.1 hx).1; simpa using this
  have hx' : x = r.z := by rw [List.getElem?_replicate, if_pos hi] at hx; exact (Option.some.inj hx).symm
  subst hx'
  have hfit : i * r.n + r.n ≤ len * r.n := by rw [← Nat.succ_mul]; exact Nat.mul_le_mul_right _ hi
  have : ((madeCells z (len * r.n)).toList.drop (i * r.n)).take r.n = aAk r := by
   apply List.ext_getElem?
   intro j
   rw [List.getElem?_take]
   by_cases hj : j < r.n
   ·rw [if_pos hj, List.getElem?_drop, hget _ (by omega)]
    rw [Nat.mul_comm, Nat.mul_add_mod, Nat.mod_eq_of_lt hj]
   ·rw [if_neg hj, List.getElem?_eq_none (by rw [(Rep.z w pr r).len]; omega)]
  rw [this]
  exact Rep.z w pr r
 obtain ⟨j, hj⟩ := List.mem_iff_getElem?.1 hu
 have hjl : j < len * r.n := by have := (List.getElem?_eq_some_iff.1 hj).1; simpa [size_madeCells] using this
 rw [hget j hjl] at hj
 exact (Rep.z w pr r).oneCell u (List.mem_of_getElem? hj)
theorem aP5 {t : TypeId} {ti : TI} {len : Nat} {parts : Array (Nat × Operand)} {p : List ti.er.T × List Nat} (hT : TTok P E.tt) (M : Mo C σ ρ pr (fa g a) w) (ho : o.op = .buildSlice t len parts) (ht : E.tt t = some ti) (hk : ti.k = .slice)
  (hr : aVm σ ti.er (parts.toList.map fun p => (p.1, σ.ev p.2)) (List.replicate len ti.er.z) = some p) (hf : σ.free (tok o.dst) = true) (hlim : Nat.ble (len * ti.er.n) 16777216 = true) :
  Done P C g o a σ ρ w [] (((σ.freezes p.2).put (tok o.dst) (.chunk ti.el ti.er p.1)).setd o.dst (.hd (tok o.dst))) := by
 obtain ⟨I⟩ := hT.info ht
 obtain ⟨hd, hpos, i, z, hi, hn, _, hz, hzc⟩ := kQ I.hd hk
 have hu := I.hu; rw [hd] at hu
 have hlim := Nat.le_of_ble_eq_true hlim
 obtain ⟨pr2, M2, hple, m2, z2⟩ := M.freezes p.2
 obtain ⟨r1, o1⟩ := aRo (w := w) (pr := pr2) (len := len) hzc hpos
 obtain ⟨out, k1, k2, k3, k4, k5⟩ := aRc (m := parts.toList.map fun p => (p.1, a.eval p.2)) hple M.hp hr r1 (by rw [size_madeCells]; simp) o1 (by simp) (fun j p q hp hq => by
  simp only [List.getElem?_map, Option.map_eq_some_iff] at hp hq
  obtain ⟨p', hp', rfl⟩ := hp
  obtain ⟨q', hq', rfl⟩ := hq
  rw [hp'] at hq'; cases hq'
  exact ⟨rfl, dZ M _⟩) z2
 have hpl : p.1.length = len := by simpa using k4
 have hml : len ≤ maxLen := by
  have : len * 1 ≤ len * ti.er.n := Nat.mul_le_mul_left _ hpos
  simp only [maxLen]; omega
 obtain ⟨ρ3, M3, q3, _⟩ := M2.addChunk (e := ti.el) (by rw [aC1]; exact hf) hpos k3 (by rw [hpl]; exact hml) k2 k5
 refine Done.value ?_ M3 q3 (fun b hb _ => ((RowKit.Below.refl w.heap.size w).alloc (Nat.le_refl _) _).block b hb)
 unfold execOp; simp only [ho]
 refine cZ _ ?_
 unfold Instr.buildSlice
 have hparts : (parts.map fun (i, x) => (i, a.eval x)).toList = parts.toList.map fun p => (p.1, a.eval p.2) := by simp
 have hz0 : madeCells z.cells (len * ti.er.n) = (Array.range (len * ti.er.n)).map ((if len * ti.er.n = 0 then (#[] : Array Value) else z.cells)[· % (if len * ti.er.n = 0 then (#[] : Array Value) else z.cells).size]!) := by
  by_cases h0 : len * ti.er.n = 0
  ·rw [h0]; simp [madeCells, Array.range_zero']
  ·simp only [h0, if_false]; rfl
 simp only [Sem.run_bind, run_underlying hu, Result.andThen, Go.sizeOf, typeInfo, run_program, hi, Sem.run_pure, hn]
 rw [if_neg (by simp; omega)]
 by_cases h0 : len * ti.er.n = 0
 ·rw [hz0] at k1
  simp only [h0, if_true] at k1 ⊢
  simp only [Sem.run_pure, Result.andThen, Sem.run_bind, hparts, k1, newRow, run_newObj, hpl]
  rfl
 rw [hz0] at k1
 simp only [h0, if_false] at k1 ⊢
 simp only [Sem.run_pure, Result.andThen, Sem.run_bind, hparts, k1, newRow, run_newObj, zeroValue, typeInfo, run_program, hi, hz, hpl]
 rfl
theorem bGl {t : TypeId} {ti : TI} {x y : Operand} {k k' : IntKind} {m n : Int} {z0 : Bool} (hT : TTok P E.tt) (M : Mo C σ ρ pr (fa g a) w) (ho : o.op = .makeSlice t x y) (ht : E.tt t = some ti) (hk : ti.k = .slice)
  (hx : σ.ev x = .val (.int k) m) (hy : σ.ev y = .val (.int k') n) (hf : σ.free (tok o.dst) = true) (hm : aRn x y m = some z0) (hok : aHe n ti.eb = true) :
  Done P C g o a σ ρ w [] ((σ.put (tok o.dst) (.chunk ti.el ti.er (bif z0 then [] else List.replicate n.toNat ti.er.z))).setd o.dst (.hd (tok o.dst))) := by
 obtain ⟨I⟩ := hT.info ht
 obtain ⟨hd, hpos, i, z, hi, hn, hby, hz, hzc⟩ := kQ I.hd hk
 have hu := I.hu; rw [hd] at hu
 simp only [aHe, decide_eq_true_eq] at hok
 have qx := dZ M x
 have qy := dZ M y
 rw [hx] at qx; rw [hy] at qy
 have hvx : a.eval x = .int k m := by have := qx.2; simpa [Rep] using this
 have hvy : a.eval y = .int k' n := by have := qy.2; simpa [Rep] using this
 obtain ⟨nn, rfl⟩ : ∃ nn : Nat, n = nn := ⟨n.toNat, by omega⟩
 cases z0 with
 | false =>
  have hmn : m = nn := by
   cases x <;> cases y <;> simp only [aRn] at hm <;> first | (cases hm; done) | skip
   ·rename_i i j
    cases hb : Nat.beq i j with
    | false => rw [hb] at hm; cases hm
    | true =>
     have := Nat.eq_of_beq_eq_true hb
     subst this
     rw [hx] at hy; cases hy; rfl
   all_goals (rename_i v _; cases v <;> simp only [aRn] at hm <;> first | (cases hm; done) | (rename_i n0; cases hb : (n0 == 0) <;> rw [hb] at hm <;> cases hm))
  subst hmn
  obtain ⟨r1, o1⟩ := aRo (w := w) (pr := pr) (len := nn) hzc hpos
  obtain ⟨ρ3, M3, q3, _⟩ := M.addChunk (k := tok o.dst) (e := ti.el) (r := ti.er) (xs := List.replicate nn ti.er.z) hf hpos (by rw [size_madeCells]; simp) (by simp [maxLen]; omega) r1 o1
  have hr := run_make (P := P) w t ti.el i z hu hi hz k k' nn nn (by omega) (Int.le_refl _) (by rw [hby]; exact hok.2.1) hok.2.2
  refine Done.value (sv := .hd (tok o.dst)) ?_ (by simpa using M3) (by simpa using q3) (fun b hb _ => ((RowKit.Below.refl w.heap.size w).alloc (Nat.le_refl _) _).block b hb)
  unfold execOp; simp only [ho, hvx, hvy]
  refine cZ _ ?_
  rw [hr]
  simp [hn]
 | true =>
  have hm0 : m = 0 := by
   cases x <;> cases y <;> simp only [aRn] at hm <;> first | (cases hm; done) | skip
   ·rename_i i j
    cases hb : Nat.beq i j <;> rw [hb] at hm <;> cases hm
   all_goals (rename_i v _; cases v <;> simp only [aRn] at hm <;> first | (cases hm; done) | (rename_i k0 n0; cases hb : (n0 == 0) <;> rw [hb] at hm <;> first | (cases hm; done) | (
    have : n0 = 0 := by simpa using hb
    subst this
    simp [St.ev, aMl] at hx
    exact hx.2.symm)))
  subst hm0
  obtain ⟨w', hr, hown, hg⟩ := run_make_own (P := P) w 0 t ti.el i z ti.er.n hu hi hz hn k k' nn (by rw [hby]; have := hok.2.1; rw [← Int.natCast_mul] at this; omega) (by simp [maxLen]; omega) (Nat.zero_le _)
  have hobj : (σ.put (tok o.dst) (.chunk ti.el ti.er [])).obj (tok o.dst) = some (.chunk ti.el ti.er []) := by rw [St.obj_put, if_pos rfl]
  have hbel : RowKit.Below w.heap.size w w' := ⟨hg.os, hg.tape, hg.output, hg.size, fun b hb => hg.block b hb (by simp)⟩
  have := M.add (o := .chunk ti.el ti.er []) (ρ' := fun j => if j = tok o.dst then ⟨.slice (some ⟨w.heap.size, 0, none⟩) 0 nn, w.heap.size⟩ else ρ j) (free_spec hf) (fun j e => by simp [e]) hbel
   (fun _ => ⟨hpos, by simp [Value.ownBlock], [], by simpa using hown, fun i x hx => by simp at hx, by simp⟩)
   (fun b hb => by simp [own, hobj, Value.ownBlock] at hb; omega)
  refine Done.value (v := .slice (some ⟨w.heap.size, 0, none⟩) 0 nn) (w' := w') ?_ (by simpa using this.1) (by exact ⟨⟨_, hobj, rfl⟩, by simp⟩) (fun b hb _ => hbel.block b hb)
  unfold execOp; simp only [ho, hvx, hvy]
  exact cZ _ hr
end
end Ab
end
section
namespace Ab
open Go
section
variable {P : Program} {E : Env} {C : Cx} {σ : St} {ρ : Nat → Loc} {pr : dU} {f : Nat → Value} {w : World} {a : Act} {o : Oper} {g : Nat → Value}
theorem pushes (ns : List Int) : ∀ s : ByteArray, ns.foldl (fun r n => r.push (UInt8.ofNat n.toNat)) s = ⟨s.data ++ (ns.map fun n => UInt8.ofNat n.toNat).toArray⟩ := by
 induction ns with
 | nil => intro s; simp
 | cons n ns ih =>
  intro s
  rw [List.foldl_cons, ih]
  simp [ByteArray.push]
theorem bEd {s t : TypeId} {ts te ti : TI} {x : Operand} {xs : List Int} (hT : TTok P E.tt) (M : Mo C σ ρ pr (fa g a) w) (ho : o.op = .convert s t x) (hs : E.tt s = some ts) (ht : E.tt t = some ti) (hsk : ts.k = .slice) (hk : ti.k = .str)
  (hte : E.tt ts.el = some te) (htek : te.k = .int .u8) (h : SV.list σ (.int .u8) (σ.ev x) = some xs) : Done P C g o a σ ρ w [] (σ.setd o.dst (.val .str (bytesOf xs))) := by
 obtain ⟨I⟩ := hT.info ht
 obtain ⟨J⟩ := hT.info hs
 obtain ⟨L⟩ := hT.info hte
 have hu := I.hu; rw [aE4 I.hd hk] at hu
 have hv := J.hu; rw [(kQ J.hd hsk).1] at hv
 have hl := L.hu; rw [aW5 L.hd htek] at hl
 have hc := bAe M h (dZ M x)
 obtain ⟨A, c, hx, hcells⟩ := hc
 have run : ∀ v, (Conv.bytesToString (.slice A xs.length c)).run P w = .ok v w → (execOp a.eval o).run P w = .ok (.value v) w := by
  intro v hr
  unfold execOp; simp only [ho, hx]
  refine cZ _ ?_
  rw [run_convert_bytes_string w s t ts.el A xs.length c hv hl hu, hr]
 have key : (Conv.bytesToString (.slice A xs.length c)).run P w = .ok (.string (bytesOf xs)) w := by
  have hfin : ∀ (ad : Addr) , (loadCells ad xs.length).run P w = .ok (xs.map (Value.int .u8)).toArray w → (Conv.bytesToString (.slice (some ad) xs.length c)).run P w = .ok (.string (bytesOf xs)) w := by
   intro ad hld
   rw [run_bytesToString w ad xs.length c xs hld, pushes]
   simp [bytesOf, ByteArray.empty, ByteArray.emptyWithCapacity]
   rfl
  rcases hcells with hc0 | ⟨ad, cells, rfl, hl', hread, hrows, h1⟩
  ·have hnil : xs = [] := List.eq_nil_of_length_eq_zero hc0
   subst hnil
   cases A with
   | none => rfl
   | some ad => exact hfin ad (by simp [loadCells, loadCellsFrom])
  ·have hcs : cells = xs.map (Value.int .u8) := by
    apply List.ext_getElem?
    intro j
    rw [List.getElem?_map]
    cases hj : xs[j]? with
    | none =>
     have : xs.length ≤ j := List.getElem?_eq_none_iff.1 hj
     rw [List.getElem?_eq_none (by simp only [Ty.n] at hl'; omega)]; rfl
    | some y =>
     have := hrows j y hj
     simp only [Rep, Ty.n] at this
     have h0 := congrArg (fun l => l[0]?) this
     simp only [Nat.mul_one, List.getElem?_take, List.getElem?_drop] at h0
     simpa using h0
   refine hfin ad ?_
   have := run_loadCells_list (P := P) w ad cells hread
   rw [← hcs]
   have hll : cells.length = xs.length := by simpa [Ty.n] using hl'
   rw [hll] at this
   exact this
 exact Done.value (sv := .val .str (bytesOf xs)) (run _ key) M ⟨rfl, rfl⟩ (Same.refl _ _ _ _)
theorem aZg {ok : Bool} {σ' : St} (hT : TTok P E.tt) (M : Mo C σ ρ pr (fa g a) w) (h : bGo E o σ = some (ok, σ')) (hok : ok = true) : DoneR P C g o a w σ' := by
 subst hok
 unfold bGo at h
 split at h
 ·rename_i x ho
  split at h
  ·rename_i p hp
   cases h
   exact aZ9 M (.inl ho) hp
  cases h
 ·rename_i x ho
  split at h
  ·rename_i p hp
   cases h
   exact aZ9 M (.inr ho) hp
  cases h
 ·rename_i c x y ho
  split at h
  ·rename_i t hc
   split at h
   ·rename_i ta u tb v hx hy
    split at h
    ·rename_i y' hy'
     cases h
     have qx := dZ M x
     have qy := dZ M y
     rw [hx] at qx; rw [hy] at qy
     refine aZ8 (tc := ta) M ho hc ?_
     cases t with
     | true => exact qx
     | false =>
      refine ⟨qx.1, ?_⟩
      exact aBd hy' qy.2
    cases h
   rename_i hn
   cases h
   refine aZ8 (tc := .nil) M ho hc ?_
   cases t with
   | true => exact dZ M x
   | false => exact dZ M y
  cases h
 ·rename_i x ho
  split at h
  ·rename_i k off hx
   cases h
   exact aEj M ho hx (.inl ⟨_, _, rfl⟩)
  ·rename_i k i off hx
   split at h
   ·rename_i e r xs hk
    cases h
    exact aEj M ho hx (.inr (.inr ⟨_, _, _, _, _, _, rfl, hk⟩))
   cases h
  ·rename_i t y hx
   cases h
   exact aEj M ho hx (.inr (.inl ⟨_, _, rfl⟩))
  cases h
 ·rename_i op t x y t' ho
  split at h
  ·rename_i v hv
   cases h
   exact bBr hT M ho hv
  split at h
  ·rename_i p hp
   simp only [Option.some.injEq, Prod.mk.injEq] at h
   obtain ⟨h1, rfl⟩ := h
   exact bEf (ok := p.1) (sv := p.2) M ho hp h1
  cases h
 ·rename_i op t x ho
  split at h
  ·rename_i v hv
   cases h
   exact bGk M ho hv
  cases h
 ·rename_i s t x ho
  split at h
  ·rename_i ts ti hs ht
   split at h
   ·rename_i v hv
    cases h
    obtain ⟨J⟩ := hT.info hs
    exact aY9 hT M ho ht (by rw [J.hu]; rfl) hv
   cases h
  cases h
 ·rename_i t x lo hi ho
  split at h
  ·rename_i ti ht
   simp only at h
   split at h
   ·rename_i q hq
    cases hst : sliceT ti (σ.asData (σ.ev x)).2 with
    | false => rw [hst] at h; cases h
    | true =>
     rw [hst] at h
     simp only [cond_true, Option.some.injEq, Prod.mk.injEq] at h
     obtain ⟨h1, rfl⟩ := h
     exact bD8 (ok := q.1) (sv := q.2) hT M ho ht rfl hq h1 hst
   cases h
  cases h
 ·rename_i t parts ho
  split at h
  ·rename_i ti ht
   split at h
   ·rename_i hk
    split at h
    ·rename_i cs hcs
     split at h
     ·rename_i p hp
      cases h
      exact bEe hT M ho ht hk hcs hp
     cases h
    cases h
   cases h
  cases h
 ·rename_i s x j ho
  split at h
  ·rename_i ti ht
   split at h
   ·rename_i p hk hp
    split at h
    ·rename_i v hv
     cases hb : Nat.beq p.2 0 with
     | true => rw [hb] at h; cases h
     | false =>
      rw [hb] at h
      cases h
      exact aTl hT M ho ht hk hp (fun e => by rw [e] at hb; cases hb) hv
    cases h
   cases h
  cases h
 ·rename_i s x j ho
  split at h
  ·rename_i ti ht
   split at h
   ·rename_i p c hk hp hx
    split at h
    ·rename_i v hv
     cases hb : Nat.blt 0 p.2 with
     | false => rw [hb] at h; cases h
     | true =>
      rw [hb] at h
      cases h
      exact bEc hT M ho ht hk hp hx (Nat.le_of_ble_eq_true hb) hv
    cases h
   cases h
  cases h
 ·rename_i t x i ho
  split at h
  ·rename_i ti ht
   split at h
   ·rename_i k n hk hi
    split at h
    ·rename_i p hp
     simp only [Option.some.injEq, Prod.mk.injEq] at h
     obtain ⟨h1, rfl⟩ := h
     exact aTk (ok := p.1) (sv := p.2) hT M ho ht hk hi hp h1
    cases h
   cases h
  cases h
 ·rename_i t x i ho
  split at h
  ·rename_i ti ht
   split at h
   ·rename_i s k n hk hx hi
    simp only [Option.some.injEq, Prod.mk.injEq] at h
    obtain ⟨h1, rfl⟩ := h
    exact bEa hT M ho ht hk hx hi h1
   cases h
  cases h
 ·rename_i x i ho
  split at h
  ·rename_i s hx
   split at h
   ·rename_i v u hd
    cases h
    exact aY8 M ho hx hd
   cases h
  cases h
 ·rename_i as ts ho
  split at h
  ·rename_i x t has hts
   split at h
   ·rename_i ti ht
    cases hl : bH1 ti.k (σ.ev x) with
    | false => rw [hl] at h; cases h
    | true =>
     rw [hl] at h
     simp only [cond_true] at h
     split at h
     ·rename_i v hv
      cases h
      exact bHt hT M ho has hts ht hl hv
     ·cases h
   cases h
  cases h
 cases h
theorem aZy {E : Env} {fs : FS} {d : Option Nat} {as : SV} {ts : List Nat} {ok : Bool} {σ' : St} (h : aC3 E fs σ d as ts = .one ok σ') : False := by
 unfold aC3 at h
 split at h
 ·cases h
 split at h
 ·cases h
 split at h
 ·cases h
 simp only at h
 revert h
 generalize (eB _ _ && _ && _) = b
 cases b <;> intro h <;> cases h
theorem aLw {E : Env} {d : Option Nat} {as : SV} {ts : List Nat} {ok : Bool} {σ' : St} : ∀ {l : List FS}, tL E σ d as ts l = .one ok σ' → False
 | [], h => by cases h
 | fs :: l, h => by
  unfold tL at h
  split at h
  ·exact aLw h
  exact aZy h
theorem aW9 {E : Env} {fs : FSP} {d : Option Nat} {as : SV} {ts : List Nat} {ok : Bool} {σ' : St} (h : wE E fs σ d as ts = .one ok σ') : False := by
 unfold wE at h
 split at h
 ·cases h
 split at h
 ·cases h
 split at h
 ·cases h
 revert h
 generalize (eB _ _ && _ && _ && _) = b
 cases b <;> intro h <;> cases h
theorem aJi {E : Env} {d : Option Nat} {as : SV} {ts : List Nat} {ok : Bool} {σ' : St} : ∀ {l : List FSP}, pE E σ d as ts l = .one ok σ' → False
 | [], h => by cases h
 | fs :: l, h => by
  unfold pE at h
  split at h
  ·exact aJi h
  exact aW9 h
theorem aR9 {E : Env} {d : Option Nat} {f : Nat} {as : SV} {ts : List Nat} {ok : Bool} {σ' : St} (h : aBe E σ d f as ts = .one ok σ') : False := by
 unfold aBe at h
 split at h
 ·exact aJi h
 exact aLw h
theorem aZd {ok : Bool} {σ' : St} (hT : TTok P E.tt) (M : Mo C σ ρ pr (fa g a) w) (h : aTm E o σ = .one ok σ') (hok : ok = true) : Done P C g o a σ ρ w (wr o σ) σ' := by
 subst hok
 unfold aTm at h
 split at h
 ·rename_i t ho
  split at h
  ·rename_i ti ht
   cases hba : ti.isArr with
   | true => rw [hba] at h; cases h
   | false =>
   rw [hba] at h
   simp only [cond_false] at h
   split at h
   ·rename_i p hp
    cases hb : p.1.free (tok o.dst) with
    | false => rw [hb] at h; cases h
    | true =>
     rw [hb] at h
     cases h
     have : wr o σ = [] := by unfold wr; rw [ho]
     rw [this]
     exact bEg hT M ho ht hp hb
   cases h
  cases h
 ·rename_i t x ho
  split at h
  ·rename_i ti ht
   split at h
   ·rename_i p hp
    cases hb : p.1.free (tok o.dst) with
    | false => rw [hb] at h; cases h
    | true =>
     rw [hb] at h
     cases h
     have : wr o σ = [] := by unfold wr; rw [ho]
     rw [this]
     simp only [Option.bind_eq_some_iff] at hp
     obtain ⟨c, hc, hp⟩ := hp
     exact bHu M ho hc hp hb
   cases h
  cases h
 ·rename_i t len parts ho
  split at h
  ·rename_i ti ht
   split at h
   ·rename_i hk
    split at h
    ·rename_i p hp
     cases hb : (σ.free (tok o.dst) && Nat.ble (len * ti.er.n) 16777216) with
     | false => rw [hb] at h; cases h
     | true =>
      rw [hb] at h
      cases h
      simp only [Bool.and_eq_true] at hb
      have : wr o σ = [] := by unfold wr; rw [ho]
      rw [this]
      exact aP5 hT M ho ht hk hp hb.1 hb.2
    cases h
   cases h
  cases h
 ·rename_i t l c ho
  split at h
  ·rename_i ti ht
   split at h
   ·rename_i k m k' n hk hl hc
    cases hb : σ.free (tok o.dst) with
    | false => rw [hb] at h; cases h
    | true =>
     rw [hb] at h
     simp only [cond_true] at h
     split at h
     ·rename_i z hz
      simp only [OR.one.injEq] at h
      obtain ⟨h1, rfl⟩ := h
      have : wr o σ = [] := by unfold wr; rw [ho]
      rw [this]
      exact bGl hT M ho ht hk hl hc hb hz h1
     ·cases h
   cases h
  cases h
 ·rename_i t x ho
  split at h
  ·rename_i ti ht
   split at h
   ·rename_i v hv
    cases hb : Nat.blt 0 ti.n with
    | false => rw [hb] at h; cases h
    | true =>
     rw [hb] at h
     cases h
     have : wr o σ = [] := by unfold wr; rw [ho]
     rw [this]
     exact bGm hT M ho ht (Nat.le_of_ble_eq_true hb) hv
   cases h
  cases h
 ·rename_i t x y ho
  split at h
  ·rename_i ti ht
   split at h
   ·rename_i p hp
    split at h
    ·rename_i σ1 hs
     cases h
     exact bD7 hT M ho ht hp hs
    cases h
   cases h
  cases h
 ·rename_i as ts ho
  split at h
  ·rename_i s x t t' has hts
   split at h
   ·rename_i ti ti' ht ht'
    split at h
    ·rename_i hk hk'
     cases hb : Nat.beq t t' with
     | false => rw [hb] at h; cases h
     | true =>
      rw [hb] at h
      have e := Nat.eq_of_beq_eq_true hb
      subst e
      simp only [cond_true] at h
      exact bBt hT M ho has hts ht hk h rfl
    cases h
   cases h
  cases h
 ·rename_i fn as ts ho
  exfalso
  exact aR9 h
 ·rename_i s t x ho
  split at h
  ·rename_i ts ti hs ht
   split at h
   ·rename_i xs hsk hk hx
    split at h
    ·rename_i te hte
     split at h
     ·rename_i hek
      cases h
      have : wr o σ = [] := by unfold wr; rw [ho]
      rw [this]
      exact bEd hT M ho hs ht hsk hk hte hek hx
     cases h
    cases h
   cases h
  cases h
 cases h
end
end Ab
end
section
namespace Ab
open Go
section
variable {P : Program} {E : Env} {C : Cx} {σ : St} {ρ : Nat → Loc} {pr : dU} {f : Nat → Value} {w : World} {a : Act} {o : Oper} {g : Nat → Value}
theorem aJj (M : Mo C σ ρ pr (fa g a) w) : ∀ l : List Operand, Rp σ.obj ρ w pr (aJk σ l) (l.map a.eval)
 | [] => rfl
 | x :: l => ⟨_, _, rfl, dZ M x, aJj M l⟩
theorem bIu {fn : Nat} {first caps : Array Operand} (M : Mo C σ ρ pr (fa g a) w) (ho : o.op = .makeFunc (.func fn) first caps) (h0 : first.toList = []) : DoneR P C g o a w (σ.setd o.dst (.fn fn (aJk σ caps.toList))) := by
 have : first = #[] := by apply Array.ext'; simpa using h0
 subst this
 refine DoneR.value (v := .func (.func fn) #[] (caps.map a.eval)) (fun u => ?_) M ⟨caps.toList.map a.eval, ?_, aJj M _⟩
 ·unfold execOp; simp only [ho]; refine cZ _ ?_; simp [Instr.makeFunc]
 rw [← Array.toList_map]
theorem aWq {pr' : dU} {xt : Nat} {v : SV} {x : Value} (hp : PrLe w pr w pr') (ho : ∀ k o, σ.obj k = some o → RO σ.obj ρ w pr k o) (q : Rp σ.obj ρ w pr v [x]) :
  ∀ {t : Ty} {y : t.T} {l : List Nat}, bE0 σ xt v t = some (y, l) → Fz σ ρ pr' l → Rep w pr' t y [.iface xt x]
 | .alt t g r s, y, l, h, hz => by
  unfold bE0 at h
  cases hb : Nat.beq t xt with
  | true =>
   have e := Nat.eq_of_beq_eq_true hb
   subst e
   rw [hb] at h
   simp only [cond_true] at h
   cases g with
   | true =>
    simp only at h
    split at h
    ·simp only [Option.bind_eq_some_iff] at h
     obtain ⟨p, hp', h2⟩ := h
     cases h2
     obtain ⟨cs, hv, _, q1⟩ := q
     simp only [List.cons.injEq, and_true] at hv
     exact ⟨cs, aFr hp ho hp' q1 hz, rfl, by rw [hv]; rfl⟩
    ·cases h
   | false =>
    simp only at h
    cases hr : r.one with
    | false => rw [hr] at h; cases h
    | true =>
     rw [hr] at h
     simp only [cond_true, Option.bind_eq_some_iff] at h
     obtain ⟨p, hp', h2⟩ := h
     cases h2
     exact ⟨[x], kK hp ho hp' q hz, rfl, rfl⟩
  | false =>
   rw [hb] at h
   simp only [cond_false, Option.bind_eq_some_iff] at h
   obtain ⟨p, hp', h2⟩ := h
   cases h2
   exact ⟨fun _ => aWq hp ho q hp' hz, .inr ⟨xt, x, rfl⟩⟩
 | .ern, y, l, h, hz => by
  cases h
  exact .inr ⟨rfl, xt, x, rfl⟩
 | .noi, _, _, h, _ | .int _, _, _, h, _ | .bool, _, _, h, _ | .str, _, _, h, _ | .sl _, _, _, h, _ | .nil, _, _, h, _ | .cons _ _, _, _, h, _ => by cases h
theorem bGv {t : Ty} (h : t.isI = true) : t.one = true := by cases t <;> first | rfl | cases h
theorem uS {t : Nat} {ti : TI} (I : aDh P t ti) (u : World) : (underlying t).run P u = .ok I.d u := run_underlying I.hu u
theorem bEb {xt : TypeId} {x : Operand} {tx ti : TI} {p : ti.er.T × List Nat} (hT : TTok P E.tt) (M : Mo C σ ρ pr (fa g a) w) (ho : o.op = .makeInterface xt x) (ht : E.tt xt = some tx) (hi : ti.er.isI = true) (hx : tx.isInt = false)
  (h : bE0 σ xt (σ.ev x) ti.er = some p) : DoneR P C g o a w ((σ.freezes p.2).setd o.dst (.val ti.er p.1)) := by
 obtain ⟨I⟩ := hT.info ht
 have hd := aR4 I.hd hx
 obtain ⟨pr', M', hle, _, hz⟩ := M.freezes p.2
 refine DoneR.value (v := .iface xt (a.eval x)) (fun u => ?_) M' ⟨bGv hi, aWq (y := p.1) (l := p.2) hle M.hp (dZ M x) h hz⟩
 unfold execOp; simp only [ho]
 refine cZ _ ?_
 unfold Instr.makeInterface
 simp only [Sem.run_bind, uS I, Result.andThen]
 generalize I.d = d at hd
 cases d <;> first | rfl | exact absurd rfl (hd _)
theorem bAa {x : Nat} {v : Value} : ∀ {s : Ty} {y : s.T}, s.isI = true → s.iok = true → s.hasT x = false → Rep w pr s y [v] → v = .nilIface ∨ ∃ t u, v = .iface t u ∧ t ≠ x
 | .noi, _, _, _, _, q => by
  have : [v] = [.nilIface] := q
  exact .inl (by simpa using this)
 | .alt t g r s, .inl y, _, hk, hn, q => by
  obtain ⟨cs, _, _, hv⟩ := q
  simp only [Ty.hasT, Bool.or_eq_false_iff] at hn
  simp only [List.cons.injEq, and_true] at hv
  exact .inr ⟨t, _, hv, fun e => by rw [e, Nat.beq_refl] at hn; cases hn.1⟩
 | .alt t g r s, .inr y, _, hk, hn, q => by
  simp only [Ty.hasT, Bool.or_eq_false_iff] at hn
  simp only [Ty.iok, Bool.and_eq_true] at hk
  exact bAa (s := s) hk.1 hk.2 hn.2 (q.1 hk.1)
 | .ern, _, _, _, h, _ | .int _, _, h, _, _, _ | .bool, _, h, _, _, _ | .str, _, h, _, _, _ | .sl _, _, h, _, _, _ | .nil, _, h, _, _, _ | .cons _ _, _, h, _, _, _ => by cases h
theorem bHk {x : Nat} : ∀ {t : Ty} {q : Asd}, asT x t t.z = some q → q.ok = false ∧ q.y = q.r.z
 | .alt t g r s, q, h => by
  unfold asT at h
  cases hb : Nat.beq t x with
  | true =>
   rw [hb] at h
   simp only [cond_true] at h
   cases hh : s.hasT x with
   | true => rw [hh] at h; cases h
   | false => rw [hh] at h; cases h; exact ⟨rfl, rfl⟩
  | false =>
   rw [hb] at h
   exact bHk (t := s) h
 | .noi, _, h | .ern, _, h | .int _, _, h | .bool, _, h | .str, _, h | .sl _, _, h | .nil, _, h | .cons _ _, _, h => by cases h
theorem bAt {x : Nat} {v : Value} : ∀ {t : Ty} {y : t.T} {q : Asd}, asT x t y = some q → t.iok = true → Rep w pr t y [v] →
  (q.ok = true ∧ ∃ cs, v = .iface x (pay q.g cs) ∧ Rep w pr q.r q.y cs ∧ aRi q.g cs = true) ∨ (q.ok = false ∧ q.y = q.r.z ∧ (v = .nilIface ∨ ∃ t u, v = .iface t u ∧ t ≠ x))
 | .alt t g r s, y, q, h, hk, hq => by
  unfold asT at h
  simp only [Ty.iok, Bool.and_eq_true] at hk
  cases hb : Nat.beq t x with
  | true =>
   have e := Nat.eq_of_beq_eq_true hb
   subst e
   rw [hb] at h
   simp only [cond_true] at h
   cases hh : s.hasT t with
   | true => rw [hh] at h; cases h
   | false =>
    rw [hh] at h
    simp only [cond_false, Option.some.injEq] at h
    subst h
    cases y with
    | inl y =>
     obtain ⟨cs, h1, h2, h3⟩ := hq
     simp only [List.cons.injEq, and_true] at h3
     exact .inl ⟨rfl, cs, h3, h1, h2⟩
    | inr y => exact .inr ⟨rfl, rfl, bAa hk.1 hk.2 hh (hq.1 hk.1)⟩
  | false =>
   rw [hb] at h
   simp only [cond_false] at h
   cases y with
   | inl y =>
    obtain ⟨h1, h2⟩ := bHk h
    obtain ⟨cs, _, _, h3⟩ := hq
    simp only [List.cons.injEq, and_true] at h3
    exact .inr ⟨h1, h2, .inr ⟨t, _, h3, fun e => by rw [e, Nat.beq_refl] at hb; cases hb⟩⟩
   | inr y => exact bAt h hk.2 (hq.1 hk.1)
 | .noi, _, _, h, _, _ | .ern, _, _, h, _, _ | .int _, _, _, h, _, _ | .bool, _, _, h, _, _ | .str, _, _, h, _, _ | .sl _, _, _, h, _, _ | .nil, _, _, h, _, _ | .cons _ _, _, _, h, _, _ => by cases h
theorem aYd {h : Hp} {g : Bool} {r : Ty} {y : r.T} {cs : List Value} (hb : aYe g r = true) (q : Rep w pr r y cs) (ok : aRi g cs = true) : Rp h ρ w pr (aJ2 g r y) [pay g cs] := by
 cases g with
 | true => exact ⟨cs, rfl, q.oneCell, (Rep.svs hb q).1⟩
 | false =>
  have hl := Nat.eq_of_beq_eq_true (show Nat.beq cs.length 1 = true from ok)
  match cs, hl with
  | [v], _ => exact ⟨hb, q⟩
theorem bCd {t : Nat} {ti : TI} (I : aDh P t ti) (hn : ti.rw.isNil = false) : I.z = pay ti.ag (aAk ti.rw) ∧ aRi ti.ag (aAk ti.rw) = true := by
 obtain ⟨h1, h2⟩ := I.hw hn
 rw [h2]
 generalize I.z = z at h1
 cases z with
 | agg xs => exact ⟨by rw [← h1]; simp [pay, aKh, Value.cells], rfl⟩
 | _ => rw [← h1]; exact ⟨rfl, rfl⟩
theorem bBs {x : Operand} {xt at_ : TypeId} {ta : TI} {t : Ty} {y : t.T} {q : Asd} (hT : TTok P E.tt) (M : Mo C σ ρ pr (fa g a) w) (ho : o.op = .typeAssert x xt at_ true) (ht : E.tt at_ = some ta) (hx : σ.ev x = .val t y)
  (h : asT at_ t y = some q) (hk : t.iok = true) (hr : q.r.eq ta.rw = true) (hg : bEq ta.ag q.g = true) (hb : aYe q.g q.r = true) (hn : q.r.isNil = false) (hi : ta.isInt = false) :
  DoneR P C g o a w (σ.setd o.dst (.tup (.cons (aJ2 q.g q.r q.y) (.cons (.val .bool q.ok) .nil)))) := by
 obtain ⟨I⟩ := hT.info ht
 have hd := aR4 I.hd hi
 have hr := Ty.eq_eq hr
 have hg := aUm hg
 have qx := dZ M x
 rw [hx] at qx
 have hrun : ∀ v ok, (∀ u, (Instr.typeAssert (a.eval x) xt at_ true).run P u = .ok (.tuple #[v, .bool ok]) u) → Rp σ.obj ρ w pr (aJ2 q.g q.r q.y) [v] → ok = q.ok →
   DoneR P C g o a w (σ.setd o.dst (.tup (.cons (aJ2 q.g q.r q.y) (.cons (.val .bool q.ok) .nil)))) := by
  intro v ok hv q1 hok
  subst hok
  refine DoneR.value (v := .tuple #[v, .bool q.ok]) (fun u => ?_) M ⟨[v, .bool q.ok], rfl, v, _, rfl, q1, _, _, rfl, ⟨rfl, rfl⟩, rfl⟩
  unfold execOp; simp only [ho]
  exact cZ _ (hv u)
 have hzv : ∀ u, (zeroValue at_).run P u = .ok I.z u := fun u => by simp [zeroValue, typeInfo, I.hi, I.hz]
 rcases bAt h hk qx.2 with ⟨h1, cs, h2, h3, h4⟩ | ⟨h1, h2, h3⟩
 ·refine hrun (pay q.g cs) true (fun u => ?_) (aYd hb h3 h4) h1.symm
  unfold Instr.typeAssert
  simp only [Sem.run_bind, uS I, Result.andThen, h2]
  generalize I.d = d at hd
  cases d <;> first | (exact absurd rfl (hd _)) | (simp only [if_true]; rfl)
 obtain ⟨z1, z2⟩ := bCd I (by rw [← hr]; exact hn)
 refine hrun I.z false (fun u => ?_) ?_ h1.symm
 ·unfold Instr.typeAssert
  simp only [Sem.run_bind, uS I, Result.andThen]
  rcases h3 with h3 | ⟨t', u', h3, hne⟩
  ·rw [h3]
   generalize I.d = d at hd
   cases d <;> first | (exact absurd rfl (hd _)) | (simp only [if_true, Sem.run_bind, hzv, Result.andThen, Sem.run_pure])
  rw [h3]
  generalize I.d = d at hd
  cases d <;> first | (exact absurd rfl (hd _)) | (simp only [hne, if_false, if_true, Sem.run_bind, hzv, Result.andThen, Sem.run_pure])
 rw [z1, h2, hg]
 rw [hg] at z2
 refine aYd hb ?_ z2
 rw [← hr]; exact Rep.z w pr q.r
theorem aHh {v : Value} : ∀ {t : Ty} {y : t.T}, t.iok = true → Rep w pr t y [v] → (uW t y = true ∧ v = .nilIface) ∨ (uW t y = false ∧ ∃ t u, v = .iface t u)
 | .noi, _, _, q => by
  have : [v] = [.nilIface] := q
  exact .inl ⟨rfl, by simpa using this⟩
 | .alt t g r s, .inl y, hk, q => by
  obtain ⟨cs, _, _, hv⟩ := q
  simp only [List.cons.injEq, and_true] at hv
  exact .inr ⟨rfl, t, _, hv⟩
 | .alt t g r s, .inr y, hk, q => by
  simp only [Ty.iok, Bool.and_eq_true] at hk
  exact aHh (t := s) hk.2 (q.1 hk.1)
 | .ern, b, _, q => by
  rcases q with ⟨rfl, h⟩ | ⟨rfl, t, u, h⟩
  ·simp only [List.cons.injEq, and_true] at h
   exact .inl ⟨rfl, h⟩
  ·simp only [List.cons.injEq, and_true] at h
   exact .inr ⟨rfl, t, u, h⟩
 | .int _, _, h, _ | .bool, _, h, _ | .str, _, h, _ | .sl _, _, h, _ | .nil, _, h, _ | .cons _ _, _, h, _ => by cases h
theorem bF1 {t : Nat} {ti : TI} (I : aDh P t ti) (hk : ti.k = .iface) {v : Value} {b : Bool} (hv : (b = true ∧ v = .nilIface) ∨ (b = false ∧ ∃ t u, v = .iface t u)) (u : World) : (Op.equal t v .nilIface).run P u = .ok b u := by
 obtain ⟨ms, hd⟩ := aZw I.hd hk
 have hu := I.hu; rw [hd] at hu
 have e0 : Op.equal t v .nilIface = Op.equalIn (9999 + 1) t v .nilIface := rfl
 rw [e0, Op.equalIn]
 simp only [Sem.run_bind, run_underlying hu, Result.andThen]
 rcases hv with ⟨rfl, rfl⟩ | ⟨rfl, t', u', rfl⟩ <;> rfl
theorem aK8 {op : BinOp} {t t' : TypeId} {ti : TI} {x : Operand} {ty : Ty} {z : ty.T} (hT : TTok P E.tt) (M : Mo C σ ρ pr (fa g a) w) (ho : o.op = .binOp op t x (.const .nilIface) t') (ht : E.tt t = some ti) (hk : ti.k = .iface) (hx : σ.ev x = .val ty z) (hi : ty.iok = true) {b : Bool}
  (hop : (op = .eql ∧ b = uW ty z) ∨ (op = .neq ∧ b = !(uW ty z))) : DoneR P C g o a w (σ.setd o.dst (.val .bool b)) := by
 obtain ⟨I⟩ := hT.info ht
 have qx := dZ M x
 rw [hx] at qx
 have hn := aHh hi qx.2
 refine DoneR.value (v := .bool b) (fun u => ?_) M ⟨rfl, rfl⟩
 have he := bF1 I hk hn u
 have hc : a.eval (.const .nilIface) = .nilIface := rfl
 have hg : ∀ op, (eqGuard op t x (.const .nilIface) (a.eval x) .nilIface).run P u = .ok () u := by
  intro op
  unfold eqGuard
  rcases hn with ⟨_, h⟩ | ⟨_, _, _, h⟩
  ·rw [h]; cases op <;> cases x <;> rfl
  ·rw [h]; cases op <;> rfl
 unfold execOp; simp only [ho, hc]
 refine cZ _ ?_
 simp only [Sem.run_bind, hg, Result.andThen]
 rcases hop with ⟨rfl, rfl⟩ | ⟨rfl, rfl⟩
 ·rcases hn with ⟨_, h⟩ | ⟨_, _, _, h⟩ <;> (rw [h] at he ⊢; simp only [binOp, Sem.run_bind, he, Result.andThen, Sem.run_pure])
 rcases hn with ⟨_, h⟩ | ⟨_, _, _, h⟩ <;> (rw [h] at he ⊢; simp only [binOp, Sem.run_bind, he, Result.andThen, Sem.run_pure])
theorem bGr {v : SV} {x : Value} {b : Bool} (M : Mo C σ ρ pr f w) (h : bGs σ v = some b) (q : Rp σ.obj ρ w pr v [x]) : ∃ A n c, x = .slice A n c ∧ (b = false → A.isNone = false) := by
 have hrep : ∀ {r : Ty} {xs : List r.T}, Rep w pr (.sl r) xs [x] → b = Nat.beq xs.length 0 → ∃ A n c, x = .slice A n c ∧ (b = false → A.isNone = false) := by
  intro r xs h1 hb
  obtain ⟨A, c, e1, _, _, e4⟩ := h1
  simp only [List.cons.injEq, and_true] at e1
  refine ⟨A, _, c, e1, fun hf => ?_⟩
  rcases e4 with e4 | ⟨b', o', hA, _⟩
  ·rw [hb, e4] at hf; cases hf
  ·rw [hA]; rfl
 unfold bGs at h
 split at h
 ·cases h; exact hrep q.2 rfl
 ·rename_i k
  obtain ⟨_, hv⟩ := q
  simp only [List.cons.injEq, and_true] at hv
  split at h
  ·rename_i e r xs hob
   cases h
   obtain ⟨_, _, cells, c1, _⟩ := M.hp k _ hob
   rcases c1.2 with ⟨hh, hn⟩ | ⟨g, cap, cur, hh, _⟩
   ·exact ⟨none, 0, 0, by rw [hv, hh], fun hf => by rw [hn] at hf; cases hf⟩
   exact ⟨_, _, _, by rw [hv, hh], fun _ => rfl⟩
  ·rename_i r xs hob
   cases h
   have := M.hp k _ hob
   rw [show (Obj.ro r xs) = Obj.ro r xs from rfl] at this
   exact hrep (xs := xs) (by rw [hv]; exact this) rfl
  cases h
 cases h
theorem aVz {op : BinOp} {t t' : TypeId} {ti : TI} {x : Operand} {b neg : Bool} (hT : TTok P E.tt) (M : Mo C σ ρ pr (fa g a) w) (ho : o.op = .binOp op t x (.const (.slice none 0 0)) t') (ht : E.tt t = some ti) (hk : ti.k = .slice) (hx : bGs σ (σ.ev x) = some b)
  (hop : (op = .eql ∧ neg = false) ∨ (op = .neq ∧ neg = true)) : DoneR P C g o a w (σ.setd o.dst (.mb neg b)) := by
 obtain ⟨I⟩ := hT.info ht
 obtain ⟨hd, _⟩ := kQ I.hd hk
 have hu := I.hu; rw [hd] at hu
 obtain ⟨A, n, c, hv, hA⟩ := bGr M hx (dZ M x)
 have he : ∀ u, (Op.equal t (.slice A n c) (.slice none 0 0)).run P u = .ok A.isNone u := by
  intro u
  have e0 : Op.equal t (.slice A n c) (.slice none 0 0) = Op.equalIn (9999 + 1) t (.slice A n c) (.slice none 0 0) := rfl
  rw [e0, Op.equalIn]
  simp only [Sem.run_bind, run_underlying hu, Result.andThen]
  cases A <;> rfl
 refine DoneR.value (v := .bool (A.isNone != neg)) (fun u => ?_) M ⟨A.isNone, rfl, hA⟩
 have hc : a.eval (.const (.slice none 0 0)) = .slice none 0 0 := rfl
 unfold execOp; simp only [ho, hc, hv]
 refine cZ _ ?_
 rcases hop with ⟨rfl, rfl⟩ | ⟨rfl, rfl⟩
 ·simp only [eqGuard, binOp, Sem.run_bind, ite_self, Sem.run_pure, Result.andThen, he]
  cases A <;> rfl
 simp only [eqGuard, binOp, Sem.run_bind, ite_self, Sem.run_pure, Result.andThen, he]
 cases A <;> rfl
theorem aV0 {t : TypeId} {ti : TI} {x : Operand} {k n : Nat} (hT : TTok P E.tt) (M : Mo C σ ρ pr (fa g a) w) (ho : o.op = .slice t x none none none) (ht : E.tt t = some ti) (hk : ti.k = .arr n) (hx : σ.ev x = .arp k n) (hn : 0 < n) : DoneR P C g o a w (σ.setd o.dst (.hd k)) := by
 obtain ⟨I⟩ := hT.info ht
 obtain ⟨hd, i, hi, hs⟩ := aJg I.hd hk
 have hu := I.hu; rw [hd] at hu
 have qx := dZ M x
 rw [hx] at qx
 obtain ⟨h1, h2, h3⟩ := qx
 simp only [List.cons.injEq, and_true] at h3
 refine DoneR.value (v := .slice (some ⟨(ρ k).blk, 0, none⟩) n n) (fun u => ?_) M ⟨h1, by rw [h2]⟩
 unfold execOp; simp only [ho, h3]
 refine cZ _ ?_
 have : ¬ n = 0 := by omega
 simp [Instr.sliceAt, run_underlying hu, Instr.sureAddr, Instr.sliceBounds, Go.sizeOf, typeInfo, hi, this, Addr.add_lit]
theorem Rows.take {r : Ty} {xs : List r.T} {cs : List Value} (h : Ab.Rows w pr r xs cs) (n : Nat) : Ab.Rows w pr r (xs.take n) (cs.take (n * r.n)) := by
 intro i x hx
 rw [List.getElem?_take] at hx
 split at hx
 ·rename_i hi
  have := h i x hx
  have hfit : i * r.n + r.n ≤ n * r.n := by rw [← Nat.succ_mul]; exact Nat.mul_le_mul_right _ hi
  rw [List.drop_take, List.take_take, Nat.min_eq_left (by omega)]
  exact this
 cases hx
theorem bD6 {t : TypeId} {ti : TI} {x : Operand} {n : Nat} {r : Ty} {xs : List r.T} {σ' : St} (hT : TTok P E.tt) (M : Mo C σ ρ pr (fa g a) w) (ho : o.op = .sliceToArrayPointer t x) (ht : E.tt t = some ti) (hk : ti.k = .arr n) (hx : σ.asData (σ.ev x) = (σ', .val (.sl r) xs)) (hn : 0 < n) (hle : n ≤ xs.length) :
  DoneR P C g o a w (σ'.setd o.dst (.rap r n (xs.take n))) := by
 obtain ⟨I⟩ := hT.info ht
 obtain ⟨hd, _⟩ := aJg I.hd hk
 have hu := I.hu; rw [hd] at hu
 obtain ⟨pr', M', q, _⟩ := M.asData hx (dZ M x)
 have q := q.2
 obtain ⟨A', c', hv', hc⟩ := aFs q
 obtain ⟨A, c, e1, _, _, e4⟩ := q
 simp only [List.cons.injEq, and_true] at e1
 rw [e1] at hv'
 simp only [Value.slice.injEq, true_and] at hv'
 obtain ⟨rfl, rfl⟩ := hv'
 rcases e4 with e4 | ⟨b, ofs, hA, hpb, _⟩
 ·omega
 rcases hc with e4 | ⟨ad, cells, hA', hl, hrd, hrows, h1⟩
 ·omega
 rw [hA] at hA'
 cases hA'
 refine DoneR.value (v := .pointer (some ⟨b, ofs, none⟩)) (fun u => ?_) M' ⟨b, ofs, cells.take (n * r.n), rfl, by rw [hpb]; rfl, by simp; omega, ?_, fun v hv => h1 v (List.mem_of_mem_take hv), ?_, Rows.take hrows n⟩
 ·unfold execOp; simp only [ho, e1, hA]
  refine cZ _ ?_
  have : ¬ xs.length < n := by omega
  simp [Instr.arrayAt, run_underlying hu, this]
 ·have := Nat.mul_le_mul_right r.n hle
  rw [List.length_take]; omega
 exact Rd.take fun j v hj => by simpa [Addr.add_lit] using hrd j v hj
theorem aCa {t : TypeId} {ti : TI} {x y : Operand} {n : Nat} {k : IntKind} {j : Int} {b ofs : Nat} (hT : TTok P E.tt) (ho : o.op = .indexAddr t x y) (ht : E.tt t = some ti) (hk : ti.k = .arr n) (hx : a.eval x = .pointer (some ⟨b, ofs, none⟩)) (hy : a.eval y = .int k j) (h0 : 0 ≤ j) (h1 : j < (n : Int)) (u : World) :
  (execOp a.eval o).run P u = .ok (.value (.pointer (some ⟨b, ofs + j.toNat * ti.er.n, none⟩))) u := by
 obtain ⟨I⟩ := hT.info ht
 obtain ⟨hd, i, hi, hs⟩ := aJg I.hd hk
 have hu := I.hu; rw [hd] at hu
 unfold execOp; simp only [ho, hx, hy]
 refine cZ _ ?_
 simp [Instr.indexAt, run_underlying hu, asIntOf, h0, h1, Go.sizeOf, typeInfo, hi, hs, Addr.add_lit, Instr.sureAddr]
theorem aUo {k n e : Nat} {r : Ty} {xs : List r.T} (M : Mo C σ ρ pr f w) (hob : σ.obj k = some (.chunk e r xs)) (hh : (ρ k).hdr = .slice (some ⟨(ρ k).blk, 0, none⟩) n n) : xs.length = n := by
 obtain ⟨_, _, cells, c1, _⟩ := M.hp k _ hob
 rcases c1.2 with ⟨h, _⟩ | ⟨g, cap, cur, h, _⟩
 ·rw [hh] at h; cases h
 rw [hh] at h
 simp only [Value.slice.injEq] at h
 exact h.2.1.symm
theorem aZa {t : TypeId} {ti : TI} {x y : Operand} {n : Nat} {q : IntKind} {j : Int} {k e : Nat} {r : Ty} {xs : List r.T} (hT : TTok P E.tt) (M : Mo C σ ρ pr (fa g a) w) (ho : o.op = .indexAddr t x y) (ht : E.tt t = some ti) (hk : ti.k = .arr n) (hy : σ.ev y = .val (.int q) j)
  (hx : σ.ev x = .arp k n) (hob : σ.obj k = some (.chunk e r xs)) (hr : r.n = ti.er.n) (hb : inb j n = true) : DoneR P C g o a w (σ.setd o.dst (.elp k j 0)) := by
 have qy := dZ M y
 rw [hy] at qy
 have qx := dZ M x
 rw [hx] at qx
 obtain ⟨h1, h2, h3⟩ := qx
 simp only [List.cons.injEq, and_true] at h3
 obtain ⟨i0, i1⟩ := aCt hb
 have hl := aUo M hob h2
 refine DoneR.value (aCa hT ho ht hk h3 (jZ qy) i0 i1) M ⟨by rw [hob]; rfl, _, rfl, fun e2 r2 ys hk2 => ?_⟩
 rw [hob] at hk2; cases hk2
 exact ⟨i0, by omega, by rw [hr, Nat.zero_add, Nat.add_zero]⟩
theorem aY5 {t : TypeId} {ti : TI} {x y : Operand} {n : Nat} {q : IntKind} {j : Int} {k off : Nat} {cs : SV} (hT : TTok P E.tt) (M : Mo C σ ρ pr (fa g a) w) (ho : o.op = .indexAddr t x y) (ht : E.tt t = some ti) (hk : ti.k = .arr n) (hy : σ.ev y = .val (.int q) j)
  (hx : σ.ev x = .ptr k off) (hob : σ.obj k = some (.var cs)) {m : Nat} (hr : m = ti.er.n) (hb : inb j n = true) : DoneR P C g o a w (σ.setd o.dst (.sgp k off m n j 0)) := by
 have qy := dZ M y
 rw [hy] at qy
 have qx := dZ M x
 rw [hx] at qx
 obtain ⟨h1, h3⟩ := qx
 simp only [List.cons.injEq, and_true] at h3
 obtain ⟨i0, i1⟩ := aCt hb
 exact DoneR.value (aCa hT ho ht hk h3 (jZ qy) i0 i1) M ⟨⟨_, hob⟩, i0, i1, by rw [hr, Nat.add_zero]⟩
theorem aY6 {t : TypeId} {ti : TI} {x y : Operand} {n : Nat} {q : IntKind} {j : Int} {r : Ty} {xs : List r.T} (hT : TTok P E.tt) (M : Mo C σ ρ pr (fa g a) w) (ho : o.op = .indexAddr t x y) (ht : E.tt t = some ti) (hk : ti.k = .arr n) (hy : σ.ev y = .val (.int q) j)
  (hx : σ.ev x = .rap r n xs) (hr : r.n = ti.er.n) (hb : inb j n = true) : DoneR P C g o a w (σ.setd o.dst (.rop r (iG r xs j))) := by
 have qy := dZ M y
 rw [hy] at qy
 have qx := dZ M x
 rw [hx] at qx
 obtain ⟨b, ofs, cs, h3, h4, h5, h6, h7, h8, h9⟩ := qx
 simp only [List.cons.injEq, and_true] at h3
 obtain ⟨i0, i1⟩ := aCt hb
 have hj : j.toNat < xs.length := by omega
 have hq := h9 _ _ (sF i0 (by omega : j < (xs.length : Int)))
 refine DoneR.value (aCa hT ho ht hk h3 (jZ qy) i0 i1) M ⟨b, _, _, rfl, h4, hq.len, ?_, hq⟩
 rw [← hr]
 exact Rd.take h8.drop
theorem aV1 {t : TypeId} {ti te : TI} {x y : Operand} {n : Nat} {q : IntKind} {j : Int} {r : Ty} {xs : List r.T} {v : SV} (hT : TTok P E.tt) (M : Mo C σ ρ pr (fa g a) w) (ho : o.op = .index t x y) (ht : E.tt t = some ti) (hk : ti.k = .arr n) (hy : σ.ev y = .val (.int q) j)
  (hx : σ.ev x = .agg (.seg r n xs .nil)) (hte : E.tt ti.el = some te) (h : (r.svs (iG r xs j)).read te.ag te.n = some v) (hr : r.n = ti.er.n) (hn : te.n = r.n) (hw : r.wf = true) (hpos : 0 < r.n) (hb : inb j n = true) : DoneR P C g o a w (σ.setd o.dst v) := by
 obtain ⟨I⟩ := hT.info ht
 obtain ⟨L⟩ := hT.info hte
 obtain ⟨hd, i, hi, hs⟩ := aJg I.hd hk
 have hu := I.hu; rw [hd] at hu
 have qy := dZ M y
 rw [hy] at qy
 have qx := dZ M x
 rw [hx] at qx
 obtain ⟨cs, hv, hone, c, d, hcs, hl, hcl, hrows, hd0⟩ := qx
 have hd0 : d = [] := hd0
 subst hd0
 rw [List.append_nil] at hcs
 subst hcs
 simp only [List.cons.injEq, and_true] at hv
 obtain ⟨i0, i1⟩ := aCt hb
 have hj : j.toNat < xs.length := by omega
 have hq := hrows _ _ (sF i0 (by omega : j < (xs.length : Int)))
 obtain ⟨qs, hsl⟩ := Rep.svs (h := σ.obj) (ρ := ρ) hw hq
 have hagg : ∀ u, (isAgg ti.el).run P u = .ok te.ag u := fun u => aJy L
 have hfit0 : j.toNat * r.n + r.n ≤ xs.length * r.n := by rw [← Nat.succ_mul]; exact Nat.mul_le_mul_right _ hj
 have hrun : ∀ v, (∀ u, (part ti.el cs.toArray (j.toNat * ti.er.n)).run P u = .ok v u) → ∀ u, (execOp a.eval o).run P u = .ok (.value v) u := by
  intro v hv' u
  unfold execOp; simp only [ho, hv, jZ qy]
  refine cZ _ ?_
  simp only [Instr.index, Sem.run_bind, asIntOf, Sem.run_pure, run_underlying hu, Result.andThen, i0, i1, and_self, if_true, Go.sizeOf, typeInfo, run_program, hi, hs, hv']
 have hin : i.size = te.n := by rw [hs, ← hr, hn]
 unfold SV.read at h
 cases hg : te.ag with
 | true =>
  rw [hg] at h
  simp only at h
  cases hb : Nat.ble te.n (r.svs (iG r xs j)).len with
  | false => rw [hb] at h; cases h
  | true =>
   rw [hb] at h; cases h
   obtain ⟨q1, hlen⟩ := qs.take te.n (Nat.le_of_ble_eq_true hb)
   refine DoneR.value (v := .agg ((((cs.drop (j.toNat * r.n)).take r.n)).take te.n).toArray) (hrun _ fun u => ?_) M ⟨_, rfl, fun v hv => hone v (List.mem_of_mem_drop (List.mem_of_mem_take (List.mem_of_mem_take hv))), q1⟩
   simp only [part, Sem.run_bind, hagg, hg, Result.andThen, if_true, Go.sizeOf, typeInfo, run_program, hi, Sem.run_pure]
   congr 2
   apply Array.ext'
   simp only [Array.toList_extract, List.extract_eq_take_drop, hs, hr, hn, List.take_take, Nat.min_self]
   first | rfl | (congr 2; omega) | (simp; done)
 | false =>
  rw [hg] at h
  simp only at h
  split at h
  ·rename_i u s' hc
   cases h
   rw [hc] at qs
   obtain ⟨v, d', hcs, q1, _⟩ := qs
   have hpart : cs[j.toNat * ti.er.n]? = some v := by
    have := congrArg (fun l => l[0]?) hcs
    rw [List.getElem?_take, hr, if_pos (by rw [← hr]; exact hpos), List.getElem?_drop] at this
    simpa using this
   refine DoneR.value (v := v) (hrun _ fun u => ?_) M q1
   simp only [part, Sem.run_bind, hagg, hg, Result.andThen, Bool.false_eq_true, if_false]
   simp [hpart]
  ·cases h
theorem aY4 {s : TypeId} {ti : TI} {x : Operand} {j : Nat} {p : Nat × Nat} {k q m n off : Nat} {i : Int} (hT : TTok P E.tt) (M : Mo C σ ρ pr (fa g a) w) (ho : o.op = .fieldAddr s x j) (ht : E.tt s = some ti) (hk : ti.k = .struct) (hp : aMf ti.fs j = some p) (hp2 : p.2 ≠ 0)
  (hx : σ.ev x = .sgp k q m n i off) : DoneR P C g o a w (σ.setd o.dst (.sgp k q m n i (off + p.1))) := by
 obtain ⟨I⟩ := hT.info ht
 obtain ⟨fs, hd, hsz, hfb, _⟩ := zU I.hd hk
 obtain ⟨fd, i', d, h1, h2, h3, h4, h5⟩ := wD hfb hp
 have hu := I.hu; rw [hd] at hu
 have hfj : fs[j]? = some fd := by simpa using h1
 have qx := dZ M x
 rw [hx] at qx
 obtain ⟨e1, e2, e3, e4⟩ := qx
 simp only [List.cons.injEq, and_true] at e4
 refine DoneR.value (v := .pointer (some ⟨(ρ k).blk, q + i.toNat * m + off + p.1, none⟩)) (fun u => ?_) M ⟨e1, e2, e3, by rw [Nat.add_assoc]⟩
 unfold execOp; simp only [ho, e4]
 refine cZ _ ?_
 simp [Instr.fieldAt, run_underlying hu, hfj, Instr.sureAddr, fieldPlace, Go.sizeOf, typeInfo, h3, h4, hp2, h2, Addr.add_lit]
theorem aCd {x : Operand} {sv : SV} (M : Mo C σ ρ pr (fa g a) w) (ho : o.op = .nilCheck x) (hx : σ.ev x = sv)
  (hs : (∃ k n, sv = .arp k n) ∨ (∃ k q m n i off, sv = .sgp k q m n i off) ∨ (∃ r n xs, sv = .rap r n xs)) : DoneR P C g o a w (σ.setd o.dst sv) := by
 have q := dZ M x
 rw [hx] at q
 refine DoneR.value (v := a.eval x) (fun u => ?_) M q
 have : ∃ ad, a.eval x = .pointer (some ad) := by
  rcases hs with ⟨k, n, rfl⟩ | ⟨k, q', m, n, i, off, rfl⟩ | ⟨r, n, xs, rfl⟩
  ·have := q.2.2; simp only [List.cons.injEq, and_true] at this; exact ⟨_, this⟩
  ·have := q.2.2.2; simp only [List.cons.injEq, and_true] at this; exact ⟨_, this⟩
  ·obtain ⟨b, ofs, cs, h, _⟩ := q; simp only [List.cons.injEq, and_true] at h; exact ⟨_, h⟩
 obtain ⟨ad, had⟩ := this
 unfold execOp; simp only [ho, had]; rfl
theorem aZf {ok : Bool} {σ' : St} (hT : TTok P E.tt) (M : Mo C σ ρ pr (fa g a) w) (h : bGn E o σ = some (ok, σ')) (hok : ok = true) : DoneR P C g o a w σ' := by
 subst hok
 unfold bGn at h
 split at h
 ·rename_i fn first caps ho
  split at h
  ·rename_i h0
   cases h
   exact bIu M ho h0
  cases h
 ·rename_i xt x ho
  split at h
  ·rename_i tx ti ht hti
   cases hb : (ti.er.isI && !tx.isInt) with
   | false => rw [hb] at h; cases h
   | true =>
    rw [hb] at h
    simp only [cond_true, Option.bind_eq_some_iff] at h
    obtain ⟨p, hp, h2⟩ := h
    cases h2
    simp only [Bool.and_eq_true, Bool.not_eq_true'] at hb
    exact bEb hT M ho ht hb.1 hb.2 hp
  cases h
 ·rename_i x xt at_ ho
  split at h
  ·rename_i ta t y ht hx
   split at h
   ·rename_i q hq
    cases hb : (t.iok && q.r.eq ta.rw && bEq ta.ag q.g && aYe q.g q.r && !q.r.isNil && !ta.isInt) with
    | false => rw [hb] at h; cases h
    | true =>
     rw [hb] at h
     cases h
     simp only [Bool.and_eq_true, Bool.not_eq_true'] at hb
     obtain ⟨⟨⟨⟨⟨b1, b2⟩, b3⟩, b4⟩, b5⟩, b6⟩ := hb
     exact bBs hT M ho ht hx hq b1 b2 b3 b4 b5 b6
   cases h
  cases h
 ·rename_i op t x y t' ho
  split at h
  ·rename_i ti ht
   split at h
   ·rename_i hk
    split at h
    ·rename_i ty z hx
     cases hb : ty.iok with
     | false => rw [hb] at h; cases h
     | true =>
      rw [hb] at h
      simp only [cond_true] at h
      split at h
      ·cases h; exact aK8 hT M ho ht hk hx hb (.inl ⟨rfl, rfl⟩)
      ·cases h; exact aK8 hT M ho ht hk hx hb (.inr ⟨rfl, rfl⟩)
      ·cases h
    cases h
   ·rename_i hk
    split at h
    ·rename_i b hb
     split at h
     ·cases h; exact aVz hT M ho ht hk hb (.inl ⟨rfl, rfl⟩)
     ·cases h; exact aVz hT M ho ht hk hb (.inr ⟨rfl, rfl⟩)
     cases h
    cases h
   cases h
  cases h
 ·rename_i t x ho
  split at h
  ·rename_i ti ht
   split at h
   ·rename_i n k m hk hx
    cases hb : (Nat.beq n m && Nat.blt 0 n) with
    | false => rw [hb] at h; cases h
    | true =>
     rw [hb] at h
     cases h
     simp only [Bool.and_eq_true] at hb
     have e := Nat.eq_of_beq_eq_true hb.1
     subst e
     exact aV0 hT M ho ht hk hx (Nat.le_of_ble_eq_true hb.2)
   cases h
  cases h
 ·rename_i t x ho
  split at h
  ·rename_i ti ht
   split at h
   ·rename_i n hk
    simp only at h
    split at h
    ·rename_i r xs hx
     cases hb : (Nat.beq r.n ti.er.n && Nat.blt 0 n) with
     | false => rw [hb] at h; cases h
     | true =>
      rw [hb] at h
      simp only [cond_true, Option.some.injEq, Prod.mk.injEq, decide_eq_true_eq] at h
      obtain ⟨h1, rfl⟩ := h
      simp only [Bool.and_eq_true] at hb
      exact bD6 (σ' := (σ.asData (σ.ev x)).1) hT M ho ht hk (Prod.ext rfl hx) (Nat.le_of_ble_eq_true hb.2) h1
    cases h
   cases h
  cases h
 ·rename_i t x y ho
  split at h
  ·rename_i ti ht
   split at h
   ·rename_i n q j hk hy
    split at h
    ·rename_i k m hx
     split at h
     ·rename_i e r xs hob
      cases hb : (Nat.beq m n && Nat.beq r.n ti.er.n && Nat.blt 1 n) with
      | false => rw [hb] at h; cases h
      | true =>
       rw [hb] at h
       simp only [cond_true, Option.some.injEq, Prod.mk.injEq] at h
       obtain ⟨h1, rfl⟩ := h
       simp only [Bool.and_eq_true] at hb
       have e := Nat.eq_of_beq_eq_true hb.1.1
       subst e
       exact aZa hT M ho ht hk hy hx hob (Nat.eq_of_beq_eq_true hb.1.2) h1
     cases h
    ·rename_i k off hx
     split at h
     ·rename_i cs hob
      split at h
      ·rename_i r m xs s hcs
       cases hb : (Nat.beq m n && Nat.beq r.n ti.er.n && Nat.blt 1 n) with
       | false => rw [hb] at h; cases h
       | true =>
        rw [hb] at h
        simp only [cond_true, Option.some.injEq, Prod.mk.injEq] at h
        obtain ⟨h1, rfl⟩ := h
        simp only [Bool.and_eq_true] at hb
        exact aY5 hT M ho ht hk hy hx hob (Nat.eq_of_beq_eq_true hb.1.2) h1
      cases h
     cases h
    ·rename_i r m xs hx
     cases hb : (Nat.beq m n && Nat.beq r.n ti.er.n && Nat.blt 1 n) with
     | false => rw [hb] at h; cases h
     | true =>
      rw [hb] at h
      simp only [cond_true, Option.some.injEq, Prod.mk.injEq] at h
      obtain ⟨h1, rfl⟩ := h
      simp only [Bool.and_eq_true] at hb
      have e := Nat.eq_of_beq_eq_true hb.1.1
      subst e
      exact aY6 hT M ho ht hk hy hx (Nat.eq_of_beq_eq_true hb.1.2) h1
    cases h
   cases h
  cases h
 ·rename_i t x y ho
  split at h
  ·rename_i ti ht
   split at h
   ·rename_i n q j r m xs hk hy hx
    split at h
    ·rename_i te hte
     split at h
     ·rename_i v hv
      cases hb : (Nat.beq m n && Nat.beq r.n ti.er.n && Nat.beq te.n r.n && r.wf && Nat.blt 0 r.n) with
      | false => rw [hb] at h; cases h
      | true =>
       rw [hb] at h
       simp only [cond_true, Option.some.injEq, Prod.mk.injEq] at h
       obtain ⟨h1, rfl⟩ := h
       simp only [Bool.and_eq_true] at hb
       obtain ⟨⟨⟨⟨b1, b2⟩, b3⟩, b4⟩, b5⟩ := hb
       have e := Nat.eq_of_beq_eq_true b1
       subst e
       exact aV1 hT M ho ht hk hy hx hte hv (Nat.eq_of_beq_eq_true b2) (Nat.eq_of_beq_eq_true b3) b4 (Nat.le_of_ble_eq_true b5) h1
     cases h
    cases h
   cases h
  cases h
 ·rename_i s x j ho
  split at h
  ·rename_i ti ht
   split at h
   ·rename_i p k q m n i off hk hp hx
    cases hb : Nat.beq p.2 0 with
    | true => rw [hb] at h; cases h
    | false =>
     rw [hb] at h
     cases h
     exact aY4 hT M ho ht hk hp (fun e => by rw [e] at hb; cases hb) hx
   cases h
  cases h
 ·rename_i x ho
  split at h
  ·rename_i k n hx
   cases h
   exact aCd M ho hx (.inl ⟨_, _, rfl⟩)
  ·rename_i k q m n i off hx
   cases h
   exact aCd M ho hx (.inr (.inl ⟨_, _, _, _, _, _, rfl⟩))
  ·rename_i r n xs hx
   cases h
   exact aCd M ho hx (.inr (.inr ⟨_, _, _, rfl⟩))
  cases h
 cases h
theorem aRj {ok : Bool} {σ' : St} (hT : TTok P E.tt) (M : Mo C σ ρ pr (fa g a) w) (h : opR E o σ = some (ok, σ')) (hok : ok = true) : DoneR P C g o a w σ' := by
 unfold opR at h
 split at h
 ·rename_i p hp
  cases h
  exact aZg hT M hp hok
 exact aZf hT M h hok
end
end Ab
end
section
namespace Ab
open Go
section
variable {P : Program} {E : Env} {C : Cx} {σ : St} {ρ : Nat → Loc} {pr : dU} {f : Nat → Value} {w : World} {a : Act} {o : Oper} {g : Nat → Value}
theorem aV2 {t : Nat} {ti : TI} {r : Ty} {n : Nat} (hT : TTok P E.tt) (M : Mo C σ ρ pr (fa g a) w) (ho : o.op = .alloc t) (ht : E.tt t = some ti) (hz : ti.z = [.a r n]) {j : Nat} (hf : σ.free j = true) (hr : 0 < r.n) (hn : n ≤ 1000000) :
  Done P C g o a σ ρ w [] ((σ.put j (.chunk t r (List.replicate n r.z))).setd o.dst (.arp j n)) := by
 obtain ⟨I⟩ := hT.info ht
 have hc := I.hc
 rw [hz] at hc
 simp only [aKp] at hc
 split at hc
 ·rename_i m' hm
  cases m' with
  | cons _ _ => cases hc
  | nil =>
   have hzc := aSi hm
   rw [List.append_nil] at hzc
   obtain ⟨l1, l2⟩ := aGw w pr r n
   have hrep : (List.replicate n r.z).length = n := by simp
   obtain ⟨ρ', M', q, _⟩ := M.addChunk (e := t) (xs := List.replicate n r.z) (arr := I.z.cells) hf hr (by rw [← Array.length_toList, hzc, l1, hrep]) (by rw [hrep]; simp only [maxLen]; omega) (by rw [hzc]; exact l2) (by rw [hzc]; exact aJo r n)
   obtain ⟨h1, hv⟩ := q
   rw [hrep] at hv
   simp only [List.cons.injEq, and_true] at hv
   have hobj : (σ.put j (.chunk t r (List.replicate n r.z))).obj j = some (.chunk t r (List.replicate n r.z)) := by rw [St.obj_put, if_pos rfl]
   have hblk := (M'.hp j _ hobj).2.1 w.heap.size (by rw [← hv]; rfl)
   refine Done.value (sv := .arp j n) (v := .pointer (some ⟨w.heap.size, 0, none⟩)) ?_ M' ⟨h1, by rw [← hv, hblk], by rw [hblk]⟩ (fun b hb _ => ((RowKit.Below.refl w.heap.size w).alloc (Nat.le_refl _) _).block b hb)
   unfold execOp; simp only [ho]
   refine cZ _ ?_
   simp [Instr.alloc, zeroValue, typeInfo, I.hi, I.hz, newVar, newRow]
 cases hc
theorem aRp (M : Mo C σ ρ pr f w) {t : Nat} {ti : TI} (I : aDh P t ti) {p v : SV} {x : Value} (hpos : 0 < ti.n) (h : aLl σ ti p = some v) (q : Rp σ.obj ρ w pr p [x]) :
  ∃ ad u, x = .pointer (some ad) ∧ (∀ w', w'.heap[ad.block]? = w.heap[ad.block]? → (loadVar t ad).run P w' = .ok u w') ∧ Rp σ.obj ρ w pr v [u] := by
 have whole : ∀ {b o n : Nat} {r : Ty} {xs : List r.T} {cs : List Value}, ti.ag = true → ti.n = n * r.n → xs.length = n → cs.length = n * r.n → Rd w b o cs → Ab.Rows w pr r xs cs → (∀ u ∈ cs, u.oneCell' = true) →
   ∃ u, (∀ w', w'.heap[b]? = w.heap[b]? → (loadVar t ⟨b, o, none⟩).run P w' = .ok u w') ∧ Rp σ.obj ρ w pr (.agg (.seg r n xs .nil)) [u] := by
  intro b o n r xs cs hag hn hl hc hrd hrows h1
  exact ⟨.agg cs.toArray, fun w' hw' => aEd I hag (by omega) (hrd.move hw'), cs, rfl, h1, cs, [], by simp, hl, hc, hrows, rfl⟩
 unfold aLl at h
 cases p with
 | arp k n =>
  obtain ⟨_, hh, hv⟩ := q
  simp only [List.cons.injEq, and_true] at hv
  simp only at h
  split at h
  ·rename_i m hk
   have hag : ti.ag = true := by unfold TI.ag; rw [hk]
   split at h
   ·rename_i e r xs hob
    cases hb : (Nat.beq m n && Nat.beq ti.n (n * r.n)) with
    | false => rw [hb] at h; cases h
    | true =>
     rw [hb] at h; cases h
     simp only [Bool.and_eq_true] at hb
     have hn := Nat.eq_of_beq_eq_true hb.2
     obtain ⟨_, hB, cells, c1, c2, c3⟩ := M.hp k _ hob
     have hl := aUo M hob hh
     have hrd : Rd w (ρ k).blk 0 cells := fun j v hj => by
      have := c1.cells (g := (ρ k).blk) (by rw [hh]; rfl) j v hj
      simpa [Addr.add_lit] using this
     obtain ⟨u, h1, h2⟩ := whole hag hn hl (by rw [c1.1, hl]) hrd c2 c3
     exact ⟨_, u, hv, h1, h2⟩
   ·rename_i r xs hob
    cases hb : (Nat.beq m n && Nat.beq ti.n (n * r.n)) with
    | false => rw [hb] at h; cases h
    | true =>
     rw [hb] at h; cases h
     simp only [Bool.and_eq_true] at hb
     have hn := Nat.eq_of_beq_eq_true hb.2
     have hro : Rep w pr (.sl r) xs [(ρ k).hdr] := M.hp k _ hob
     obtain ⟨A, c, e1, e2⟩ := aFs hro
     rw [hh] at e1
     simp only [Value.slice.injEq] at e1
     obtain ⟨rfl, hl, rfl⟩ := e1
     rcases e2 with e2 | ⟨ad, cells, hA, g1, g2, g3, g4⟩
     ·rw [hn, hl, e2] at hpos; simp at hpos
     ·cases hA
      obtain ⟨u, h1, h2⟩ := whole hag hn hl.symm (by rw [g1, ← hl]) (b := (ρ k).blk) (o := 0) (fun j v hj => by simpa [Addr.add_lit] using g2 j v hj) g3 g4
      exact ⟨_, u, hv, h1, h2⟩
   ·cases h
  ·cases h
 | rap r n xs =>
  obtain ⟨b, ofs, cs, hv, _, g1, g2, g3, g4, g5⟩ := q
  simp only [List.cons.injEq, and_true] at hv
  simp only at h
  split at h
  ·rename_i m hk
   have hag : ti.ag = true := by unfold TI.ag; rw [hk]
   cases hb : (Nat.beq m n && Nat.beq ti.n (n * r.n)) with
   | false => rw [hb] at h; cases h
   | true =>
    rw [hb] at h; cases h
    simp only [Bool.and_eq_true] at hb
    obtain ⟨u, h1, h2⟩ := whole hag (Nat.eq_of_beq_eq_true hb.2) g1 g2 g4 g5 g3
    exact ⟨_, u, hv, h1, h2⟩
  ·cases h
 | sgp k ofs m n i off =>
  obtain ⟨_, i0, i1, hv⟩ := q
  simp only [List.cons.injEq, and_true] at hv
  simp only at h
  split at h
  ·rename_i cs hob
   split at h
   ·rename_i r n' xs s hcs
    cases hb : (Nat.beq n' n && Nat.beq r.n m && r.wf && Nat.blt 0 r.n) with
    | false => rw [hb] at h; cases h
    | true =>
     rw [hb] at h
     simp only [cond_true] at h
     simp only [Bool.and_eq_true] at hb
     obtain ⟨⟨⟨b1, b2⟩, b3⟩, b4⟩ := hb
     have b1 := Nat.eq_of_beq_eq_true b1
     have b2 := Nat.eq_of_beq_eq_true b2
     have b4 : 0 < r.n := Nat.le_of_ble_eq_true b4
     subst b1; subst b2
     obtain ⟨arr, e, h1, h2, h3⟩ := M.hp k _ hob
     have hlen : 0 < (cs.drop ofs).len := by
      rw [hcs]; simp only [SV.len]
      have : r.n ≤ n' * r.n := Nat.le_mul_of_pos_left _ (by omega)
      omega
     have qd := h3.drop ofs (aE3 ofs hlen)
     rw [hcs] at qd
     obtain ⟨c, d, hcd, l1, l2, l3, _⟩ := qd
     have hrep := l3 _ _ (sF i0 (by omega : i < (xs.length : Int)))
     obtain ⟨q1, q2⟩ := Rep.svs (h := σ.obj) (ρ := ρ) b3 hrep
     have hd := aF4 h hpos
     have hrd0 := (Rd.var h1).drop (k := ofs)
     rw [hcd, Nat.zero_add] at hrd0
     have hrd1 : Rd w (ρ k).blk ofs c := fun j v hj => hrd0 j v (by rw [List.getElem?_append_left ((List.getElem?_eq_some_iff.1 hj).1)]; exact hj)
     have hone : ∀ v ∈ c, v.oneCell' = true := fun v hv => h2 v (List.mem_of_mem_drop (show v ∈ arr.toList.drop ofs by rw [hcd]; exact List.mem_append_left _ hv))
     obtain ⟨u, hu, qu⟩ := aIe (b := (ρ k).blk) (ofs := ofs + i.toNat * r.n + off) I h (q1.drop off hd) (fun v hv => hone v (List.mem_of_mem_drop (List.mem_of_mem_take (List.mem_of_mem_drop hv))))
     have hrd := ((hrd1.drop (k := i.toNat * r.n)).take (k := r.n)).drop (k := off)
     exact ⟨_, u, hv, fun w' hw' => hu w' (hrd.move hw'), qu⟩
   ·cases h
  ·cases h
 | _ => cases h
theorem bD9 {t : Nat} {ti : TI} {x : Operand} {v : SV} (hT : TTok P E.tt) (M : Mo C σ ρ pr (fa g a) w) (ho : o.op = .load t x) (ht : E.tt t = some ti) (hpos : 0 < ti.n) (h : aLl σ ti (σ.ev x) = some v) :
  Done P C g o a σ ρ w [] (σ.setd o.dst v) := by
 obtain ⟨I⟩ := hT.info ht
 obtain ⟨ad, u, hx, hr, q⟩ := aRp M I hpos h (dZ M x)
 refine Done.value ?_ M q (Same.refl _ _ _ _)
 unfold execOp; simp only [ho]
 refine cZ _ ?_
 simp only [Instr.loadAt, hx, Instr.sureAddr, Sem.run_bind, Sem.run_pure, Result.andThen, hr w rfl]
theorem aP4 {t : Nat} {ti : TI} {x : Operand} {v : SV} (hT : TTok P E.tt) (M : Mo C σ ρ pr (fa g a) w) (ho : o.op = .load t x) (ht : E.tt t = some ti) (hpos : 0 < ti.n) (h : aLl σ ti (σ.ev x) = some v) :
  ∃ ad u, a.eval x = .pointer (some ad) ∧ (∀ w', w'.heap[ad.block]? = w.heap[ad.block]? → (execOp a.eval o).run P w' = .ok (.value u) w') ∧ Mo C (σ.setd o.dst v) ρ pr (fd o.dst u (fa g a)) w := by
 obtain ⟨I⟩ := hT.info ht
 obtain ⟨ad, u, hx, hr, q⟩ := aRp M I hpos h (dZ M x)
 refine ⟨ad, u, hx, fun w' hw' => ?_, M.setd o.dst v u q⟩
 unfold execOp; simp only [ho]
 refine cZ _ ?_
 simp only [Instr.loadAt, hx, Instr.sureAddr, Sem.run_bind, Sem.run_pure, Result.andThen, hr w' hw']
theorem bG0 : ∀ (q : Nat) (s : SV), (s.drop q).len ≤ s.len - q := by
 intro q s
 induction s generalizing q with
 | cons a s _ ih =>
  cases q with
  | zero => simp [SV.drop]
  | succ q => simp only [SV.drop, SV.len]; have := ih q; omega
 | seg r m xs s ih =>
  cases q with
  | zero => simp [SV.drop]
  | succ q =>
   simp only [SV.drop]
   cases hb : Nat.ble (m * r.n) (q + 1) with
   | false => simp [SV.len]
   | true =>
    have hb := Nat.le_of_ble_eq_true hb
    simp only [cond_true, SV.len]
    have := ih (q + 1 - m * r.n); omega
 | _ => cases q <;> simp [SV.drop, SV.len]
theorem aX2 {r r' : Ty} {ys : List r.T} {zs : List r'.T} {cs : List Value} (h : Ty.cast (.sl r) (.sl r') ys = some zs) (q : Ab.Rows w pr r ys cs) : Ab.Rows w pr r' zs cs ∧ r.n = r'.n ∧ zs.length = ys.length := by
 obtain ⟨e, hz⟩ := aF9 h
 subst e; subst hz
 exact ⟨q, rfl, rfl⟩
theorem bBp {t : Nat} {ti : TI} {x y : Operand} {σ' : St} (hT : TTok P E.tt) (M : Mo C σ ρ pr (fa g a) w) (ho : o.op = .store t x y) (ht : E.tt t = some ti) (hs : aXz σ ti.n (σ.ev y) (σ.ev x) = some σ') :
  Done P C g o a σ ρ w (wr o σ) (σ'.setd o.dst .dead) := by
 obtain ⟨I⟩ := hT.info ht
 have qx := dZ M x
 have qy := dZ M y
 have hwr : wr o σ = match σ.ev x with | .ptr k _ | .elp k _ _ | .arp k _ | .sgp k _ _ _ _ _ => [k] | _ => [] := by unfold wr; rw [ho]; rfl
 have fin : ∀ {ad : Addr} {w' : World} {ρ' : Nat → Loc} {pr' : dU}, a.eval x = .pointer (some ad) → (storeVar t ad (a.eval y)).run P w = .ok () w' → Mo C σ' ρ' pr' (fa g a) w' → Same σ ρ w w' (wr o σ) → Done P C g o a σ ρ w (wr o σ) (σ'.setd o.dst .dead) := by
  intro ad w' ρ' pr' hx hr M' hs
  refine ⟨.skip, undef, w', ρ', pr', ?_, .inr ⟨rfl, rfl⟩, M'.setd o.dst .dead undef ⟨_, rfl⟩, hs⟩
  unfold execOp; simp only [ho]
  refine aNr _ ?_
  simp only [Instr.storeAt, hx, Instr.sureAddr, Sem.run_bind, Sem.run_pure, Result.andThen, hr]
 unfold aXz at hs
 cases hp : σ.ev x with
 | arp k m =>
  rw [hp] at hs qx hwr
  simp only at hs hwr
  obtain ⟨_, hh, hv⟩ := qx
  simp only [List.cons.injEq, and_true] at hv
  split at hs
  ·rename_i e r xs r' m' ys hk hy
   cases hb : (Nat.beq m m' && Nat.beq ti.n (m * r.n)) with
   | false => rw [hb] at hs; cases hs
   | true =>
    rw [hb] at hs
    simp only [cond_true, Option.bind_eq_some_iff] at hs
    obtain ⟨zs, hc, hs⟩ := hs
    cases hs
    simp only [Bool.and_eq_true] at hb
    have b1 := Nat.eq_of_beq_eq_true hb.1
    have b2 := Nat.eq_of_beq_eq_true hb.2
    subst b1
    rw [hy] at qy
    obtain ⟨cs, hv2, hone, c, d, hcd, l1, l2, l3, l4⟩ := qy
    have l4 : d = [] := l4
    subst l4
    rw [List.append_nil] at hcd
    subst hcd
    simp only [List.cons.injEq, and_true] at hv2
    obtain ⟨l5, l6, l7⟩ := aX2 hc l3
    obtain ⟨hr0, hB, cells, c1, c2, c3⟩ := M.hp k _ hk
    have hl := aUo M hk hh
    have hcl : cs.length = ti.n := by rw [l2, b2, l6]
    have hL : (a.eval y).cells.toList = cs := by rw [hv2]; simp [Value.cells]
    rcases c1.2 with ⟨h0, _⟩ | ⟨g', cap, cur, h0, _, hg, hle, hcap, hsz, htake⟩
    ·rw [hh] at h0; cases h0
    ·have h0' := h0
     rw [hh] at h0
     simp only [Value.slice.injEq, Option.some.injEq, Addr.mk.injEq, and_true] at h0
     obtain ⟨e1, e2, e3⟩ := h0
     subst e1
     have hcs : cur.size = ti.n := by rw [hsz, ← e3, b2]
     have hr := vM (w := w) I (ofs := 0) hg (x := a.eval y) (by rw [hL]; exact hcl) (by rw [hcs]; omega) (by rw [hL]; exact hone)
     rw [hL] at hr
     have hbk : own σ.obj ρ k = some (ρ k).blk := by simp [own, hk, hh, Value.ownBlock]
     have hset := @nY w (ρ k).blk (cur.toList.take 0 ++ cs ++ cur.toList.drop (0 + cs.length)).toArray
     refine fin (ρ' := ρ) (pr' := pr) hv hr ?_ (fun b _ hne => hset.2.2.2.2 b (fun e => hne k (by rw [hwr]; simp) (by rw [hbk, e])))
     have hnil : cur.toList.drop (0 + cs.length) = [] := List.drop_of_length_le (by simp; omega)
     refine (M.upd hk (o' := .chunk e r zs) ⟨rfl, by rw [l7, l1, hl]; exact Nat.le_refl _⟩ hset.1 hset.2.1 hset.2.2.1 hset.2.2.2.1 (fun b _ hne => hset.2.2.2.2 b (fun e => hne (by rw [e, hbk]))) (fun hm => ?_) ?_).1
     ·have hp2 : PrLe w pr (w.setRow (ρ k).blk (cur.toList.take 0 ++ cs ++ cur.toList.drop (0 + cs.length)).toArray) pr := fun b t hb =>
       ⟨hb, hset.2.2.2.2 b (fun e => (M.prot b t hb).2 k (by rw [e, hbk]))⟩
      refine ⟨hr0, hB, cs, ⟨by rw [l2, l6, l7, l1], .inr ⟨(ρ k).blk, cap, _, by rw [h0', l7, l1, hl], Nat.zero_le _, setRow_heap w _ cur _ e (0, 0) hg, by rw [l7, l1, ← hl]; exact hle, hcap, ?_, ?_⟩⟩, l5.mono hp2, hone⟩
      ·rw [hnil]; simp; omega
      ·rw [hnil]; simp; rw [List.take_of_length_le]; rw [hcl, l7, l1]; omega
     ·simp [own, hk, St.obj_put]
  ·cases hs
 | sgp k q m n0 i off =>
  rw [hp] at hs qx hwr
  simp only at hs hwr
  obtain ⟨_, i0, i1, hv⟩ := qx
  simp only [List.cons.injEq, and_true] at hv
  split at hs
  ·rename_i cs hk
   split at hs
   ·rename_i r n' xs s hcs
    simp only [Option.bind_eq_some_iff] at hs
    obtain ⟨c, hc, hs⟩ := hs
    cases hcond : (r.wf && c.lst && Nat.beq c.len ti.n && Nat.ble (off + ti.n) r.n && Nat.beq n' n0 && Nat.beq r.n m && Nat.blt 0 r.n) with
    | false => rw [hcond] at hs; cases hs
    | true =>
     rw [hcond] at hs
     simp only [cond_true, Option.bind_eq_some_iff] at hs
     obtain ⟨p, hrow, hs⟩ := hs
     cases hs
     simp only [Bool.and_eq_true] at hcond
     obtain ⟨⟨⟨⟨⟨⟨d1, d2⟩, d3⟩, d4⟩, d5⟩, d6⟩, d7⟩ := hcond
     have d3 := Nat.eq_of_beq_eq_true d3
     have d4 := Nat.le_of_ble_eq_true d4
     have d5 := Nat.eq_of_beq_eq_true d5
     have d6 := Nat.eq_of_beq_eq_true d6
     have d7 : 0 < r.n := Nat.le_of_ble_eq_true d7
     subst d5; subst d6
     obtain ⟨pr2, M2, hple, m2, z2⟩ := M.freezes p.2
     obtain ⟨arr, e, h1, h2, h3⟩ := M.hp k _ hk
     have hk2 : (σ.freezes p.2).obj k = some (.var cs) := by
      have : ∀ (l : List Nat) (τ : St), τ.obj k = some (.var cs) → (τ.freezes l).obj k = some (.var cs) := by
       intro l
       induction l with
       | nil => exact fun _ h => h
       | cons j l ih =>
        intro τ h
        refine ih _ ?_
        rw [sI]
        split
        ·rw [h]; rfl
        ·exact h
      exact this _ _ hk
     obtain ⟨qc, o1⟩ := aBc M.hp hc qy
     have hlen : (a.eval y).cells.toList.length = c.len := Rp.llen d2 qc
     have hdl : 0 < (cs.drop q).len := by
      rw [hcs]; simp only [SV.len]
      have : r.n ≤ n' * r.n := Nat.le_mul_of_pos_left _ (by omega)
      omega
     have hqle := aE3 q hdl
     have qd := h3.drop q hqle
     rw [hcs] at qd
     obtain ⟨cc, d, hcd, l1, l2, l3, l4⟩ := qd
     have hil : i.toNat < xs.length := by omega
     have hrep := l3 _ _ (sF i0 (by omega : i < (xs.length : Int)))
     obtain ⟨s1, s2⟩ := Rep.svs (h := σ.obj) (ρ := ρ) d1 hrep
     have hover := Rp.over off s1 qc d2 (by rw [s2, d3]; exact d4)
     have hrow2 := aFr hple M.hp hrow hover z2
     generalize hLe : (a.eval y).cells.toList = L at *
     have hLl : L.length = ti.n := hlen.trans d3
     have hfit : i.toNat * r.n + r.n ≤ n' * r.n := by rw [← Nat.succ_mul, ← l1]; exact Nat.mul_le_mul_right _ hil
     have harr : arr.toList = arr.toList.take q ++ (cc ++ d) := by rw [← hcd, List.take_append_drop]
     have htq : (arr.toList.take q).length = q := by
      have := (Rp.take cs.len h3 (Nat.le_refl _)).2
      rw [List.length_take]; omega
     have hasz : q + n' * r.n ≤ arr.size := by
      have := congrArg List.length harr
      rw [List.length_append, htq, List.length_append, l2] at this
      rw [← Array.length_toList]; omega
     have hr := vM (w := w) I (ofs := q + i.toNat * r.n + off) h1 (x := a.eval y) (by rw [hLe]; exact hLl) (by omega) (by rw [hLe]; exact o1)
     rw [hLe] at hr
     have hset := @nY w (ρ k).blk (arr.toList.take (q + i.toNat * r.n + off) ++ L ++ arr.toList.drop (q + i.toNat * r.n + off + L.length)).toArray
     have hbk : own σ.obj ρ k = some (ρ k).blk := by simp [own, hk]
     refine fin (ρ' := ρ) (pr' := pr2) hv hr ?_ (fun b _ hne => hset.2.2.2.2 b (fun e => hne k (by rw [hwr]; simp) (by rw [hbk, e])))
     refine (M2.upd hk2 (o' := .var (cs.over q (.seg r n' (dP xs i p.1) .nil))) (by simp [OLe]) hset.1 hset.2.1 hset.2.2.1 hset.2.2.2.1 (fun b _ hne => hset.2.2.2.2 b (fun e => hne (by rw [e]; simp [own, hk2]))) (fun hm => ?_) ?_).1
     ·refine ⟨_, e, setRow_heap w _ arr _ e (0, 0) h1, ?_, ?_⟩
      ·intro v hv
       simp only [List.mem_append] at hv
       rcases hv with (hv | hv) | hv
       ·exact h2 v (List.mem_of_mem_take hv)
       ·exact o1 v hv
       ·exact h2 v (List.mem_of_mem_drop hv)
      ·have hus : Rp (σ.freezes p.2).obj ρ w pr2 (.seg r n' (dP xs i p.1) .nil) (cc.take (i.toNat * r.n + off) ++ L ++ cc.drop (i.toNat * r.n + off + L.length)) := by
        refine ⟨cc.take (i.toNat * r.n + off) ++ L ++ cc.drop (i.toNat * r.n + off + L.length), [], by simp, by simp [dP, l1], by simp; omega, ?_, rfl⟩
        intro i' x' hx'
        have hi' : i' < xs.length := by have := (List.getElem?_eq_some_iff.1 hx').1; simpa [dP] using this
        have hfit' : i' * r.n + r.n ≤ n' * r.n := by rw [← Nat.succ_mul, ← l1]; exact Nat.mul_le_mul_right _ hi'
        by_cases e : i' = i.toNat
        ·subst e
         have : x' = p.1 := by simpa [dP, hil] using hx'.symm
         subst this
         rw [aNt _ _ _ _ _ (by omega) (by omega)]
         exact hrow2
        ·have hx2 : xs[i']? = some x' := by
          unfold dP at hx'
          rw [List.getElem?_set, if_neg (fun h => e h.symm)] at hx'; exact hx'
         have hdist : i' * r.n + r.n ≤ i.toNat * r.n + off ∨ i.toNat * r.n + off + L.length ≤ i' * r.n := by
          rcases Nat.lt_or_gt_of_ne e with h | h
          ·left; have : (i' + 1) * r.n ≤ i.toNat * r.n := Nat.mul_le_mul_right _ h
           rw [Nat.succ_mul] at this; omega
          ·right; have : (i.toNat + 1) * r.n ≤ i' * r.n := Nat.mul_le_mul_right _ h
           rw [Nat.succ_mul] at this; omega
         rw [aJ1 _ _ _ _ _ hdist (by omega)]
         exact (l3 i' x' hx2).mono hple
       have := Rp.over q (m2 _ _ h3) hus rfl (by
        have hll := bG0 q cs
        rw [hcs] at hll
        simp only [SV.len] at hll ⊢
        omega)
       have he : arr.toList.take q ++ (cc.take (i.toNat * r.n + off) ++ L ++ cc.drop (i.toNat * r.n + off + L.length)) ++ arr.toList.drop (q + (cc.take (i.toNat * r.n + off) ++ L ++ cc.drop (i.toNat * r.n + off + L.length)).length)
         = arr.toList.take (q + i.toNat * r.n + off) ++ L ++ arr.toList.drop (q + i.toNat * r.n + off + L.length) := by
        have hul : (cc.take (i.toNat * r.n + off) ++ L ++ cc.drop (i.toNat * r.n + off + L.length)).length = n' * r.n := by simp; omega
        rw [hul]
        have t1 : arr.toList.take (q + i.toNat * r.n + off) = arr.toList.take q ++ cc.take (i.toNat * r.n + off) := by
         conv => lhs; rw [harr]
         rw [List.take_append, htq, List.take_of_length_le (by omega), List.take_append_of_le_length (by omega)]
         congr 2; omega
        have t2 : arr.toList.drop (q + i.toNat * r.n + off + L.length) = cc.drop (i.toNat * r.n + off + L.length) ++ d := by
         conv => lhs; rw [harr]
         rw [List.drop_append, htq, List.drop_of_length_le (by omega), List.nil_append, List.drop_append_of_le_length (by omega)]
         congr 2; omega
        have t3 : arr.toList.drop (q + n' * r.n) = d := by
         conv => lhs; rw [harr]
         rw [List.drop_append, htq, List.drop_of_length_le (by omega), List.nil_append, List.drop_append, List.drop_of_length_le (by omega), List.nil_append]
         rw [show q + n' * r.n - q - cc.length = 0 by omega, List.drop_zero]
        rw [t1, t2, t3]; simp [List.append_assoc]
       rw [he] at this
       exact hm _ _ this
     ·simp [own, hk2, St.obj_put]
   ·cases hs
  ·cases hs
 | _ => rw [hp] at hs; cases hs
end
end Ab
end
section
namespace Ab
open Go
section
variable {P : Program} {E : Env} {C : Cx} {σ : St} {ρ : Nat → Loc} {pr : dU} {f : Nat → Value} {w : World} {a : Act} {o : Oper} {g : Nat → Value}
theorem zH {r : Nat} {es : Array MapEntry} {clock : Nat} (hb : w.heap[r]? = some (.map es clock)) : (getObj r).run P w = .ok (.map es clock) w := by
 simp [getObj, Sem.run, hb]
theorem aK4 {r : Nat} {es : Array MapEntry} {clock : Nat} (o : Go.Obj) (hb : w.heap[r]? = some (.map es clock)) : (setObj r o).run P w = .ok () { w with heap := w.heap.setIfInBounds r o } := by
 simp [setObj, Sem.run, hb]
theorem aSc {pr' : dU} {v : SV} {x : Value} {t : Ty} {p : t.T × List Nat} (hp : PrLe w pr w pr') (ho : ∀ k o, σ.obj k = some o → RO σ.obj ρ w pr k o) (h : v.asRow σ t = some p) (q : Rp σ.obj ρ w pr v [x]) (hz : Fz σ ρ pr' p.2) :
  ∃ cs, Rep w pr' t p.1 cs ∧ x = xY t cs := by
 unfold SV.asRow at h
 unfold xY
 cases h1 : t.one with
 | true =>
  rw [h1] at h
  simp only [cond_true] at h
  exact ⟨[x], kK (l := p.2) hp ho (by rw [h]) q hz, rfl⟩
 | false =>
  rw [h1] at h
  simp only [cond_false] at h
  split at h
  ·obtain ⟨cs, hv, _, q1⟩ := q
   simp only [List.cons.injEq, and_true] at hv
   exact ⟨cs, aFr (l := p.2) hp ho (by rw [h]) q1 hz, hv⟩
  ·cases h
theorem aY7 {t : TypeId} {kt vt : Ty} (M : Mo C σ ρ pr (fa g a) w) (ho : o.op = .makeMap t none) {k : Nat} (hf : σ.free k = true) :
  Done P C g o a σ ρ w [] ((σ.put k (.map kt vt [])).setd o.dst (.mp k)) := by
 have hobj : (σ.put k (.map kt vt [])).obj k = some (.map kt vt []) := by rw [St.obj_put, if_pos rfl]
 have := M.add (ρ' := fun j => if j = k then ⟨.nilFunc, w.heap.size⟩ else ρ j) (k := k) (o := .map kt vt []) (w' := w.alloc (.map #[] 0)) (free_spec hf) (fun j e => by simp [e]) ((RowKit.Below.refl _ _).alloc (Nat.le_refl _) _)
  (fun hm => ⟨#[], 0, by simpa using heap_alloc_new w _, Go.MapKept.stamped_empty 0, trivial⟩)
  (fun b hb => by simp [own, hobj] at hb; omega)
 refine Done.value (sv := .mp k) (v := .map (some w.heap.size)) ?_ this.1 ⟨⟨_, _, _, hobj⟩, by simp⟩ (fun b hb _ => ((RowKit.Below.refl w.heap.size w).alloc (Nat.le_refl _) _).block b hb)
 unfold execOp; simp only [ho]
 refine cZ _ ?_
 simp [Instr.makeMap]
theorem sV {b : Bool} {key : TypeId} {q : IntKind} {n : Int} (hu : P.underlying key = some (.int q)) (u : World) : (Instr.checkKey b 10000 key (.int q n)).run P u = .ok () u := by
 rw [show (10000 : Nat) = 9999 + 1 from rfl, Instr.checkKey]
 simp only [Sem.run_bind, run_underlying hu, Result.andThen]
 rfl
theorem aKl {q : IntKind} {n : Int} {vt : Ty} : ∀ {es : List ((Ty.int q).T × vt.T)} {ms : List MapEntry} (i : Nat), Ents w pr (.int q) vt es ms →
  (Instr.findNow (.int q) (.int q n) ms i = some none ∧ (∀ m ∈ ms, m.key ≠ .int q n) ∧ aEy (.int q) vt n es = none ∧ ∀ v, uU (.int q) vt n v es = es ++ [(n, v)]) ∨
  ∃ p u y ds, Instr.findNow (.int q) (.int q n) ms i = some (some (i + p, u)) ∧ aEy (.int q) vt n es = some y ∧ Rep w pr vt y ds ∧ u = xY vt ds ∧ (∃ m, ms[p]? = some m ∧ m.key = .int q n) ∧
   ∀ v x cs, Rep w pr vt v cs → x = xY vt cs → Ents w pr (.int q) vt (uU (.int q) vt n v es) (ms.modify p fun e => { e with key := .int q n, val := x })
 | [], [], i, _ => .inl ⟨rfl, (fun _ h => by cases h), rfl, fun _ => rfl⟩
 | e :: es, m :: ms, i, h => by
  obtain ⟨⟨⟨cs, h1, h2⟩, ds, h3, h4⟩, h5⟩ := h
  have h1 : cs = [.int q e.1] := h1
  subst h1
  have hk : m.key = .int q e.1 := h2
  have hs : Instr.sameNow (.int q) (.int q n) m.key = some (n == e.1) := by rw [hk]; simp [Instr.sameNow]
  by_cases hn : e.1 = n
  ·refine .inr ⟨0, m.val, e.2, ds, ?_, ?_, h3, h4, ⟨m, rfl, by rw [hk, hn]⟩, fun v x cs hv hx => ?_⟩
   ·unfold Instr.findNow; rw [hs, hn]; simp
   ·unfold aEy; simp [Ty.same, hn]
   ·have : uU (.int q) vt n v (e :: es) = (e.1, v) :: es := by unfold uU; simp [Ty.same, hn]
    rw [this]
    simp only [List.modify_zero_cons]
    exact ⟨⟨⟨_, rfl, by rw [hn]; rfl⟩, cs, hv, hx⟩, h5⟩
  ·have hne : ((n == e.1) : Bool) = false := by simp; exact fun h => hn h.symm
   have hf : Instr.findNow (.int q) (.int q n) (m :: ms) i = Instr.findNow (.int q) (.int q n) ms (i + 1) := by conv => lhs; unfold Instr.findNow; rw [hs, hne]
   have hl : aEy (.int q) vt n (e :: es) = aEy (.int q) vt n es := by conv => lhs; unfold aEy; simp [Ty.same, hn]
   have hp : ∀ v, uU (.int q) vt n v (e :: es) = e :: uU (.int q) vt n v es := fun v => by conv => lhs; unfold uU; simp [Ty.same, hn]
   rcases aKl (n := n) (i + 1) h5 with ⟨g1, g0, g2, g3⟩ | ⟨p, u, y, ds', g1, g2, g3, g4, g5, g6⟩
   ·exact .inl ⟨by rw [hf, g1], fun m' hm' => by
     rcases List.mem_cons.1 hm' with rfl | hm'
     ·rw [hk]; intro e; simp only [Value.int.injEq, true_and] at e; exact hn e
     ·exact g0 m' hm', by rw [hl, g2], fun v => by rw [hp, g3]; rfl⟩
   ·refine .inr ⟨p + 1, u, y, ds', by rw [hf, g1]; congr 3; omega, by rw [hl, g2], g3, g4, by simpa using g5, fun v x cs hv hx => ?_⟩
    rw [hp, List.modify_succ_cons]
    exact ⟨⟨⟨_, rfl, h2⟩, ds, h3, h4⟩, g6 v x cs hv hx⟩
 | [], _ :: _, _, h => h.elim
 | _ :: _, [], _, h => h.elim
theorem aW2 {kt vt : Ty} {e : kt.T × vt.T} {m : MapEntry} (he : (∃ cs, Rep w pr kt e.1 cs ∧ m.key = xY kt cs) ∧ ∃ ds, Rep w pr vt e.2 ds ∧ m.val = xY vt ds) : ∀ {es : List (kt.T × vt.T)} {ms : List MapEntry}, Ents w pr kt vt es ms → Ents w pr kt vt (es ++ [e]) (ms ++ [m])
 | [], [], _ => ⟨he, trivial⟩
 | _ :: _, _ :: _, h => ⟨h.1, aW2 he h.2⟩
 | [], _ :: _, h => h.elim
 | _ :: _, [], h => h.elim
theorem aLp {k : Nat} {kt vt : Ty} {es : List (kt.T × vt.T)} : ∀ (l : List Nat) (τ : St), τ.obj k = some (.map kt vt es) → (τ.freezes l).obj k = some (.map kt vt es)
 | [], _, h => h
 | j :: l, τ, h => by
  refine aLp l _ ?_
  rw [sI]
  split
  ·rw [h]; rfl
  exact h
theorem Fz.app {l m : List Nat} {pr' : dU} (h : Fz σ ρ pr' (l ++ m)) : Fz σ ρ pr' l ∧ Fz σ ρ pr' m :=
 ⟨fun k hk => h k (List.mem_append_left _ hk), fun k hk => h k (List.mem_append_right _ hk)⟩
theorem aTd (q : IntKind) (n : Int) : Instr.sameBits 10000 (.int q n) (.int q n) = true := by
 rw [show (10000 : Nat) = 9999 + 1 from rfl]
 simp [Instr.sameBits]
theorem aTi {t : TypeId} {ti : TI} {m k v : Operand} {j : Nat} {kt vt : Ty} {es : List (kt.T × vt.T)} {p : kt.T × List Nat} {q : vt.T × List Nat} (hT : TTok P E.tt) (M : Mo C σ ρ pr (fa g a) w) (ho : o.op = .mapUpdate t m k v) (ht : E.tt t = some ti) (hk : ti.k = .map)
  (hm : σ.ev m = .mp j) (hob : σ.obj j = some (.map kt vt es)) (h1 : kt = ti.er) (hp : (σ.ev k).asRow σ kt = some p) (hq : (σ.ev v).asRow σ vt = some q) :
  Done P C g o a σ ρ w (wr o σ) (((σ.freezes (p.2 ++ q.2)).put j (.map kt vt (uU kt vt p.1 q.1 es))).setd o.dst .dead) := by
 obtain ⟨I⟩ := hT.info ht
 obtain ⟨key, elem, qk, i, z, hd, huk, her, _, _, _, _⟩ := aW4 I.hd hk
 rw [her] at h1
 subst h1
 have hu := I.hu; rw [hd] at hu
 have hwr : wr o σ = [j] := by unfold wr; rw [ho]; simp only [hm]
 obtain ⟨pr', M', hle, hmo, hz⟩ := M.freezes (p.2 ++ q.2)
 obtain ⟨z1, z2⟩ := hz.app
 obtain ⟨cs, r1, e1⟩ := aSc hle M.hp hp (dZ M k) z1
 obtain ⟨ds, r2, e2⟩ := aSc hle M.hp hq (dZ M v) z2
 have r1 : cs = [.int qk p.1] := r1
 subst r1
 have e1 : a.eval k = .int qk p.1 := e1
 have qm := dZ M m
 rw [hm] at qm
 obtain ⟨_, hv⟩ := qm
 simp only [List.cons.injEq, and_true] at hv
 have hob' := aLp (p.2 ++ q.2) σ hob
 obtain ⟨ms, clock, hms, hst, hents⟩ := M'.hp j _ hob'
 have hsz : (ρ j).blk < w.heap.size := by
  have := (Array.getElem?_eq_some_iff.1 hms).1
  exact this
 have hown : own σ.obj ρ j = some (ρ j).blk := by simp [own, hob]
 have hown' : own (σ.freezes (p.2 ++ q.2)).obj ρ j = some (ρ j).blk := by simp [own, hob']
 have fin : ∀ {ms' : Array MapEntry} {clock' : Nat}, (Instr.mapUpdate t (.map (some (ρ j).blk)) (.int qk p.1) (a.eval v)).run P w = .ok () { w with heap := w.heap.setIfInBounds (ρ j).blk (.map ms' clock') } →
   Go.MapKept.Stamped ms' clock' → Ents w pr' (.int qk) vt (uU (.int qk) vt p.1 q.1 es) ms'.toList → Done P C g o a σ ρ w (wr o σ) (((σ.freezes (p.2 ++ q.2)).put j (.map (.int qk) vt (uU (.int qk) vt p.1 q.1 es))).setd o.dst .dead) := by
  intro ms' clock' hr hs' he
  have hoth : ∀ b, b ≠ (ρ j).blk → (w.heap.setIfInBounds (ρ j).blk (.map ms' clock'))[b]? = w.heap[b]? := fun b hb => by
   rw [Array.getElem?_setIfInBounds_ne (fun h => hb h.symm)]
  have hp2 : PrLe w pr' { w with heap := w.heap.setIfInBounds (ρ j).blk (.map ms' clock') } pr' := fun b t hb => ⟨hb, hoth b (fun e => (M'.prot b t hb).2 j (by rw [e, hown']))⟩
  have := M'.upd hob' (o' := .map (.int qk) vt (uU (.int qk) vt p.1 q.1 es)) (w' := { w with heap := w.heap.setIfInBounds (ρ j).blk (.map ms' clock') }) ⟨rfl, rfl⟩ rfl rfl rfl (by simp)
   (fun b _ hne => hoth b (fun e => hne (by rw [e, hown']))) (fun _ => ⟨ms', clock', by simp [hsz], hs', he.mono hp2⟩) (by simp [own, hob', St.obj_put])
  refine ⟨.skip, undef, _, ρ, pr', ?_, .inr ⟨rfl, rfl⟩, this.1.setd o.dst .dead undef ⟨_, rfl⟩, fun b _ hne => hoth b (fun e => hne j (by rw [hwr]; simp) (by rw [hown, e]))⟩
  unfold execOp; simp only [ho, hv, e1]
  exact aNr _ hr
 rcases aKl (n := p.1) 0 hents with ⟨g1, g0, _, g3⟩ | ⟨pp, u, y, ds', g1, _, _, _, ⟨mm, g5, g6⟩, g7⟩
 ·refine fin (ms' := ms.push { key := .int qk p.1, val := a.eval v, born := clock }) (clock' := clock + 1) ?_ (Go.MapKept.stamped_push hst (fun x hx => g0 x hx)) ?_
  ·simp only [Instr.mapUpdate, Instr.findKey, Sem.run_bind, run_underlying hu, run_underlying huk, Result.andThen, zH hms, sV huk, g1, Sem.run_pure, aK4 _ hms]
  rw [g3, Array.toList_push]
  exact aW2 (kt := .int qk) (vt := vt) (e := (p.1, q.1)) ⟨⟨[.int qk p.1], rfl, rfl⟩, ds, r2, e2⟩ hents
 rw [Nat.zero_add] at g1
 have hg5 : ms[pp]? = some mm := by simpa using g5
 refine fin (ms' := ms.modify pp fun e => { e with key := .int qk p.1, val := a.eval v }) (clock' := clock) ?_ (Go.MapKept.stamped_modify hst pp _ (fun _ _ => rfl) (fun e _ he => by rw [hg5] at he; cases he; exact g6.symm)) ?_
 ·simp only [Instr.mapUpdate, Instr.findKey, Sem.run_bind, run_underlying hu, run_underlying huk, Result.andThen, zH hms, sV huk, g1, Sem.run_pure, hg5, Option.map_some, Option.getD_some, g6, Instr.keyThatStays, aTd, if_true, aK4 _ hms]
 rw [Array.toList_modify]
 exact g7 q.1 (a.eval v) ds r2 e2
theorem bBq {t : TypeId} {ti : TI} {m k : Operand} {j : Nat} {kt vt : Ty} {es : List (kt.T × vt.T)} {p : kt.T × List Nat} {c : Bool} (hT : TTok P E.tt) (M : Mo C σ ρ pr (fa g a) w) (ho : o.op = .lookup t m k c) (ht : E.tt t = some ti) (hk : ti.k = .map)
  (hm : σ.ev m = .mp j) (hob : σ.obj j = some (.map kt vt es)) (h1 : kt = ti.er) (h2 : vt = ti.ev) (hb : aYe (!vt.one) vt = true) (hp : (σ.ev k).asRow σ kt = some p) :
  Done P C g o a σ ρ w [] (σ.setd o.dst (match c with
   | true => .tup (.cons (aJ2 (!vt.one) vt (aC0 kt vt p.1 es)) (.cons (.val .bool (aZt kt vt p.1 es)) .nil))
   | false => aJ2 (!vt.one) vt (aC0 kt vt p.1 es))) := by
 obtain ⟨I⟩ := hT.info ht
 obtain ⟨key, elem, qk, i, z, hd, huk, her, hi, hz, hzc, hza⟩ := aW4 I.hd hk
 rw [her] at h1
 subst h1
 subst h2
 have hu := I.hu; rw [hd] at hu
 have r1 : a.eval k = .int qk p.1 := by
  unfold SV.asRow at hp
  simp only [Ty.one, cond_true] at hp
  obtain ⟨pr', _, hle, _, hzf⟩ := M.freezes p.2
  have := kK (l := p.2) hle M.hp (by rw [hp]) (dZ M k) hzf
  simpa [Rep] using this
 have qm := dZ M m
 rw [hm] at qm
 obtain ⟨_, hv⟩ := qm
 simp only [List.cons.injEq, and_true] at hv
 obtain ⟨ms, clock, hms, _, hents⟩ := M.hp j _ hob
 have payok : ∀ {y : ti.ev.T} {cs : List Value}, Rep w pr ti.ev y cs → aRi (!ti.ev.one) cs = true := by
  intro y cs h
  cases ho1 : ti.ev.one with
  | true => have := h.len; rw [Ty.one_n ho1] at this; simp [aRi, this]
  | false => rfl
 have hzv : z = xY ti.ev (aAk ti.ev) := by
  unfold xY
  rw [hza]
  cases z with
  | agg xs => rw [← hzc]; simp [pay, aKh, Value.cells]
  | _ => rw [← hzc]; rfl
 have fin : ∀ u ok cs, Rep w pr ti.ev (aC0 (.int qk) ti.ev p.1 es) cs → u = xY ti.ev cs → ok = aZt (.int qk) ti.ev p.1 es →
   (Instr.lookup t (.map (some (ρ j).blk)) (.int qk p.1) c).run P w = .ok (if c then .tuple #[u, .bool ok] else u) w →
   Done P C g o a σ ρ w [] (σ.setd o.dst (match c with
   | true => .tup (.cons (aJ2 (!ti.ev.one) ti.ev (aC0 (.int qk) ti.ev p.1 es)) (.cons (.val .bool (aZt (.int qk) ti.ev p.1 es)) .nil))
   | false => aJ2 (!ti.ev.one) ti.ev (aC0 (.int qk) ti.ev p.1 es))) := by
  intro u ok cs hq hu' hok hr
  have qp : Rp σ.obj ρ w pr (aJ2 (!ti.ev.one) ti.ev (aC0 (.int qk) ti.ev p.1 es)) [u] := by rw [hu']; exact aYd hb hq (payok hq)
  have hr2 : (execOp a.eval o).run P w = .ok (.value (if c then .tuple #[u, .bool ok] else u)) w := by
   unfold execOp; simp only [ho, hv, r1]
   exact cZ _ hr
  cases c with
  | true => exact Done.value (v := .tuple #[u, .bool ok]) (sv := .tup (.cons (aJ2 (!ti.ev.one) ti.ev (aC0 (.int qk) ti.ev p.1 es)) (.cons (.val .bool (aZt (.int qk) ti.ev p.1 es)) .nil))) (by simpa using hr2) M ⟨[u, .bool ok], rfl, u, _, rfl, qp, _, _, rfl, ⟨rfl, by rw [hok]; rfl⟩, rfl⟩ (Same.refl _ _ _ _)
  | false => exact Done.value (by simpa using hr2) M qp (Same.refl _ _ _ _)
 have hzero : (zeroValue elem).run P w = .ok z w := by simp [zeroValue, typeInfo, hi, hz]
 rcases aKl (n := p.1) 0 hents with ⟨g1, _, g2, _⟩ | ⟨pp, u, y, ds', g1, g2, g3, g4, _, _⟩
 ·refine fin z false (aAk ti.ev) ?_ hzv ?_ ?_
  ·unfold aC0; rw [g2]; exact Rep.z w pr _
  ·unfold aZt; rw [g2]
  cases c <;> simp only [Instr.lookup, Instr.findKey, Sem.run_bind, run_underlying hu, run_underlying huk, Result.andThen, zH hms, sV huk, g1, Sem.run_pure, hzero] <;> rfl
 rw [Nat.zero_add] at g1
 refine fin u true ds' ?_ g4 ?_ ?_
 ·unfold aC0; rw [g2]; exact g3
 ·unfold aZt; rw [g2]
 cases c <;> simp only [Instr.lookup, Instr.findKey, Sem.run_bind, run_underlying hu, run_underlying huk, Result.andThen, zH hms, sV huk, g1, Sem.run_pure] <;> rfl
theorem aZb {ok : Bool} {σ' : St} (hT : TTok P E.tt) (M : Mo C σ ρ pr (fa g a) w) (h : aP6 E o σ = .one ok σ') (hok : ok = true) : Done P C g o a σ ρ w (wr o σ) σ' := by
 subst hok
 unfold aP6 at h
 split at h
 ·rename_i t ho
  split at h
  ·rename_i ti ht
   split at h
   ·rename_i r n hz
    cases hb : (ti.isArr && σ.free (tok o.dst) && Nat.blt 0 r.n && Nat.blt 0 n && Nat.ble n 1000000) with
    | false => rw [hb] at h; cases h
    | true =>
     rw [hb] at h
     cases h
     simp only [Bool.and_eq_true] at hb
     have : wr o σ = [] := by unfold wr; rw [ho]
     rw [this]
     exact aV2 hT M ho ht hz hb.1.1.1.2 (Nat.le_of_ble_eq_true hb.1.1.2) (Nat.le_of_ble_eq_true hb.2)
   cases h
  cases h
 ·rename_i t x ho
  split at h
  ·rename_i ti ht
   split at h
   ·rename_i v hv
    cases hb : Nat.blt 0 ti.n with
    | false => rw [hb] at h; cases h
    | true =>
     rw [hb] at h
     cases h
     have : wr o σ = [] := by unfold wr; rw [ho]
     rw [this]
     exact bD9 hT M ho ht (Nat.le_of_ble_eq_true hb) hv
   cases h
  cases h
 ·rename_i t x y ho
  split at h
  ·rename_i ti ht
   split at h
   ·rename_i σ1 hs
    cases h
    exact bBp hT M ho ht hs
   cases h
  cases h
 ·rename_i t ho
  split at h
  ·rename_i ti ht
   split at h
   ·rename_i hk
    cases hb : σ.free (tok o.dst) with
    | false => rw [hb] at h; cases h
    | true =>
     rw [hb] at h
     cases h
     have : wr o σ = [] := by unfold wr; rw [ho]
     rw [this]
     exact aY7 M ho hb
   cases h
  cases h
 ·rename_i t m k v ho
  split at h
  ·rename_i ti j ht hm
   split at h
   ·rename_i kt vt es hk hob
    cases hb : (kt.eq ti.er && vt.eq ti.ev) with
    | false => rw [hb] at h; cases h
    | true =>
     rw [hb] at h
     simp only [cond_true] at h
     simp only [Bool.and_eq_true] at hb
     split at h
     ·rename_i p q hp hq
      cases h
      exact aTi hT M ho ht hk hm hob (Ty.eq_eq hb.1) hp hq
     ·cases h
   cases h
  cases h
 ·rename_i t m k c ho
  split at h
  ·rename_i ti j ht hm
   split at h
   ·rename_i kt vt es hk hob
    cases hb : (kt.eq ti.er && vt.eq ti.ev && aYe (!vt.one) vt) with
    | false => rw [hb] at h; cases h
    | true =>
     rw [hb] at h
     simp only [cond_true] at h
     simp only [Bool.and_eq_true] at hb
     have hw : wr o σ = [] := by unfold wr; rw [ho]
     rw [hw]
     split at h
     ·rename_i p hp
      have := bBq hT M ho ht hk hm hob (Ty.eq_eq hb.1.1) (Ty.eq_eq hb.1.2) hb.2 hp
      cases c with
      | true => cases h; exact this
      | false => cases h; exact this
     ·cases h
   cases h
  cases h
 ·rename_i t as ts ho
  split at h
  ·exact (aR9 h).elim
  cases h
 ·rename_i x ho
  split at h
  ·rename_i ty z hx
   cases hb : (ty.iok && !(uW ty z)) <;> rw [hb] at h <;> cases h
  cases h
 cases h
theorem bBu {ok : Bool} {σ' : St} (hT : TTok P E.tt) (M : Mo C σ ρ pr (fa g a) w) (h : opW E o σ = .one ok σ') (hok : ok = true) : Done P C g o a σ ρ w (wr o σ) σ' := by
 unfold opW at h
 split at h
 ·exact aZb hT M h hok
 exact aZd hT M h hok
end
end Ab
end
section
namespace Ab
open Go
section
variable {P : Program} {E : Env} {C : Cx} {σ : St} {ρ : Nat → Loc} {pr : dU} {f : Nat → Value} {w : World} {a : Act} {o : Oper} {g : Nat → Value}
theorem aIx : ∀ (l : List Nat) (i : Nat), nth l i = l[i]?
 | [], i => by cases i <;> rfl
 | k :: l, 0 => rfl
 | k :: l, i + 1 => by simpa [nth] using aIx l i
def SV.val1 : SV → Bool
 | .nil | .cons _ _ | .seg _ _ _ _ | .any => false
 | _ => true
theorem Rp.single {h : Hp} {v : SV} {vs : List Value} (q : Rp h ρ w pr v vs) (h1 : v.val1 = true) : ∃ x, vs = [x] := by
 cases v with
 | dead => exact q
 | val t x => have := q.2.len; rw [Ty.one_n q.1] at this; exact List.length_eq_one_iff.1 this
 | nsl => exact ⟨_, q⟩
 | nilp => exact ⟨_, q⟩
 | hd k => exact ⟨_, q.2⟩
 | ptr k o => exact ⟨_, q.2⟩
 | elp k i o => obtain ⟨_, x, hx, _⟩ := q; exact ⟨x, hx⟩
 | rop t x => obtain ⟨_, _, _, hx, _⟩ := q; exact ⟨_, hx⟩
 | agg s => obtain ⟨_, hx, _⟩ := q; exact ⟨_, hx⟩
 | tup s => obtain ⟨_, hx, _⟩ := q; exact ⟨_, hx⟩
 | nli => exact ⟨_, q⟩
 | fn f s => obtain ⟨_, hx, _⟩ := q; exact ⟨_, hx⟩
 | mb n b => obtain ⟨_, hx, _⟩ := q; exact ⟨_, hx⟩
 | arp k n => exact ⟨_, q.2.2⟩
 | rap r n xs => obtain ⟨_, _, _, hx, _⟩ := q; exact ⟨_, hx⟩
 | sgp k o m n i off => exact ⟨_, q.2.2.2⟩
 | mp k => exact ⟨_, q.2⟩
 | nil | cons _ _ | seg _ _ _ _ | any => cases h1
theorem aWv {v : SV} {vis vis' bor : List Nat} {x : Sh.dead.T} (h : Sh.dead.get σ v vis = some (x, vis', bor)) : vis' = vis ∧ bor = [] ∧ v.val1 = true := by
 unfold Sh.get at h
 cases v <;> cases h <;> exact ⟨rfl, rfl, rfl⟩
theorem aWu {v : SV} {vis vis' bor : List Nat} {x : Sh.nilp.T} (h : Sh.nilp.get σ v vis = some (x, vis', bor)) : vis' = vis ∧ bor = [] ∧ v = .nilp := by
 unfold Sh.get at h
 cases v <;> cases h; exact ⟨rfl, rfl, rfl⟩
theorem aUe {t : Ty} {v : SV} {vis vis' bor : List Nat} {x : (Sh.sc t).T} (h : (Sh.sc t).get σ v vis = some (x, vis', bor)) : vis' = vis ∧ t.one = true ∧ v.data σ t = some (x, bor) := by
 unfold Sh.get at h
 cases ht : t.one <;> rw [ht] at h
 ·cases h
 simp only [cond_true, Option.bind_eq_some_iff] at h
 obtain ⟨p, hp, h⟩ := h
 cases h
 exact ⟨rfl, rfl, hp⟩
theorem aMn {e : Nat} {r : Ty} {v : SV} {vis vis' bor : List Nat} {x : (Sh.own e r).T} (h : (Sh.own e r).get σ v vis = some (x, vis', bor)) :
  ∃ k, v = .hd k ∧ k ∉ vis ∧ σ.obj k = some (.chunk e r x) ∧ vis' = vis ++ [k] ∧ bor = [] := by
 unfold Sh.get at h
 cases v <;> first | (cases h; done) | skip
 rename_i k
 simp only at h
 cases hm : jI k vis <;> rw [hm] at h
 ·simp only [cond_false] at h
  split at h
  ·rename_i e' r' xs ho
   cases he : Nat.beq e' e <;> rw [he] at h
   ·cases h
   simp only [cond_true, Option.bind_eq_some_iff] at h
   obtain ⟨ys, hy, h⟩ := h
   cases h
   have e1 := Nat.eq_of_beq_eq_true he
   subst e1
   obtain ⟨e2, hx⟩ := aF9 hy
   subst e2
   subst hx
   exact ⟨k, rfl, eY.1 hm, ho, rfl, rfl⟩
  cases h
 cases h
theorem aJc {s : Sh} {v : SV} {vis vis' bor : List Nat} {x : s.T} (h : (Sh.ptr s).get σ v vis = some (x, vis', bor)) :
  ∃ k cs, v = .ptr k 0 ∧ k ∉ vis ∧ σ.obj k = some (.var cs) ∧ s.get σ cs (vis ++ [k]) = some (x, vis', bor) := by
 cases v <;> first | (cases h; done) | skip
 rename_i k o
 cases o with
 | succ o => cases h
 | zero =>
  simp only [Sh.get] at h
  cases hm : jI k vis <;> rw [hm] at h
  ·simp only [cond_false] at h
   split at h
   ·rename_i cs ho
    exact ⟨k, cs, rfl, eY.1 hm, ho, h⟩
   ·cases h
  ·cases h
theorem aWt {i : Nat} {v : SV} {vis vis' bor : List Nat} {x : (Sh.ref true i).T} (h : (Sh.ref true i).get σ v vis = some (x, vis', bor)) :
  ∃ k, v = .hd k ∧ vis[i]? = some k ∧ vis' = vis ∧ bor = [] := by
 cases v <;> first | (cases h; done) | skip
 rename_i k
 simp only [Sh.get] at h
 split at h
 ·rename_i j hj
  cases hb : Nat.beq j k <;> rw [hb] at h <;> cases h
  have := Nat.eq_of_beq_eq_true hb
  subst this
  exact ⟨j, rfl, by rw [← aIx]; exact hj, rfl, rfl⟩
 cases h
theorem aWs {i : Nat} {v : SV} {vis vis' bor : List Nat} {x : (Sh.ref false i).T} (h : (Sh.ref false i).get σ v vis = some (x, vis', bor)) :
  ∃ k, v = .ptr k 0 ∧ vis[i]? = some k ∧ vis' = vis ∧ bor = [] := by
 cases v <;> first | (cases h; done) | skip
 rename_i k o
 cases o with
 | succ o => cases h
 | zero =>
  simp only [Sh.get] at h
  split at h
  ·rename_i j hj
   cases hb : Nat.beq j k <;> rw [hb] at h <;> cases h
   have := Nat.eq_of_beq_eq_true hb
   subst this
   exact ⟨j, rfl, by rw [← aIx]; exact hj, rfl, rfl⟩
  ·cases h
theorem aJd {s : Sh} {v : SV} {vis vis' bor : List Nat} {x : s.T} (h : (Sh.agg s).get σ v vis = some (x, vis', bor)) : ∃ c, v = .agg c ∧ s.get σ c vis = some (x, vis', bor) := by
 cases v <;> first | (cases h; done) | skip
 exact ⟨_, rfl, h⟩
theorem aCz {s : Sh} {v : SV} {vis vis' bor : List Nat} {x : s.T} (h : (Sh.tup s).get σ v vis = some (x, vis', bor)) : ∃ c, v = .tup c ∧ s.get σ c vis = some (x, vis', bor) := by
 cases v <;> first | (cases h; done) | skip
 exact ⟨_, rfl, h⟩
theorem aUf {v : SV} {vis vis' bor : List Nat} {x : Sh.nil.T} (h : Sh.nil.get σ v vis = some (x, vis', bor)) : v = .nil ∧ vis' = vis ∧ bor = [] := by
 cases v <;> cases h; exact ⟨rfl, rfl, rfl⟩
theorem Sh.u_unit : ∀ {s : Sh}, s.u = true → ∀ x y : s.T, x = y
 | .dead, _, _, _ | .nilp, _, _, _ | .ref _ _, _, _, _ | .nil, _, _, _ => rfl
 | .sc _, h, _, _ | .own _ _, h, _, _ => by cases h
 | .ptr s, h, x, y => Sh.u_unit (s := s) h x y
 | .agg s, h, x, y => Sh.u_unit (s := s) h x y
 | .fn _ s, h, x, y => Sh.u_unit (s := s) h x y
 | .seg _ _ _, h, _, _ | .mp _ _, h, _, _ => by cases h
 | .tup s, h, x, y => Sh.u_unit (s := s) h x y
 | .cons a b, h, x, y => by
  have h := (Bool.and_eq_true _ _).mp (show (a.u && b.u) = true from h)
  have ha := h.1
  revert x y
  show ∀ x y : jT a.u b.u a.T b.T, x = y
  rw [ha]
  exact fun x y => Sh.u_unit h.2 x y
theorem Sh.fst_mk (a b : Sh) (x : a.T) (y : b.T) : Sh.fst a b (Sh.mk a b x y) = x := aUc x y (fun h => Sh.u_unit h _ _)
theorem Sh.snd_mk (a b : Sh) (x : a.T) (y : b.T) : Sh.snd a b (Sh.mk a b x y) = y := aUb x y (fun h => Sh.u_unit h _ _)
theorem Sh.sfst_mk (r : Ty) (n : Nat) (b : Sh) (x : List r.T) (y : b.T) : Sh.sfst r n b (Sh.smk r n b x y) = x := aUc x y (fun h => by cases h)
theorem Sh.ssnd_mk (r : Ty) (n : Nat) (b : Sh) (x : List r.T) (y : b.T) : Sh.ssnd r n b (Sh.smk r n b x y) = y := aUb x y (fun h => Sh.u_unit h _ _)
theorem aO3 {f : Nat} {s : Sh} {v : SV} {vis vis' bor : List Nat} {x : s.T} (h : (Sh.fn f s).get σ v vis = some (x, vis', bor)) : ∃ c, v = .fn f c ∧ s.get σ c vis = some (x, vis', bor) := by
 cases v <;> first | (cases h; done) | skip
 rename_i f' c
 simp only [Sh.get] at h
 cases hb : Nat.beq f' f with
 | false => rw [hb] at h; cases h
 | true => rw [hb] at h; have e := Nat.eq_of_beq_eq_true hb; subst e; exact ⟨c, rfl, h⟩
theorem aJb {r : Ty} {n : Nat} {b : Sh} {v : SV} {vis vis' bor : List Nat} {x : (Sh.seg r n b).T} (h : (Sh.seg r n b).get σ v vis = some (x, vis', bor)) :
  ∃ d, v = .seg r n (Sh.sfst r n b x) d ∧ b.get σ d vis = some (Sh.ssnd r n b x, vis', bor) := by
 cases v <;> first | (cases h; done) | skip
 rename_i r' n' xs d
 simp only [Sh.get] at h
 cases hb : Nat.beq n' n with
 | false => rw [hb] at h; cases h
 | true =>
  rw [hb] at h
  have e := Nat.eq_of_beq_eq_true hb
  subst e
  simp only [cond_true, Option.bind_eq_some_iff] at h
  obtain ⟨ys, hy, q, hq, h⟩ := h
  cases h
  obtain ⟨e2, hx⟩ := aF9 hy
  subst e2
  subst hx
  exact ⟨d, by rw [Sh.sfst_mk], by rw [Sh.ssnd_mk]; exact hq⟩
theorem bFd {kt vt kt' vt' : Ty} {es : List (kt.T × vt.T)} {ys : List (kt'.T × vt'.T)} (h : Ty.castM kt vt kt' vt' es = some ys) : ∃ (e : kt = kt') (e2 : vt = vt'), ys = e ▸ e2 ▸ es := by
 unfold Ty.castM at h
 split at h
 ·split at h
  ·cases h; exact ⟨_, _, rfl⟩
  cases h
 cases h
theorem aO2 {kt vt : Ty} {v : SV} {vis vis' bor : List Nat} {x : (Sh.mp kt vt).T} (h : (Sh.mp kt vt).get σ v vis = some (x, vis', bor)) :
  ∃ k, v = .mp k ∧ k ∉ vis ∧ σ.obj k = some (.map kt vt x) ∧ vis' = vis ++ [k] ∧ bor = [] := by
 cases v <;> first | (cases h; done) | skip
 rename_i k
 simp only [Sh.get] at h
 cases hm : jI k vis <;> rw [hm] at h
 ·simp only [cond_false] at h
  split at h
  ·rename_i kt' vt' es ho
   simp only [Option.bind_eq_some_iff] at h
   obtain ⟨ys, hy, h⟩ := h
   cases h
   obtain ⟨e1, e2, hx⟩ := bFd hy
   subst e1; subst e2
   subst hx
   exact ⟨k, rfl, eY.1 hm, ho, rfl, rfl⟩
  cases h
 cases h
theorem lL {a b : Sh} {v : SV} {vis vis' bor : List Nat} {x : (Sh.cons a b).T} (h : (Sh.cons a b).get σ v vis = some (x, vis', bor)) :
  ∃ c d vis1 b1 b2, v = .cons c d ∧ a.get σ c vis = some (Sh.fst a b x, vis1, b1) ∧ b.get σ d vis1 = some (Sh.snd a b x, vis', b2) ∧ bor = b1 ++ b2 := by
 cases v <;> first | (cases h; done) | skip
 rename_i c d
 simp only [Sh.get, Option.bind_eq_some_iff] at h
 obtain ⟨p, hp, q, hq, h⟩ := h
 cases h
 refine ⟨c, d, p.2.1, p.2.2, q.2.2, rfl, ?_, ?_, rfl⟩
 ·rw [hp, Sh.fst_mk]
 rw [hq, Sh.snd_mk]
theorem gF : ∀ {s : Sh} {v : SV} {vis vis' bor : List Nat} {x : s.T}, s.get σ v vis = some (x, vis', bor) → ∃ new, vis' = vis ++ new ∧ new.length = s.cnt ∧ (vis.Nodup → vis'.Nodup)
 | .dead, v, vis, vis', bor, x, h => by obtain ⟨rfl, _⟩ := aWv h; exact ⟨[], by simp, rfl, id⟩
 | .nilp, v, vis, vis', bor, x, h => by obtain ⟨rfl, _⟩ := aWu h; exact ⟨[], by simp, rfl, id⟩
 | .sc t, v, vis, vis', bor, x, h => by obtain ⟨rfl, _⟩ := aUe h; exact ⟨[], by simp, rfl, id⟩
 | .own e r, v, vis, vis', bor, x, h => by
  obtain ⟨k, _, hk, _, rfl, _⟩ := aMn h
  refine ⟨[k], rfl, rfl, fun hn => ?_⟩
  rw [List.nodup_append]
  exact ⟨hn, by simp, by intro a ha b hb; simp at hb; subst hb; intro e; subst e; exact hk ha⟩
 | .ptr s, v, vis, vis', bor, x, h => by
  obtain ⟨k, cs, _, hk, _, h1⟩ := aJc h
  obtain ⟨new, rfl, hl, hn⟩ := gF h1
  refine ⟨k :: new, by simp, by simp [hl, Sh.cnt], fun hv => hn ?_⟩
  rw [List.nodup_append]
  exact ⟨hv, by simp, by intro a ha b hb; simp at hb; subst hb; intro e; subst e; exact hk ha⟩
 | .ref true i, v, vis, vis', bor, x, h => by obtain ⟨_, _, _, rfl, _⟩ := aWt h; exact ⟨[], by simp, rfl, id⟩
 | .ref false i, v, vis, vis', bor, x, h => by obtain ⟨_, _, _, rfl, _⟩ := aWs h; exact ⟨[], by simp, rfl, id⟩
 | .agg s, v, vis, vis', bor, x, h => by obtain ⟨c, _, h1⟩ := aJd h; exact gF (s := s) h1
 | .fn f s, v, vis, vis', bor, x, h => by obtain ⟨c, _, h1⟩ := aO3 h; exact gF (s := s) h1
 | .seg r n b, v, vis, vis', bor, x, h => by obtain ⟨d, _, h1⟩ := aJb h; exact gF (s := b) h1
 | .mp kt vt, v, vis, vis', bor, x, h => by
  obtain ⟨k, _, hk, _, rfl, _⟩ := aO2 h
  refine ⟨[k], rfl, rfl, fun hn => ?_⟩
  rw [List.nodup_append]
  exact ⟨hn, by simp, by intro a ha b hb; simp at hb; subst hb; intro e; subst e; exact hk ha⟩
 | .tup s, v, vis, vis', bor, x, h => by obtain ⟨c, _, h1⟩ := aCz h; exact gF (s := s) h1
 | .nil, v, vis, vis', bor, x, h => by obtain ⟨_, rfl, _⟩ := aUf h; exact ⟨[], by simp, rfl, id⟩
 | .cons a b, v, vis, vis', bor, x, h => by
  obtain ⟨c, d, vis1, b1, b2, _, h1, h2, _⟩ := lL h
  obtain ⟨n1, rfl, l1, d1⟩ := gF h1
  obtain ⟨n2, rfl, l2, d2⟩ := gF h2
  exact ⟨n1 ++ n2, by simp, by simp [l1, l2, Sh.cnt], fun hv => d2 (d1 hv)⟩
theorem lF (all : List Nat) : ∀ {s : Sh} (x : s.T) (ns : List Nat), s.cnt ≤ ns.length → (s.put all x ns).left = ns.drop s.cnt ∧ (s.put all x ns).os.map (·.1) = ns.take s.cnt
 | .dead, _, _, _ | .nilp, _, _, _ | .nil, _, _, _ => by exact ⟨rfl, rfl⟩
 | .sc _, _, _, _ => by exact ⟨rfl, rfl⟩
 | .ref h i, _, ns, _ => by
  simp only [Sh.put, Sh.cnt, List.drop_zero, List.take_zero]
  split <;> exact ⟨rfl, rfl⟩
 | .own e r, x, ns, h => by
  cases ns with
  | nil => simp [Sh.cnt] at h
  | cons n ns => exact ⟨rfl, rfl⟩
 | .ptr s, x, ns, h => by
  cases ns with
  | nil => simp [Sh.cnt] at h
  | cons n ns =>
   simp only [Sh.cnt, List.length_cons] at h
   obtain ⟨h1, h2⟩ := lF all (s := s) x ns (by omega)
   exact ⟨by simpa [Sh.put, Sh.cnt] using h1, by simpa [Sh.put, Sh.cnt] using h2⟩
 | .agg s, x, ns, h => lF all (s := s) x ns h
 | .fn _ s, x, ns, h => lF all (s := s) x ns h
 | .seg r n b, x, ns, h => lF all (s := b) (Sh.ssnd r n b x) ns h
 | .mp kt vt, x, ns, h => by
  cases ns with
  | nil => simp [Sh.cnt] at h
  | cons n ns => exact ⟨rfl, rfl⟩
 | .tup s, x, ns, h => lF all (s := s) x ns h
 | .cons a b, x, ns, h => by
  simp only [Sh.cnt] at h
  obtain ⟨h1, h2⟩ := lF all (s := a) (Sh.fst a b x) ns (by omega)
  obtain ⟨h3, h4⟩ := lF all (s := b) (Sh.snd a b x) (ns.drop a.cnt) (by simp; omega)
  simp only [Sh.put, Sh.cnt, List.map_append, h1, h2, h3, h4, List.drop_drop, and_true, true_and]
  rw [List.take_add]
def Kin : Obj → Obj → Prop
 | .var _, .var _ => True
 | .map kt vt es, .map kt' vt' es' => ∃ (h : kt = kt') (h2 : vt = vt'), es' = h ▸ h2 ▸ es
 | .chunk _ r xs, .chunk _ r' ys => ∃ h : r = r', ys = h ▸ xs
 | _, _ => False
structure Nm (σ : St) (ρ : Nat → Loc) (h' : Hp) (ρ' : Nat → Loc) (vis all : List Nat) : Prop where
 blk : ∀ (i k n : Nat), vis[i]? = some k → all[i]? = some n → (ρ' n).blk = (ρ k).blk
 loc : ∀ (i k n e : Nat) r xs, vis[i]? = some k → all[i]? = some n → σ.obj k = some (.chunk e r xs) → ρ' n = ρ k
 kin : ∀ (i k n : Nat) o, vis[i]? = some k → all[i]? = some n → σ.obj k = some o → ∃ o', h' n = some o' ∧ Kin o o'
theorem Kin.sl {o o' : Obj} (h : Kin o o') (k : o.isSl = true) : o'.isSl = true := by cases o <;> cases o' <;> simp_all [Kin, Obj.isSl]
theorem nU {h' : Hp} {ρ' : Nat → Loc} {pr' : dU} {visF all : List Nat} (hp : PrLe w pr w pr') (ho : ∀ k o, σ.obj k = some o → RO σ.obj ρ w pr k o) (N : Nm σ ρ h' ρ' visF all) :
  ∀ {s : Sh} {v : SV} {vis vis' bor t : List Nat} {x : s.T} {vs : List Value}, s.get σ v vis = some (x, vis', bor) → visF = vis' ++ t → visF.length ≤ all.length → Fz σ ρ pr' bor → Rp σ.obj ρ w pr v vs →
  Rp h' ρ' w pr' (s.put all x (all.drop vis.length)).v vs ∧
  ∀ j n ob, (s.put all x (all.drop vis.length)).os[j]? = some (n, ob) → ∃ k o, vis'[vis.length + j]? = some k ∧ all[vis.length + j]? = some n ∧ σ.obj k = some o ∧ Kin o ob ∧ RO h' ρ' w pr' n ob
 | .dead, v, vis, vis', bor, t, x, vs, h, _, _, _, q => by
  obtain ⟨rfl, _, h1⟩ := aWv h
  exact ⟨q.single h1, fun j n ob hj => by simp [Sh.put] at hj⟩
 | .nilp, v, vis, vis', bor, t, x, vs, h, _, _, _, q => by
  obtain ⟨rfl, _, rfl⟩ := aWu h
  exact ⟨q, fun j n ob hj => by simp [Sh.put] at hj⟩
 | .sc ty, v, vis, vis', bor, t, x, vs, h, _, _, hz, q => by
  obtain ⟨rfl, h1, h2⟩ := aUe h
  exact ⟨⟨h1, kK hp ho h2 q hz⟩, fun j n ob hj => by simp [Sh.put] at hj⟩
 | .own e r, v, vis, vis', bor, t, x, vs, h, hF, hlen, hz, q => by
  obtain ⟨k, rfl, hk, hob, rfl, _⟩ := aMn h
  have hl : vis.length < all.length := by rw [hF] at hlen; simp at hlen; omega
  have hd : all.drop vis.length = all[vis.length] :: all.drop (vis.length + 1) := by rw [List.drop_eq_getElem_cons hl]
  have hv : visF[vis.length]? = some k := by rw [hF]; simp
  have ha : all[vis.length]? = some all[vis.length] := List.getElem?_eq_getElem hl
  obtain ⟨o', ho', hkin⟩ := N.kin _ _ _ _ hv ha hob
  have hρ := N.loc _ _ _ _ _ _ hv ha hob
  rw [hd]
  simp only [Sh.put]
  refine ⟨?_, fun j n ob hj => ?_⟩
  ·exact ⟨⟨o', ho', hkin.sl rfl⟩, by rw [hρ]; exact q.2⟩
  ·cases j with
   | succ j => simp at hj
   | zero =>
    simp at hj
    obtain ⟨rfl, rfl⟩ := hj
    refine ⟨k, _, by simp, by simpa using ha, hob, ⟨rfl, rfl⟩, ?_⟩
    obtain ⟨r0, hB, cells, c1, c2, c3⟩ := ho k _ hob
    exact ⟨r0, by rw [hρ]; exact hB, cells, by rw [hρ]; exact c1, c2.mono hp, c3⟩
 | .ptr s, v, vis, vis', bor, t, x, vs, h, hF, hlen, hz, q => by
  obtain ⟨k, cs, rfl, hk, hob, h1⟩ := aJc h
  obtain ⟨new, hnew, hcnt, _⟩ := gF h1
  have hl : vis.length < all.length := by rw [hF, hnew] at hlen; simp at hlen; omega
  have hd : all.drop vis.length = all[vis.length] :: all.drop (vis.length + 1) := by rw [List.drop_eq_getElem_cons hl]
  have hv : visF[vis.length]? = some k := by rw [hF, hnew]; simp
  have ha : all[vis.length]? = some all[vis.length] := List.getElem?_eq_getElem hl
  obtain ⟨o', ho', hkin⟩ := N.kin _ _ _ _ hv ha hob
  have hblk := N.blk _ _ _ hv ha
  obtain ⟨arr, e, r1, r2, r3⟩ := ho k _ hob
  have ih := nU hp ho N h1 hF hlen hz r3
  rw [List.length_append, List.length_singleton] at ih
  rw [hd]
  simp only [Sh.put]
  refine ⟨?_, fun j n ob hj => ?_⟩
  ·cases o' <;> simp only [Kin] at hkin
   refine ⟨⟨_, ho'⟩, by rw [hblk]; exact q.2⟩
  ·cases j with
   | zero =>
    simp at hj
    obtain ⟨rfl, rfl⟩ := hj
    refine ⟨k, _, by rw [hnew]; simp, by simpa using ha, hob, trivial, arr, e, by rw [hblk]; exact r1, r2, ih.1⟩
   | succ j =>
    simp only [List.getElem?_cons_succ] at hj
    obtain ⟨k2, o2, e1, e2, e3⟩ := ih.2 j n ob hj
    exact ⟨k2, o2, by rw [← e1]; congr 1; omega, by rw [← e2]; congr 1; omega, e3⟩
 | .ref true i, v, vis, vis', bor, t, x, vs, h, hF, hlen, hz, q => by
  obtain ⟨k, rfl, hi, rfl, _⟩ := aWt h
  have hil : i < vis'.length := (List.getElem?_eq_some_iff.1 hi).1
  have hl : i < all.length := by rw [hF] at hlen; simp at hlen; omega
  have ha : all[i]? = some all[i] := List.getElem?_eq_getElem hl
  have hv : visF[i]? = some k := by rw [hF, List.getElem?_append_left hil]; exact hi
  obtain ⟨⟨ob, hob, hnv⟩, hvs⟩ := q
  obtain ⟨o', ho', hkin⟩ := N.kin _ _ _ _ hv ha hob
  simp only [Sh.put, aIx, ha, cond_true]
  refine ⟨?_, fun j n ob hj => by simp at hj⟩
  cases ob with
  | var cs => cases hnv
  | map _ _ _ => cases hnv
  | ro r xs => exact hkin.elim
  | chunk e r xs =>
   have hρ := N.loc _ _ _ _ _ _ hv ha hob
   exact ⟨⟨o', ho', hkin.sl rfl⟩, by rw [hρ]; exact hvs⟩
 | .ref false i, v, vis, vis', bor, t, x, vs, h, hF, hlen, hz, q => by
  obtain ⟨k, rfl, hi, rfl, _⟩ := aWs h
  have hil : i < vis'.length := (List.getElem?_eq_some_iff.1 hi).1
  have hl : i < all.length := by rw [hF] at hlen; simp at hlen; omega
  have ha : all[i]? = some all[i] := List.getElem?_eq_getElem hl
  have hv : visF[i]? = some k := by rw [hF, List.getElem?_append_left hil]; exact hi
  obtain ⟨⟨cs, hob⟩, hvs⟩ := q
  obtain ⟨o', ho', hkin⟩ := N.kin _ _ _ _ hv ha hob
  simp only [Sh.put, aIx, ha, cond_false]
  refine ⟨?_, fun j n ob hj => by simp at hj⟩
  cases o' <;> simp only [Kin] at hkin
  exact ⟨⟨_, ho'⟩, by rw [N.blk _ _ _ hv ha]; exact hvs⟩
 | .fn f s, v, vis, vis', bor, t, x, vs, h, hF, hlen, hz, q => by
  obtain ⟨c, rfl, h1⟩ := aO3 h
  obtain ⟨cs, e1, q1⟩ := q
  have ih := nU (s := s) hp ho N h1 hF hlen hz q1
  exact ⟨⟨cs, e1, ih.1⟩, ih.2⟩
 | .seg r n b, v, vis, vis', bor, t, x, vs, h, hF, hlen, hz, q => by
  obtain ⟨d, rfl, h1⟩ := aJb h
  obtain ⟨c, e, g1, g2, g3, g4, q1⟩ := q
  have ih := nU (s := b) hp ho N h1 hF hlen hz q1
  exact ⟨⟨c, e, g1, g2, g3, g4.mono hp, ih.1⟩, ih.2⟩
 | .mp kt vt, v, vis, vis', bor, t, x, vs, h, hF, hlen, hz, q => by
  obtain ⟨k, rfl, hk, hob, rfl, _⟩ := aO2 h
  have hl : vis.length < all.length := by rw [hF] at hlen; simp at hlen; omega
  have hd : all.drop vis.length = all[vis.length] :: all.drop (vis.length + 1) := by rw [List.drop_eq_getElem_cons hl]
  have hv : visF[vis.length]? = some k := by rw [hF]; simp
  have ha : all[vis.length]? = some all[vis.length] := List.getElem?_eq_getElem hl
  obtain ⟨o', ho', hkin⟩ := N.kin _ _ _ _ hv ha hob
  have hblk := N.blk _ _ _ hv ha
  rw [hd]
  simp only [Sh.put]
  refine ⟨?_, fun j n ob hj => ?_⟩
  ·cases o' <;> simp only [Kin] at hkin
   exact ⟨⟨_, _, _, ho'⟩, by rw [hblk]; exact q.2⟩
  ·cases j with
   | succ j => simp at hj
   | zero =>
    simp at hj
    obtain ⟨rfl, rfl⟩ := hj
    refine ⟨k, _, by simp, by simpa using ha, hob, ⟨rfl, rfl, rfl⟩, ?_⟩
    obtain ⟨ms, clock, c1, c2⟩ := ho k _ hob
    exact ⟨ms, clock, by rw [hblk]; exact c1, c2.mono hp⟩
 | .agg s, v, vis, vis', bor, t, x, vs, h, hF, hlen, hz, q => by
  obtain ⟨c, rfl, h1⟩ := aJd h
  obtain ⟨cs, e1, e2, q1⟩ := q
  have ih := nU (s := s) hp ho N h1 hF hlen hz q1
  exact ⟨⟨cs, e1, e2, ih.1⟩, ih.2⟩
 | .tup s, v, vis, vis', bor, t, x, vs, h, hF, hlen, hz, q => by
  obtain ⟨c, rfl, h1⟩ := aCz h
  obtain ⟨cs, e1, q1⟩ := q
  have ih := nU (s := s) hp ho N h1 hF hlen hz q1
  exact ⟨⟨cs, e1, ih.1⟩, ih.2⟩
 | .nil, v, vis, vis', bor, t, x, vs, h, hF, hlen, hz, q => by
  obtain ⟨rfl, _⟩ := aUf h
  exact ⟨q, fun j n ob hj => by simp [Sh.put] at hj⟩
 | .cons a b, v, vis, vis', bor, t, x, vs, h, hF, hlen, hz, q => by
  obtain ⟨c, d, vis1, b1, b2, rfl, h1, h2, rfl⟩ := lL h
  obtain ⟨n1, e1, l1, _⟩ := gF h1
  obtain ⟨n2, e2, l2, _⟩ := gF h2
  obtain ⟨y, ds, rfl, q1, q2⟩ := q
  have iha := nU hp ho N h1 (t := n2 ++ t) (by rw [hF, e2]; simp) hlen hz.left q1
  have ihb := nU hp ho N h2 hF hlen hz.right q2
  have hvl : vis1.length = vis.length + a.cnt := by rw [e1]; simp [l1]
  have hlen2 : vis.length + a.cnt + b.cnt ≤ all.length := by rw [hF, e2, e1] at hlen; simp [l1, l2] at hlen; omega
  obtain ⟨p1, p2⟩ := lF all (s := a) (Sh.fst a b x) (all.drop vis.length) (by simp; omega)
  have hleft : (a.put all (Sh.fst a b x) (all.drop vis.length)).left = all.drop vis1.length := by rw [p1, List.drop_drop, hvl]
  have hol : (a.put all (Sh.fst a b x) (all.drop vis.length)).os.length = a.cnt := by
   have := congrArg List.length p2
   simp at this
   omega
  simp only [Sh.put, hleft]
  refine ⟨⟨y, ds, rfl, iha.1, ihb.1⟩, fun j n ob hj => ?_⟩
  rw [List.getElem?_append] at hj
  split at hj
  ·rename_i hlt
   obtain ⟨k, o, k1, k2, k3⟩ := iha.2 j n ob hj
   refine ⟨k, o, ?_, k2, k3⟩
   rw [e2, List.getElem?_append_left (by rw [e1]; simp [l1]; omega)]; exact k1
  ·rename_i hge
   obtain ⟨k, o, k1, k2, k3⟩ := ihb.2 _ n ob hj
   rw [hol] at k1 k2 hge
   exact ⟨k, o, by rw [← k1]; congr 1; omega, by rw [← k2]; congr 1; omega, k3⟩
end
end Ab
end
