/-
A part of the proof: pure functions told of the program, and laws about them.
-/
import Derived.Test.YtpkhfddccaljiaaGreatDoorA06
import Derived.Test.YtpkhfddccaljiaaGreatDoorChecked
import Derived.WalkKit
import Derived.Lib.Walk
import Derived.Lib.SliceRun
import Derived.Lib.AppendZeros
import Derived.Lib.AppendZerosOnto
import Derived.Lib.Overlaps
import Derived.Laws.Externs
import Derived.Laws.IdiomCopy
import Derived.Shelf.Spec.SlicesInsert
import Derived.Laws.NewBlocks
import Derived.BigCall
import Derived.Test.YtpkhfddccaljiaaGreatDoorProg
set_option linter.all false
section
set_option maxRecDepth 100000
set_option linter.unusedVariables false
namespace Go.Proofs
open Go.Shelf Go.RowKit Go.Lib
theorem Tryz.u27 : Tryz.prog.underlying 27 = some (.slice 37) := by kernel_rfl
theorem Tryz.u3 : Tryz.prog.underlying 3 = some (.int .i64) := by kernel_rfl
variable {P : Program}
theorem pG (w : World) (dT sT ty elem : TypeId) (sz b o dLen dCap : Nat) (a : Addr) (sLen sCap : Nat) (cs : List Value)
  (hu : P.underlying dT = some (.slice elem)) (hs : (P.info? elem).map (·.size) = some sz) (hn : cs.length = Nat.min sLen dLen * sz)
  (hsrc : ∀ j v, cs[j]? = some v → w.cell? (a.add j) = some v) (hc : ∀ j, j < cs.length → (w.cell? ⟨b, o + j, none⟩).isSome = true) (hf : ∀ j, j < cs.length → w.frozen? ⟨b, o + j, none⟩ = false) (h1 : ∀ v ∈ cs, v.oneCell' = true) :
  (Builtin.copy_ #[dT, sT] ty #[.slice (some ⟨b, o, none⟩) dLen dCap, .slice (some a) sLen sCap]).run P w = .ok (goInt (Nat.min sLen dLen)) (w.setCells b o cs) := by
 have hl := run_loadCells_list (P := P) w a cs hsrc
 have hst := run_storeCells_cells (P := P) b o cs 0 w (by simpa using hc) (by simpa using hf) h1
 cases hq : P.info? elem with
 | none => simp [hq] at hs
 | some i =>
  have hi : i.size = sz := by simpa [hq] using hs
  simp [Builtin.copy_, run_underlying hu, Builtin.lenOf, Builtin.firstCells, sizeOf, typeInfo, hq, hi, ← hn, hl, hst]
theorem Tryz.sz37 : (Tryz.prog.info? 37).map (·.size) = some 4 := by kernel_rfl
theorem aJx (w : World) (tS tR e : TypeId) (ht : P.underlying tS = some (.slice e)) (size : Nat) (hz : ∀ w, (Go.sizeOf e).run P w = .ok size w)
  (a b : Addr) (la ca lb cb : Nat) (hne : a.block ≠ b.block) (tA tB : TypeId) (kA kB : Nat)
  (hsa : w.shape? a.block = some (tA, kA)) (hsb : w.shape? b.block = some (tB, kB)) (hkA : kA ≠ 0)
  (hfb : w.frozen? b = false) (hfe : w.frozen? { block := b.block, off := kB } = false) :
  (Extern.SlicesOverlaps.overlaps #[tS, tS] #[tR] #[.slice (some a) la ca, .slice (some b) lb cb]).run P w = .ok (.bool false) w := by
 have hnb : (a.block != b.block) = true := by simpa using hne
 have hnb' : (a.block == b.block) = false := by simpa using hne
 have hst : (Go.stringish b).run P w = .ok false w := by
  simp [stringish, frozen, shape, Sem.run, hsb, hfb, hfe]
 obtain ⟨sa, hsta⟩ : ∃ sa, (Go.stringish a).run P w = .ok sa w := by
  by_cases h : w.frozen? a = true
  ·exact ⟨true, by simp [stringish, frozen, Sem.run, h]⟩
  ·exact ⟨w.frozen? { block := a.block, off := kA }, by simp [stringish, frozen, shape, Sem.run, h, hsa]⟩
 have hmb : (Go.mayBeOne a b).run P w = .ok false w := by
  unfold mayBeOne
  have hsh : ∀ k, (Go.shape k).run P w = .ok (w.shape? k) w := fun _ => rfl
  cases kA with
  | zero => exact absurd rfl hkA
  | succ kA => simp [hst, hsta, hsh, hsa, Sem.run_bind, Result.andThen]
 have hv : ∀ x : Addr, (w.shape? x.block).isSome = true → (Go.noView x).run P w = .ok () w := fun x hx => by
  simp [noView, viewAt, shape, Sem.run, hx]
 have hva := hv a (by rw [hsa]; rfl)
 have hvb := hv b (by rw [hsb]; rfl)
 have hfzr : ∀ x : Addr, (Go.frozen x).run P w = .ok (w.frozen? x) w := fun _ => rfl
 change Sem.run P (α := Value) (do
  let some t := (#[tS, tS] : Array TypeId)[0]? | stuck "slices.overlaps: no parameter types"
  let .slice elem ← underlying t | stuck "slices.overlaps: slice type expected"
  let size ← sizeOf elem
  match (some a : Option Addr), (some b : Option Addr) with
  | some a, some b =>
   if la = 0 ∨ lb = 0 ∨ size = 0 then pure (Value.bool false)
   else if a.block != b.block && (← frozen a) && (← frozen b) then unsupported .addressObserved
   else do
    if a.block != b.block then do
     noView a; noView b
     if ← mayBeOne a b then return Value.bool ((← choose (.extern "sameAddr.stringBytes" 2)) == 1)
    pure (Value.bool (a.block == b.block && a.off < b.off + lb * size && b.off < a.off + la * size))
  | _, _ => pure (Value.bool false)) w = _
 by_cases h0 : la = 0 ∨ lb = 0 ∨ size = 0
 ·simp [run_underlying ht, hz, h0]
 simp [run_underlying ht, hz, h0, hnb, hnb', hfzr, hfb, hva, hvb, hmb, Sem.run_bind, Result.andThen]
set_option maxHeartbeats 4000000 in
theorem Tryz.ins_shift (w : World) (g n c i vb voff vc : Nat) (cs vs : List Value) (hi : i < n) (hroom : n + 1 ≤ c) (hc63 : c ≤ 9223372036854775807) (hvb : vb ≠ g) (hcl : cs.length = n * 4) (hvl : vs.length = 4)
  (hcs : ∀ j v, cs[j]? = some v → w.cell? ⟨g, j, none⟩ = some v) (hsp : ∀ j, j < (n + 1) * 4 → (w.cell? ⟨g, j, none⟩).isSome = true) (hfz : ∀ j, w.frozen? ⟨g, j, none⟩ = false)
  (hvs : ∀ j v, vs[j]? = some v → w.cell? ⟨vb, voff + j, none⟩ = some v) (h1c : ∀ v ∈ cs, v.oneCell' = true) (h1v : ∀ v ∈ vs, v.oneCell' = true)
  (tA tB : TypeId) (kA kB : Nat) (hsa : w.shape? vb = some (tA, kA)) (hsb : w.shape? g = some (tB, kB)) (hkA : kA ≠ 0) :
  Calls Tryz.prog 39 #[.slice (some ⟨g, 0, none⟩) n c, .int .i64 i, .slice (some ⟨vb, voff, none⟩) 1 vc] w fun e w' => e = .returned (.slice (some ⟨g, 0, none⟩) (n + 1) c) ∧
   w' = (w.drew.setCells g ((i + 1) * 4) (cs.drop (i * 4))).setCells g (i * 4) vs := by
 have hz2 : ¬ ((i : Int) = (n : Int)) := by omega
 have t27 := Tryz.u27
 have t3 := Tryz.u3
 have u27 := run_underlying t27
 have u3 := run_underlying t3
 have hw1 : IntKind.i64.wrap ((i : Int) + 1) = (i : Int) + 1 := by rw [IntKind.wrap_i64]; omega
 have hw2 : IntKind.i64.wrap ((n : Int) + 1) = (n : Int) + 1 := by rw [IntKind.wrap_i64]; omega
 have hb1 : (0 : Int) ≤ (i : Int) + 1 := by omega
 have htn : ((i : Int) + 1).toNat = i + 1 := by omega
 have hb2 : ¬ (c = i + 1) := by omega
 have hb3 : (i : Int) ≤ (n : Int) := by omega
 have hb4 : ¬ (c = i) := by omega
 have hb5 : (i : Int) + 1 ≤ (n : Int) + 1 := by omega
 have hb6 : (i : Int) ≤ (n : Int) + 1 := by omega
 have hin : i ≤ n := by omega
 have hov : ∀ lb cb, (callFunc 88 #[.slice (some ⟨vb, voff, none⟩) 1 vc, .slice (some ⟨g, (i + 1) * 4, none⟩) lb cb]).run Tryz.prog w = .ok (.value (.bool false)) w := fun lb cb => by
  rw [run_callFunc_extern Tryz.func88 (by kernel_rfl) (by kernel_rfl) (by kernel_rfl) (e := Extern.SlicesOverlaps.overlaps #[27, 27] #[4]) (by kernel_rfl),
   aJx w 27 4 37 t27 4 Tryz.sizeOf37 ⟨vb, voff, none⟩ ⟨g, (i + 1) * 4, none⟩ 1 vc lb cb hvb tA tB kA kB hsa hsb hkA (hfz _) (hfz _)]
  rfl
 have hdl : (cs.drop (i * 4)).length = (n - i) * 4 := by rw [List.length_drop, hcl]; omega
 have hcp1 : ∀ ty dc sc, (Builtin.copy_ #[27, 27] ty #[.slice (some ⟨g, (i + 1) * 4, none⟩) (n - i) dc, .slice (some ⟨g, i * 4, none⟩) (n + 1 - i) sc]).run Tryz.prog w.drew = .ok (goInt ((n - i : Nat) : Int)) (w.drew.setCells g ((i + 1) * 4) (cs.drop (i * 4))) := fun ty dc sc => by
  have hmin : Nat.min (n + 1 - i) (n - i) = n - i := by simp only [Nat.min_def]; split <;> omega
  have := pG (P := Tryz.prog) w.drew 27 27 ty 37 4 g ((i + 1) * 4) (n - i) dc ⟨g, i * 4, none⟩ (n + 1 - i) sc (cs.drop (i * 4)) t27 Tryz.sz37 (by rw [hmin, hdl])
   (fun j v hj => by rw [Addr.add_lit]; exact hcs (i * 4 + j) v (by rwa [List.getElem?_drop] at hj))
   (fun j hj => hsp _ (by rw [hdl] at hj; omega)) (fun j hj => hfz _) (fun v hv => h1c v (List.mem_of_mem_drop hv))
  rwa [hmin] at this
 obtain ⟨W1, hW1⟩ : ∃ W1, W1 = w.drew.setCells g ((i + 1) * 4) (cs.drop (i * 4)) := ⟨_, rfl⟩
 have hsp1 : ∀ k, k < (n + 1) * 4 → (W1.cell? ⟨g, k, none⟩).isSome = true := fun k hk => by
  rw [hW1]
  exact isSome_setCells g (cs.drop (i * 4)) ((i + 1) * 4) w.drew (fun j hj => hsp _ (by rw [hdl] at hj; omega)) _ (hsp k hk)
 have hcp2 : ∀ (W : World), (∀ x, W.cell? x = W1.cell? x) → (∀ x, W.frozen? x = W1.frozen? x) → ∀ ty dc, (Builtin.copy_ #[27, 27] ty #[.slice (some ⟨g, i * 4, none⟩) (n + 1 - i) dc, .slice (some ⟨vb, voff, none⟩) 1 vc]).run Tryz.prog W = .ok (goInt 1) (W.setCells g (i * 4) vs) := fun W hWc hWf ty dc => by
  have hmin : Nat.min 1 (n + 1 - i) = 1 := by simp only [Nat.min_def]; split <;> omega
  have := pG (P := Tryz.prog) W 27 27 ty 37 4 g (i * 4) (n + 1 - i) dc ⟨vb, voff, none⟩ 1 vc vs t27 Tryz.sz37 (by rw [hmin, hvl])
   (fun j v hj => by
    rw [Addr.add_lit, hWc, hW1, World.cell?_setCells_out g _ _ _ _ (fun h _ => absurd h hvb)]
    exact hvs j v hj)
   (fun j hj => by rw [hWc]; exact hsp1 _ (by omega)) (fun j hj => by rw [hWf, hW1, World.frozen?_setCells]; exact hfz _) h1v
  rwa [hmin] at this
 rw [← hW1] at hcp1
 have mixed : Tryz.prog.follows .mixedOrders = true := by kernel_rfl
 refine calls_of_wp Tryz.func39 rfl ?_
 simp only [Tryz.ntmps39, List.size_toArray, List.length_cons, List.length_nil, Nat.reduceAdd, Nat.reduceSub, Array.replicate_succ,
   Array.replicate_zero, List.push_toArray, List.append_toArray, List.nil_append, List.cons_append]
 go_wp2_with (simp only [hov])
 go_region_law_o (refine step_copy_runI rfl _ _ 27 27 rfl _ _ (by simp [Act.eval, Act.put]) (by simp [Act.eval, Act.put]) (hcp1 _ _ _) ?_)
 go_wp2_with (at_builtin; refine wpList_copy_runI _ rfl _ _ 27 27 rfl _ _ rfl rfl (hcp2 _ (fun _ => rfl) (fun _ => rfl) _ _) ?_)
 go_ret
 first | exact ⟨rfl, rfl⟩ | exact ⟨rfl, by rw [hW1]⟩
end Go.Proofs
end
section
set_option maxRecDepth 100000
set_option linter.unusedVariables false
namespace Go.Proofs
open Go.Shelf Go.RowKit Go.Lib
set_option maxHeartbeats 4000000 in
theorem Tryz.ins_end (w w2 : World) (v2 : Value) (g n c vb voff vc : Nat) (hnc : n ≤ c) (hc63 : c ≤ 9223372036854775807)
  (hr : ∀ ty, (Builtin.append_ #[27, 27] ty #[.slice (some ⟨g, 0, none⟩) n c, .slice (some ⟨vb, voff, none⟩) 1 vc]).run Tryz.prog w = .ok v2 w2) :
  Calls Tryz.prog 39 #[.slice (some ⟨g, 0, none⟩) n c, .int .i64 n, .slice (some ⟨vb, voff, none⟩) 1 vc] w fun e w' => e = .returned v2 ∧ w' = w2 := by
 have t27 := Tryz.u27
 have t3 := Tryz.u3
 have u27 := run_underlying t27
 have u3 := run_underlying t3
 have mixed : Tryz.prog.follows .mixedOrders = true := by kernel_rfl
 refine calls_of_wp Tryz.func39 rfl ?_
 simp only [Tryz.ntmps39, List.size_toArray, List.length_cons, List.length_nil, Nat.reduceAdd, Nat.reduceSub, Array.replicate_succ,
   Array.replicate_zero, List.push_toArray, List.append_toArray, List.nil_append, List.cons_append]
 go_wp2_with (at_builtin; refine Lib.wpList_append_run _ rfl _ _ _ _ rfl _ _ rfl rfl _ _ (hr _) ?_)
 all_goals (go_ret; exact ⟨rfl, rfl⟩)
set_option maxHeartbeats 4000000 in
theorem Tryz.ins_nil (w w2 : World) (v2 : Value) (vb voff vc : Nat)
  (hr : ∀ ty, (Builtin.append_ #[27, 27] ty #[.slice none 0 0, .slice (some ⟨vb, voff, none⟩) 1 vc]).run Tryz.prog w = .ok v2 w2) :
  Calls Tryz.prog 39 #[.slice none 0 0, .int .i64 0, .slice (some ⟨vb, voff, none⟩) 1 vc] w fun e w' => e = .returned v2 ∧ w' = w2 := by
 have t27 := Tryz.u27
 have t3 := Tryz.u3
 have u27 := run_underlying t27
 have u3 := run_underlying t3
 have mixed : Tryz.prog.follows .mixedOrders = true := by kernel_rfl
 refine calls_of_wp Tryz.func39 rfl ?_
 simp only [Tryz.ntmps39, List.size_toArray, List.length_cons, List.length_nil, Nat.reduceAdd, Nat.reduceSub, Array.replicate_succ,
   Array.replicate_zero, List.push_toArray, List.append_toArray, List.nil_append, List.cons_append]
 go_wp2_with (at_builtin; refine Lib.wpList_append_run _ rfl _ _ _ _ rfl _ _ rfl rfl _ _ (hr _) ?_)
 all_goals (go_ret; exact ⟨rfl, rfl⟩)
set_option maxHeartbeats 4000000 in
theorem Tryz.ins_grow (w : World) (g n c i vb voff vc : Nat) (cs vs : List Value) (hi : i < n) (hnc : n ≤ c) (hroom : c < n + 1) (hbig : (n + 1) * 48 ≤ 140737488355328) (hcl : cs.length = n * 4) (hvl : vs.length = 4)
  (hcs : ∀ j v, cs[j]? = some v → w.cell? ⟨g, j, none⟩ = some v) (hvs : ∀ j v, vs[j]? = some v → w.cell? ⟨vb, voff + j, none⟩ = some v) (h1c : ∀ v ∈ cs, v.oneCell' = true) (h1v : ∀ v ∈ vs, v.oneCell' = true)
  (i0 : TypeInfo) (hi0 : Tryz.prog.info? 37 = some i0) (z : Value) (hz0 : i0.zero = some z) (hzs : i0.size = 4) (hzb : i0.bytes = 48) (hzl : z.cells.size = 4) :
  Calls Tryz.prog 39 #[.slice (some ⟨g, 0, none⟩) n c, .int .i64 i, .slice (some ⟨vb, voff, none⟩) 1 vc] w fun e w' =>
   e = .returned (.slice (some ⟨w.heap.size, 0, none⟩) (n + 1) (grownCap w (n + 1) c 37)) ∧
   w' = (((w.alloc (.cells ((cs.take (i * 4)).toArray ++ Builtin.zeroCells z.cells (n + 1 - i) ++ Builtin.zeroCells z.cells (grownCap w (n + 1) c 37 - (n + 1))) 37)).drew.setCells w.heap.size (i * 4) vs).drew).setCells w.heap.size ((i + 1) * 4) (cs.drop (i * 4)) := by
 have t27 := Tryz.u27
 have t3 := Tryz.u3
 have u27 := run_underlying t27
 have u3 := run_underlying t3
 have mixed : Tryz.prog.follows .mixedOrders = true := by kernel_rfl
 have hz2 : ¬ ((i : Int) = (n : Int)) := by omega
 have hz3 : (c : Int) < (n : Int) + 1 := by omega
 have hbw : g < w.heap.size := block_lt_of_cell (hcs 0 _ (List.getElem?_eq_getElem (by omega)))
 have hvw : vb < w.heap.size := block_lt_of_cell (hvs 0 _ (List.getElem?_eq_getElem (by omega)))
 have hkk : (n : Int) + 1 - (i : Int) = ((n + 1 - i : Nat) : Int) := by omega
 have hik : i + (n + 1 - i) = n + 1 := by omega
 have hold : (Builtin.firstCells i0.size i (.slice (some ⟨g, 0, none⟩) i c)).run Tryz.prog w.drew = .ok (cs.take (i * 4)).toArray w.drew := by
  rw [hzs]
  exact run_firstCells_some w.drew 4 i ⟨g, 0, none⟩ i c (cs.take (i * 4)) (by rw [List.length_take]; omega) (fun j v hj => by
   rw [Addr.add_lit, Nat.zero_add]
   rw [List.getElem?_take] at hj
   split at hj
   ·exact hcs j v hj
   ·cases hj)
 have hrz : ∀ ty, (Builtin.append_ #[27, 3] ty #[.slice (some ⟨g, 0, none⟩) i c, .int .i64 ((n : Int) + 1 - (i : Int))]).run Tryz.prog w =
   .ok (.slice (some ⟨w.heap.size, 0, none⟩) (n + 1) (grownCap w (n + 1) c 37)) (w.drew.alloc (.cells ((cs.take (i * 4)).toArray ++ Builtin.zeroCells z.cells (n + 1 - i) ++ Builtin.zeroCells z.cells (grownCap w (n + 1) c 37 - (n + 1))) 37)) := fun ty => by
  have h := Lib.run_append_grow_zeros w 27 3 ty 37 i0 z .i64 .i64 t27 t3 hi0 hz0 (some ⟨g, 0, none⟩) i c (cs.take (i * 4)) hold (n + 1 - i) (by omega) (by omega) (by omega) (by omega) (by rw [hzb]; omega) (by rw [hzb, hik]; exact growslice_fits hroom hbig)
  rw [hik] at h
  rw [hkk]
  exact h
 obtain ⟨G, hG⟩ : ∃ G, G = grownCap w (n + 1) c 37 := ⟨_, rfl⟩
 obtain ⟨ROW, hROW⟩ : ∃ ROW : Array Value, ROW = (cs.take (i * 4)).toArray ++ Builtin.zeroCells z.cells (n + 1 - i) ++ Builtin.zeroCells z.cells (G - (n + 1)) := ⟨_, rfl⟩
 rw [← hG] at hrz ⊢
 rw [← hROW] at hrz ⊢
 have hGn : n + 1 ≤ G := by rw [hG]; exact grownCap_ge w _ _ _
 have hRl : ROW.size = G * 4 := by
  rw [hROW]
  simp [Builtin.zeroCells, hzl]
  omega
 obtain ⟨W1, hW1⟩ : ∃ W1, W1 = w.drew.alloc (.cells ROW 37) := ⟨_, rfl⟩
 rw [← hW1] at hrz
 have hN : ∀ j, j < (n + 1) * 4 → (W1.cell? ⟨w.heap.size, j, none⟩).isSome = true := fun j hj => by
  rw [hW1, World.cell?_alloc_at (w := w.drew) ROW _ w.heap.size j rfl, Array.getElem?_eq_getElem (by omega)]; rfl
 have hNf : ∀ j, W1.frozen? ⟨w.heap.size, j, none⟩ = false := fun j => by rw [hW1]; exact World.frozen?_alloc_at (w := w.drew) ROW _ w.heap.size j rfl
 have hOb : ∀ j v, w.cell? ⟨g, j, none⟩ = some v → W1.cell? ⟨g, j, none⟩ = some v := fun j v h => by rw [hW1, World.cell?_alloc_past (w := w.drew) _ g j hbw]; exact h
 have hOv : ∀ j v, w.cell? ⟨vb, j, none⟩ = some v → W1.cell? ⟨vb, j, none⟩ = some v := fun j v h => by rw [hW1, World.cell?_alloc_past (w := w.drew) _ vb j hvw]; exact h
 have hcpA : ∀ (W : World), (∀ x, W.cell? x = W1.cell? x) → (∀ x, W.frozen? x = W1.frozen? x) → ∀ ty dc, (Builtin.copy_ #[27, 27] ty #[.slice (some ⟨w.heap.size, i * 4, none⟩) (n + 1 - i) dc, .slice (some ⟨vb, voff, none⟩) 1 vc]).run Tryz.prog W = .ok (goInt 1) (W.setCells w.heap.size (i * 4) vs) := fun W hWc hWf ty dc => by
  have hmin : Nat.min 1 (n + 1 - i) = 1 := by simp only [Nat.min_def]; split <;> omega
  have := pG (P := Tryz.prog) W 27 27 ty 37 4 w.heap.size (i * 4) (n + 1 - i) dc ⟨vb, voff, none⟩ 1 vc vs t27 Tryz.sz37 (by rw [hmin, hvl])
   (fun j v hj => by rw [Addr.add_lit, hWc]; exact hOv _ v (hvs j v hj))
   (fun j hj => by rw [hWc]; exact hN _ (by omega)) (fun j hj => by rw [hWf]; exact hNf _) h1v
  rwa [hmin] at this
 have hG63 : G ≤ 9223372036854775807 := by
  have := grownCap_le_maxLen w (n + 1) c 37 (by unfold maxLen; omega)
  rw [← hG] at this
  unfold maxLen at this
  omega
 have hGi : ¬ (G = i) := by omega
 have hGim : ¬ (G = i + 1) := by omega
 have hci : ¬ (c = i) := by omega
 have hbN : g ≠ w.heap.size := by omega
 have hdl : (cs.drop (i * 4)).length = (n - i) * 4 := by rw [List.length_drop, hcl]; omega
 have hcpB : ∀ (W : World), (∀ x, W.cell? x = (W1.setCells w.heap.size (i * 4) vs).cell? x) → (∀ x, W.frozen? x = (W1.setCells w.heap.size (i * 4) vs).frozen? x) → ∀ ty dc sc, (Builtin.copy_ #[27, 27] ty #[.slice (some ⟨w.heap.size, (i + 1) * 4, none⟩) (n - i) dc, .slice (some ⟨g, i * 4, none⟩) (n - i) sc]).run Tryz.prog W = .ok (goInt ((n - i : Nat) : Int)) (W.setCells w.heap.size ((i + 1) * 4) (cs.drop (i * 4))) := fun W hWc hWf ty dc sc => by
  have hmin : Nat.min (n - i) (n - i) = n - i := by simp
  have := pG (P := Tryz.prog) W 27 27 ty 37 4 w.heap.size ((i + 1) * 4) (n - i) dc ⟨g, i * 4, none⟩ (n - i) sc (cs.drop (i * 4)) t27 Tryz.sz37 (by rw [hmin, hdl])
   (fun j v hj => by
    rw [Addr.add_lit, hWc, World.cell?_setCells_out _ _ _ _ _ (fun h _ => absurd h hbN)]
    exact hOb _ v (hcs (i * 4 + j) v (by rwa [List.getElem?_drop] at hj)))
   (fun j hj => by rw [hWc]; exact isSome_setCells w.heap.size vs (i * 4) W1 (fun t ht => hN _ (by omega)) _ (hN _ (by rw [hdl] at hj; omega)))
   (fun j hj => by rw [hWf, World.frozen?_setCells]; exact hNf _) (fun v hv => h1c v (List.mem_of_mem_drop hv))
  rwa [hmin] at this
 subst hW1
 have hE1 : ∀ x, ((w.alloc (.cells ROW 37)).drew).cell? x = (w.drew.alloc (.cells ROW 37)).cell? x := fun x => rfl
 have hE2 : ∀ x, ((w.alloc (.cells ROW 37)).drew).frozen? x = (w.drew.alloc (.cells ROW 37)).frozen? x := fun x => rfl
 have hF1 : ∀ x, (((w.alloc (.cells ROW 37)).drew.setCells w.heap.size (i * 4) vs).drew).cell? x = ((w.drew.alloc (.cells ROW 37)).setCells w.heap.size (i * 4) vs).cell? x := fun x => rfl
 have hF2 : ∀ x, (((w.alloc (.cells ROW 37)).drew.setCells w.heap.size (i * 4) vs).drew).frozen? x = ((w.drew.alloc (.cells ROW 37)).setCells w.heap.size (i * 4) vs).frozen? x := fun x => rfl
 have hw1 : IntKind.i64.wrap ((i : Int) + 1) = (i : Int) + 1 := by rw [IntKind.wrap_i64]; omega
 have hw2 : IntKind.i64.wrap ((n : Int) + 1) = (n : Int) + 1 := by rw [IntKind.wrap_i64]; omega
 have hw3 : IntKind.i64.wrap ((n : Int) + 1 - (i : Int)) = (n : Int) + 1 - (i : Int) := by rw [IntKind.wrap_i64]; omega
 have hb1 : (0 : Int) ≤ (i : Int) + 1 := by omega
 have htn : ((i : Int) + 1).toNat = i + 1 := by omega
 have hb3 : (i : Int) ≤ (n : Int) := by omega
 have hb5 : (i : Int) + 1 ≤ (n : Int) + 1 := by omega
 have hb6 : (i : Int) ≤ (n : Int) + 1 := by omega
 have hin : i ≤ n := by omega
 clear hkk hik hold hROW hG hRl
 refine calls_of_wp Tryz.func39 rfl ?_
 simp only [Tryz.ntmps39, List.size_toArray, List.length_cons, List.length_nil, Nat.reduceAdd, Nat.reduceSub, Array.replicate_succ,
   Array.replicate_zero, List.push_toArray, List.append_toArray, List.nil_append, List.cons_append]
 go_wp2_with (first
  | (at_builtin; refine Lib.wpList_append_run _ rfl _ _ _ _ rfl _ _ rfl rfl _ _ (hrz _) ?_)
  | (at_builtin; refine wpList_copy_runI _ rfl _ _ 27 27 rfl _ _ rfl rfl (hcpA _ hE1 hE2 _ _) ?_)
  | (at_builtin; refine wpList_copy_runI _ rfl _ _ 27 27 rfl _ _ rfl rfl (hcpB _ (fun _ => rfl) (fun _ => rfl) _ _ _) ?_))
 go_region_law_o (refine step_copy_runI rfl _ _ 27 27 rfl (.slice (some ⟨w.heap.size, (i + 1) * 4, none⟩) (n - i) (G - (i + 1))) (.slice (some ⟨g, i * 4, none⟩) (n - i) (c - i)) (by simp [Act.eval, Act.put]) (by simp [Act.eval, Act.put]) (hcpB _ hF1 hF2 3 (G - (i + 1)) (c - i)) ?_)
 go_wp2
 go_ret
 exact ⟨rfl, rfl⟩
end Go.Proofs
end
section
set_option maxRecDepth 100000
namespace Go.Proofs
open Go.Shelf Go.RowKit Go.Lib
theorem bFz {α : Type} (l r : List α) (v : α) (o : Nat) (h : o < l.length) : (l.set o v).take (o + 1) ++ r ++ (l.set o v).drop (o + 1 + r.length) = l.take o ++ v :: r ++ l.drop (o + (r.length + 1)) := by
 apply List.ext_getElem?
 intro j
 simp only [List.getElem?_append, List.length_append, List.length_take, List.length_set, List.getElem?_take, List.getElem?_drop, List.getElem?_set, List.length_cons]
 by_cases h1 : j < o
 ·rw [if_pos (by omega), if_pos (by omega), if_pos (by omega), if_neg (by omega), if_pos (by omega), if_pos (by omega), if_pos (by omega)]
 by_cases h2 : j = o
 ·subst h2
  rw [if_pos (by omega), if_pos (by omega), if_pos (by omega), if_pos rfl, if_pos h, if_pos (by omega), if_neg (by omega), Nat.min_eq_left (by omega), Nat.sub_self]; rfl
 by_cases h3 : j < o + 1 + r.length
 ·rw [if_pos (by omega), if_neg (by omega), if_pos (by omega), if_neg (by omega), Nat.min_eq_left (by omega), Nat.min_eq_left (by omega), show j - o = (j - (o + 1)) + 1 by omega, List.getElem?_cons_succ]
 rw [if_neg (by omega), if_neg (by omega), if_neg (by omega)]
 congr 1; omega
theorem oO (g : Nat) (e : TypeId) : ∀ (vs : List Value) (o : Nat) (w : World) (cur : List Value), w.heap[g]? = some (.cells cur.toArray e (0, 0)) → o + vs.length ≤ cur.length →
  (w.setCells g o vs).heap[g]? = some (.cells (cur.take o ++ vs ++ cur.drop (o + vs.length)).toArray e (0, 0))
 | [], o, w, cur, h, _ => by simpa [World.setCells] using h
 | v :: r, o, w, cur, h, hl => by
  simp only [List.length_cons] at hl
  rw [World.setCells, setCell_eq_setRow w g o _ e (0, 0) v h]
  have h2 : (w.setRow g (cur.toArray.setIfInBounds o v)).heap[g]? = some (.cells (cur.set o v).toArray e (0, 0)) := by
   rw [setRow_heap w g _ _ e (0, 0) h]; simp
  rw [oO g e r (o + 1) _ (cur.set o v) h2 (by simp; omega), bFz cur r v o (by omega)]
  rfl
theorem nH (g : Nat) : ∀ (vs : List Value) (o : Nat) (w : World), w.grownBy (w.setCells g o vs) (some g)
 | [], _, w => World.grownBy.refl w _
 | v :: r, o, w => by
  have h := nH g r (o + 1) (w.setCell ⟨g, o, none⟩ v)
  refine ⟨h.os, h.tape, h.output, ?_, fun k hk hne => ?_⟩
  ·have := h.size; simp only [World.setCell, Array.size_modify] at this; exact this
  have h2 := h.block k (by simpa [World.setCell] using hk) hne
  rw [World.setCells, h2]
  have : g ≠ k := fun e => hne (by rw [e])
  simp [World.setCell, Array.getElem?_modify, this]
theorem grownBy_trans {w w1 w2 : World} {r : Option Nat} (h : w.grownBy w1 r) (k : w1.grownBy w2 r) : w.grownBy w2 r :=
 ⟨k.os.trans h.os, k.tape.trans h.tape, k.output.trans h.output, Nat.le_trans h.size k.size, fun j hj hne => (k.block j (Nat.lt_of_lt_of_le hj h.size) hne).trans (h.block j hj hne)⟩
theorem grownBy_drew (w : World) (r : Option Nat) : w.grownBy w.drew r := ⟨rfl, rfl, rfl, Nat.le_refl _, fun _ _ _ => rfl⟩
theorem bEz {α : Type} (cur cs vs : List α) (i n c : Nat) (hcl : cs.length = n * 4) (hvl : vs.length = 4) (hin : i ≤ n) (hroom : (n + 1) * 4 ≤ c) (hc : cur.length = c) (ht : cur.take (n * 4) = cs) :
  (((cur.take ((i + 1) * 4) ++ cs.drop (i * 4) ++ cur.drop ((i + 1) * 4 + (cs.drop (i * 4)).length)).take (i * 4) ++ vs ++ (cur.take ((i + 1) * 4) ++ cs.drop (i * 4) ++ cur.drop ((i + 1) * 4 + (cs.drop (i * 4)).length)).drop (i * 4 + vs.length)).take ((n + 1) * 4)) = cs.take (i * 4) ++ vs ++ cs.drop (i * 4) := by
 have hd : (cs.drop (i * 4)).length = n * 4 - i * 4 := by rw [List.length_drop, hcl]
 apply List.ext_getElem?
 intro j
 simp only [List.getElem?_take, List.getElem?_append, List.getElem?_drop, List.length_append, List.length_take, List.length_drop, hd, hvl, hcl, hc]
 have hcs : ∀ j, j < n * 4 → cs[j]? = cur[j]? := fun j hj => by rw [← ht, List.getElem?_take, if_pos hj]
 by_cases h1 : j < i * 4
 ·repeat rw [if_pos (by omega)]
  exact (hcs j (by omega)).symm
 by_cases h2 : j < i * 4 + 4
 ·rw [if_pos (by omega), if_pos (by omega), if_neg (by omega), if_pos (by omega), if_neg (by omega)]
  congr 1; omega
 by_cases h3 : j < (n + 1) * 4
 ·rw [if_pos (by omega), if_neg (by omega), if_pos (by omega), if_neg (by omega), if_neg (by omega)]
  congr 1; omega
 rw [if_neg (by omega), if_neg (by omega)]
 exact (List.getElem?_eq_none (by omega)).symm
theorem bB0 {α : Type} (ROW cs vs : List α) (i n c : Nat) (hcl : cs.length = n * 4) (hvl : vs.length = 4) (hin : i ≤ n) (hroom : (n + 1) * 4 ≤ c) (hc : ROW.length = c) (ht : ROW.take (i * 4) = cs.take (i * 4)) :
  (((ROW.take (i * 4) ++ vs ++ ROW.drop (i * 4 + vs.length)).take ((i + 1) * 4) ++ cs.drop (i * 4) ++ (ROW.take (i * 4) ++ vs ++ ROW.drop (i * 4 + vs.length)).drop ((i + 1) * 4 + (cs.drop (i * 4)).length)).take ((n + 1) * 4)) = cs.take (i * 4) ++ vs ++ cs.drop (i * 4) := by
 have hd : (cs.drop (i * 4)).length = n * 4 - i * 4 := by rw [List.length_drop, hcl]
 rw [ht]
 apply List.ext_getElem?
 intro j
 simp only [List.getElem?_take, List.getElem?_append, List.getElem?_drop, List.length_append, List.length_take, List.length_drop, hd, hvl, hcl, hc]
 by_cases h1 : j < i * 4
 ·repeat rw [if_pos (by omega)]
 by_cases h2 : j < i * 4 + 4
 ·repeat' split
  all_goals first | rfl | (exfalso; omega) | (congr 1; omega)
 by_cases h3 : j < (n + 1) * 4
 ·rw [if_pos (by omega), if_pos (by omega), if_neg (by omega), if_neg (by omega)]
  congr 1; omega
 rw [if_neg (by omega), if_neg (by omega)]
 exact (List.getElem?_eq_none (by omega)).symm
end Go.Proofs
namespace Ab
open Go Go.Proofs Go.RowKit
abbrev cSd : Ty := .cons (.int .i64) (.cons (.int .i64) (.cons (.int .i64) (.cons (.sl (.int .i64)) .nil)))
def T39 : List (Nat × TI) := [
 (3, { k := .int .i64, n := 1, z := [.d (.val (.int .i64) (0 : Int))] }),
 (23, { k := .slice, n := 1, el := 3, er := (.int .i64), eb := 8, z := [.s 3 (.int .i64)] }),
 (27, { k := .slice, n := 1, el := 37, er := cSd, eb := 48, z := [.s 37 cSd] })]
theorem tt39 : TTok Tryz.prog (lk T39) := aMt (by kernel_rfl)
theorem bH2 : ∃ i0 z, Tryz.prog.info? 37 = some i0 ∧ i0.zero = some z ∧ i0.size = 4 ∧ i0.bytes = 48 ∧ z.cells.size = 4 := by
 obtain ⟨I⟩ := tt39.info (t := 27) (ti := { k := .slice, n := 1, el := 37, er := cSd, eb := 48, z := [.s 37 cSd] }) rfl
 obtain ⟨hd, hpos, i, z, hi, hn, hby, hz, hzc⟩ := kQ I.hd rfl
 refine ⟨i, z, hi, hz, hn, hby, ?_⟩
 have := congrArg List.length hzc
 simp at this
 rw [this]
 exact (Rep.z default (fun _ => none) cSd).len
def bIm (w : World) (pr : dU) (v : Value) (n i : Nat) (cs : List Value) (y : cSd.T) (e : Ending) (w' : World) : Prop :=
 ∃ v' news, e = .returned v' ∧ w'.ownsRow 0 37 4 v' (n + 1) (cs.take (i * 4) ++ news ++ cs.drop (i * 4)) ∧ w.grownBy w' v.ownBlock ∧ (∀ b, v'.ownBlock = some b → v.ownBlock = some b ∨ w.heap.size ≤ b) ∧
  Ab.Rows w pr cSd [y] news ∧ ∀ u ∈ news, u.oneCell' = true
theorem bGw (w : World) (pr : dU) (v : Value) (n i : Nat) (cs vs : List Value) (y : cSd.T) (vb voff vc : Nat) (hown : w.ownsRow 0 37 4 v n cs) (hin : i ≤ n) (hbig : fits (n + 1) 48 = true) (hvl : vs.length = 4)
  (hvs : ∀ j u, vs[j]? = some u → w.cell? ⟨vb, voff + j, none⟩ = some u) (hrow : Rep w pr cSd y vs) (h1c : ∀ u ∈ cs, u.oneCell' = true) (hvn : v.ownBlock ≠ some vb) :
  Calls Tryz.prog 39 #[v, .int .i64 i, .slice (some ⟨vb, voff, none⟩) 1 vc] w fun e w' => bIm w pr v n i cs y e w' := by
 obtain ⟨I⟩ := tt39.info (t := 27) (ti := { k := .slice, n := 1, el := 37, er := cSd, eb := 48, z := [.s 37 cSd] }) rfl
 have h1v : ∀ u ∈ vs, u.oneCell' = true := hrow.oneCell
 have hfit := hbig
 simp only [fits, decide_eq_true_eq] at hfit
 have hcl : cs.length = n * 4 := hown.1
 have hend : i = n → Calls Tryz.prog 39 #[v, .int .i64 i, .slice (some ⟨vb, voff, none⟩) 1 vc] w fun e w' => bIm w pr v n i cs y e w' := by
  intro hi
  subst hi
  have hs : HC w pr cSd [y] (.slice (some ⟨vb, voff, none⟩) 1 vc) := ⟨_, vc, rfl, .inr ⟨_, vs, rfl, hvl, fun j u hj => by rw [Addr.add_lit]; exact hvs j u hj, fun k z hz => by
   cases k with
   | zero =>
    simp only [List.getElem?_cons_zero, Option.some.injEq] at hz
    subst hz
    rw [Nat.zero_mul, List.drop_zero, List.take_of_length_le (by rw [hvl]; exact Nat.le_refl 4)]
    exact hrow
   | succ k => simp at hz, h1v⟩⟩
  obtain ⟨v', w', news, hr, ho, hg, hrn, h1n, hb⟩ := aHq (P := Tryz.prog) I rfl rfl hown hs hbig (ty := 27)
  have hcs0 : cs.take (i * 4) = cs := List.take_of_length_le (by omega)
  have hcs1 : cs.drop (i * 4) = [] := List.drop_of_length_le (by omega)
  have hfin : ∀ e w2, e = Ending.returned v' ∧ w2 = w' → bIm w pr v i i cs y e w2 := fun e w2 h => by
   obtain ⟨rfl, rfl⟩ := h
   exact ⟨v', news, rfl, by rw [hcs0, hcs1, List.append_nil]; exact ho, hg, hb, hrn, h1n⟩
  rcases hown.2 with ⟨rfl, h0⟩ | ⟨g, cap, cur, rfl, _, hg', hnc, hcm, _⟩
  ·subst h0
   exact (Tryz.ins_nil w w' v' vb voff vc (fun ty => hr)).mono hfin
  ·exact (Tryz.ins_end w w' v' g i cap vb voff vc hnc (by unfold maxLen at hcm; omega) (fun ty => hr)).mono hfin
 have hrow1 : Ab.Rows w pr cSd [y] vs := fun k z hz => by
  cases k with
  | zero =>
   simp only [List.getElem?_cons_zero, Option.some.injEq] at hz
   subst hz
   rw [Nat.zero_mul, List.drop_zero, List.take_of_length_le (by rw [hvl]; exact Nat.le_refl 4)]
   exact hrow
  | succ k => simp at hz
 by_cases hi : i = n
 ·exact hend hi
 have hi : i < n := by omega
 rcases hown.2 with ⟨rfl, h0⟩ | ⟨g, c, cur, rfl, _, hg, hnc, hcm, hcs, htake⟩
 ·omega
 have hcell : ∀ j u, cs[j]? = some u → w.cell? ⟨g, j, none⟩ = some u := fun j u hj => by
  rw [cell_of_row w g j cur 37 (0, 0) hg]
  rw [← htake, List.getElem?_take] at hj
  split at hj
  ·simpa using hj
  ·cases hj
 have hne : vb ≠ g := fun e => hvn (by simp [Value.ownBlock, e])
 have hfz : ∀ j, w.frozen? ⟨g, j, none⟩ = false := fun j => by simp [World.frozen?, hg]
 have hcurl : cur.toList.length = c * 4 := by simpa using hcs
 by_cases hroom : n + 1 ≤ c
 ·obtain ⟨tA, kA, hsa, hkA⟩ : ∃ tA kA, w.shape? vb = some (tA, kA) ∧ kA ≠ 0 := by
   have h := hvs 0 _ (List.getElem?_eq_getElem (by omega))
   unfold World.cell? at h
   unfold World.shape?
   cases hb : w.heap[vb]? with
   | none => rw [hb] at h; cases h
   | some o =>
    cases o with
    | cells arr e fr =>
     rw [hb] at h
     have h : arr[voff + 0]? = some vs[0] := h
     refine ⟨e, arr.size, rfl, fun h0 => ?_⟩
     rw [Array.getElem?_eq_none (by omega)] at h
     cases h
    | _ => rw [hb] at h; cases h
  refine (Tryz.ins_shift w g n c i vb voff vc cs vs hi hroom (by unfold maxLen at hcm; omega) (fun e => hne e) hcl hvl hcell (fun j hj => by
    rw [cell_of_row w g j cur 37 (0, 0) hg, Array.getElem?_eq_getElem (by omega)]; rfl) hfz hvs h1c h1v tA 37 kA cur.size hsa (by simp [World.shape?, hg]) hkA).mono ?_
  rintro e w' ⟨rfl, rfl⟩
  have e1 := oO g 37 (cs.drop (i * 4)) ((i + 1) * 4) w.drew cur.toList (by rw [Array.toArray_toList]; exact hg) (by rw [List.length_drop, hcl, hcurl]; omega)
  have e2 := oO g 37 vs (i * 4) _ _ e1 (by simp only [List.length_append, List.length_take, List.length_drop, hcl, hcurl, hvl]; omega)
  refine ⟨_, vs, rfl, ⟨?_, .inr ⟨g, c, _, rfl, Nat.zero_le _, e2, hroom, hcm, ?_, ?_⟩⟩, ?_, fun b hb => .inl hb, hrow1, h1v⟩
  ·simp only [List.length_append, List.length_take, List.length_drop, hcl, hvl]; omega
  ·simp only [List.size_toArray, List.length_append, List.length_take, List.length_drop, hcl, hcurl, hvl]; omega
  ·exact bEz cur.toList cs vs i n (c * 4) hcl hvl hin (by omega) hcurl htake
  exact grownBy_trans (grownBy_drew w _) (grownBy_trans (nH g _ _ _) (nH g _ _ _))
 obtain ⟨i0, z, hi0, hz0, hzs, hzb, hzl⟩ := bH2
 refine (Tryz.ins_grow w g n c i vb voff vc cs vs hi hnc (by omega) (by omega) hcl hvl hcell hvs h1c h1v i0 hi0 z hz0 hzs hzb hzl).mono ?_
 rintro e w' ⟨rfl, rfl⟩
 obtain ⟨G, hG⟩ : ∃ G, G = grownCap w (n + 1) c 37 := ⟨_, rfl⟩
 have hGn : n + 1 ≤ G := by rw [hG]; exact grownCap_ge w _ _ _
 have hGm : G ≤ maxLen := by rw [hG]; exact grownCap_le_maxLen w (n + 1) c 37 (by unfold maxLen; omega)
 rw [← hG]
 obtain ⟨ROW, hROW⟩ : ∃ ROW : List Value, ROW = cs.take (i * 4) ++ (Builtin.zeroCells z.cells (n + 1 - i)).toList ++ (Builtin.zeroCells z.cells (G - (n + 1))).toList := ⟨_, rfl⟩
 have hA : ((cs.take (i * 4)).toArray ++ Builtin.zeroCells z.cells (n + 1 - i) ++ Builtin.zeroCells z.cells (G - (n + 1))) = ROW.toArray := by rw [hROW]; simp
 have hRl : ROW.length = G * 4 := by
  rw [hROW]
  simp [Builtin.zeroCells, hzl, hcl]
  omega
 rw [hA]
 have e0 : ((w.alloc (.cells ROW.toArray 37)).drew).heap[w.heap.size]? = some (.cells ROW.toArray 37 (0, 0)) := heap_alloc_new w _
 have e1 := oO w.heap.size 37 vs (i * 4) _ ROW e0 (by rw [hRl, hvl]; omega)
 have e2 := oO w.heap.size 37 (cs.drop (i * 4)) ((i + 1) * 4) (((w.alloc (.cells ROW.toArray 37)).drew).setCells w.heap.size (i * 4) vs).drew _ e1 (by simp only [List.length_append, List.length_take, List.length_drop, hcl, hRl, hvl]; omega)
 refine ⟨_, vs, rfl, ⟨?_, .inr ⟨_, G, _, rfl, Nat.zero_le _, e2, hGn, hGm, ?_, ?_⟩⟩, ?_, fun b hb => .inr (by simp only [Value.ownBlock, Option.some.injEq] at hb; omega), hrow1, h1v⟩
 ·simp only [List.length_append, List.length_take, List.length_drop, hcl, hvl]; omega
 ·simp only [List.size_toArray, List.length_append, List.length_take, List.length_drop, hcl, hRl, hvl]; omega
 ·exact bB0 ROW cs vs i n (G * 4) hcl hvl hin (by omega) hRl (by rw [hROW, List.append_assoc, List.take_append, List.take_take, Nat.min_self, List.length_take, hcl, Nat.min_eq_left (by omega), Nat.sub_self, List.take_zero, List.append_nil])
 have g0 := World.grownBy_alloc w (.cells ROW.toArray 37) none
 have g1 := nH w.heap.size vs (i * 4) ((w.alloc (.cells ROW.toArray 37)).drew)
 have g2 := nH w.heap.size (cs.drop (i * 4)) ((i + 1) * 4) (((w.alloc (.cells ROW.toArray 37)).drew).setCells w.heap.size (i * 4) vs).drew
 have s0 : w.heap.size ≤ ((w.alloc (.cells ROW.toArray 37)).drew).heap.size := g0.size
 refine ⟨g2.os.trans (g1.os.trans g0.os), g2.tape.trans (g1.tape.trans g0.tape), g2.output.trans (g1.output.trans g0.output), Nat.le_trans s0 (Nat.le_trans g1.size g2.size), fun k hk hne => ?_⟩
 have hkn : some k ≠ some w.heap.size := fun e => by cases e; omega
 exact (g2.block k (Nat.lt_of_lt_of_le hk (Nat.le_trans s0 g1.size)) hkn).trans ((g1.block k (Nat.lt_of_lt_of_le hk s0) hkn).trans (g0.block k hk (by simp)))
theorem Rows.takeR {w : World} {pr : dU} {r : Ty} {xs : List r.T} {cs : List Value} (h : Ab.Rows w pr r xs cs) (i : Nat) : Ab.Rows w pr r (xs.take i) (cs.take (i * r.n)) := fun k z hz => by
 rw [List.getElem?_take] at hz
 split at hz
 ·rename_i hk
  have := h k z hz
  have hm : k * r.n + r.n ≤ i * r.n := by rw [← Nat.succ_mul]; exact Nat.mul_le_mul_right _ hk
  rwa [List.drop_take, List.take_take, Nat.min_eq_left (by omega)]
 cases hz
theorem Rows.dropR {w : World} {pr : dU} {r : Ty} {xs : List r.T} {cs : List Value} (h : Ab.Rows w pr r xs cs) (i : Nat) : Ab.Rows w pr r (xs.drop i) (cs.drop (i * r.n)) := fun k z hz => by
 rw [List.getElem?_drop] at hz
 have := h (i + k) z hz
 rwa [List.drop_drop, ← Nat.add_mul]
theorem xN : FnOK Tryz.prog 39 ⟨.cons (.own 37 cSd) (.cons (.sc (.int .i64)) (.cons (.sc (.sl cSd)) .nil)), .own 37 cSd, gJ, []⟩ := by
 refine FnOK.plain rfl (fn_ent Tryz.func39 (by kernel_rfl) (by kernel_rfl)) fun C ρ args w (x : List cSd.T × Int × List cSd.T) y hy hG M q => ?_
 have hy : gJ x = some y := hy
 obtain ⟨xs, i, vs⟩ := x
 change (bif (decide (0 ≤ i) && decide (i ≤ xs.length) && decide (vs.length = 1) && fits (xs.length + 1) 48) then some (xs.take i.toNat ++ vs ++ xs.drop i.toNat) else none : Option (List cSd.T)) = some y at hy
 cases hb : (decide (0 ≤ i) && decide (i ≤ xs.length) && decide (vs.length = 1) && fits (xs.length + 1) 48) with
 | false => rw [hb] at hy; cases hy
 | true =>
 rw [hb] at hy
 simp only [cond_true] at hy
 obtain rfl := Option.some.inj hy
 simp only [Bool.and_eq_true, decide_eq_true_eq] at hb
 obtain ⟨⟨⟨hi0, hi1⟩, hvl⟩, hfit⟩ := hb
 obtain ⟨y0, rfl⟩ := List.length_eq_one_iff.1 hvl
 have hk : St.obj ⟨[], jN (dS (.cons (.own 37 cSd) (.cons (.sc (.int .i64)) (.cons (.sc (.sl cSd)) .nil))) (xs, i, [y0])).os⟩ 1000000 = some (.chunk 37 cSd xs) := rfl
 generalize hσ : (⟨[], jN (dS (.cons (.own 37 cSd) (.cons (.sc (.int .i64)) (.cons (.sc (.sl cSd)) .nil))) (xs, i, [y0])).os⟩ : St) = σ at hk
 have M : Mo C σ ρ C.pr (fun _ => undef) w := by rw [← hσ]; exact M
 obtain ⟨h0, hB, cells, hown, hrows, h1⟩ := M.hp 1000000 _ hk
 have q' : Rp (fun n => lk (dS (.cons (.own 37 cSd) (.cons (.sc (.int .i64)) (.cons (.sc (.sl cSd)) .nil))) (xs, i, [y0])).os n) ρ w C.pr (.cons (.hd 1000000) (.cons (.val (.int .i64) i) (.cons (.val (.sl cSd) [y0]) .nil))) args.toList := q
 obtain ⟨v, d, hv, q1, v2, d2, rfl, q3, v3, d3, rfl, q5, q6⟩ := q'
 have q6 : d3 = [] := q6
 subst q6
 have e1 : v = (ρ 1000000).hdr := by have := q1.2; simpa using this
 have e2 : v2 = .int .i64 i := jZ q3
 obtain ⟨A, c, e3, _, hcm, hx⟩ := q5.2
 rcases hx with hx | ⟨b, o, rfl, hpb, hx⟩
 ·simp at hx
 obtain ⟨ncs, hnl, hrd, hrep⟩ := hx 0 y0 rfl
 rw [Nat.zero_mul, Nat.add_zero] at hrd
 have e3 : v3 = .slice (some ⟨b, o, none⟩) 1 c := by simpa using e3
 have ha : args = #[(ρ 1000000).hdr, .int .i64 (i.toNat : Int), .slice (some ⟨b, o, none⟩) 1 c] := by
  apply Array.ext'
  rw [hv, e1, e2, e3, show (i.toNat : Int) = i by omega]
 subst ha
 have hown0 : own σ.obj ρ 1000000 = (ρ 1000000).hdr.ownBlock := by simp only [own, hk]
 have hvn : (ρ 1000000).hdr.ownBlock ≠ some b := by rw [← hown0]; exact (M.prot b _ hpb).2 _
 refine (bGw w C.pr (ρ 1000000).hdr xs.length i.toNat cells ncs y0 b o c hown (by omega) hfit hnl hrd hrep h1 hvn).mono ?_
 rintro e w' ⟨v', news, rfl, ho', hg, hbn, hrn, h1n⟩
 have hnew : ∀ b, b < w.heap.size → own σ.obj ρ 1000000 ≠ some b → w'.heap[b]? = w.heap[b]? := fun b hb hne => hg.block b hb (by rw [← hown0]; exact fun e => hne e.symm)
 have hp : PrLe w C.pr w' C.pr := fun b r h => ⟨h, hnew b (M.prot b r h).1 ((M.prot b r h).2 _)⟩
 have hcl : cells.length = xs.length * 4 := hown.1
 have R := M.repl (k := 1000000) (o' := .chunk 37 cSd (xs.take i.toNat ++ [y0] ++ xs.drop i.toNat)) (ρ' := fun j => if j = 1000000 then ⟨v', match v'.ownBlock with | some b => b | none => 0⟩ else ρ j) (w' := w') hk (fun j e => by simp [e]) hg.os hg.tape hg.output hg.size hnew
  ⟨h0, by simp only [if_true]; intro b hb; rw [hb], cells.take (i.toNat * 4) ++ news ++ cells.drop (i.toNat * 4), by
    simp only [if_true]
    have : (xs.take i.toNat ++ [y0] ++ xs.drop i.toNat).length = xs.length + 1 := by simp; omega
    rw [this]; exact ho', by
    refine Rows.app (Rows.app ((Rows.takeR hrows _).mono hp) (hrn.mono hp) ?_) ((Rows.dropR hrows _).mono hp) ?_
    ·show (cells.take (i.toNat * 4)).length = (xs.take i.toNat).length * 4
     rw [List.length_take, List.length_take, hcl]; omega
    ·show (cells.take (i.toNat * 4) ++ news).length = (xs.take i.toNat ++ [y0]).length * 4
     have hl := ho'.1
     simp only [List.length_append, List.length_take, List.length_drop, List.length_singleton, hcl] at hl ⊢; omega, fun u hu => by
    rcases List.mem_append.1 hu with hu | hu
    ·rcases List.mem_append.1 hu with hu | hu
     ·exact h1 u (List.mem_of_mem_take hu)
     ·exact h1n u hu
    ·exact h1 u (List.mem_of_mem_drop hu)⟩
  (fun b hb => by
   have : own ((σ.stale 1000000).put 1000000 (.chunk 37 cSd (xs.take i.toNat ++ [y0] ++ xs.drop i.toNat))).obj (fun j => if j = 1000000 then ⟨v', match v'.ownBlock with | some b => b | none => 0⟩ else ρ j) 1000000 = v'.ownBlock := by
    simp only [own, St.obj_put, if_true]
   rw [this] at hb
   rw [hown0]; exact hbn b hb)
 refine ⟨v', rfl, _, _, C.pr, _, .hd 1000000, xs.take i.toNat ++ [y0] ++ xs.drop i.toNat, [1000000], [], R.1, ?_, rfl, ⟨⟨_, by rw [St.obj_put, if_pos rfl], rfl⟩, by simp⟩, rfl⟩
 subst hσ
 rfl
end Ab
end
section
namespace Go.Proofs
open Go.Shelf Go.RowKit
theorem Tryz.itoa_c (n : Int) (h0 : -9223372036854775808 ≤ n) (h1 : n ≤ 9223372036854775807) (w : World) (htab : Lib.TabIs Tryz.prog w "internal/strconv.uint64pow10" .u64 Lib.pow10Tab) :
  Calls Tryz.prog 182 #[.int .i64 n] w fun e w' => e = .returned (.string ⟨(Lib.itoa n).toArray⟩) ∧ ∃ k os, w' = Go.Sort.grow (w.drewN k) os :=
 Any.strconv_Itoa Tryz.laysItoa n h0 h1 w htab
theorem Tryz.sizeB : (Tryz.prog.info? 162).map (·.size) = some 2 := by kernel_rfl
theorem Tryz.liesB : liesAt Tryz.prog Tryz.prog.depth 162 (2 / Tryz.prog.cellsOf 162) 0 162 1 = true := by kernel_rfl
theorem Tryz.infoB : (Tryz.prog.info? 5).map (fun i => (i.zero, i.size, i.bytes)) = some (some (.int .u8 0), 1, 1) := by kernel_rfl
theorem Tryz.builderX : Builder.Extra Tryz.prog Tryz.laysStr_ren := {
 sizeBuilder := by kernel_rfl
 liesBuilder := by kernel_rfl
 t5 := Tryz.underlying5
 a5 := Tryz.isAgg5
 z5 := Tryz.sizeOf5
 v5 := Tryz.zeroValue5
 infoByte := by kernel_rfl
 cellsByte := by kernel_rfl
 sizeByte := by kernel_rfl
 neB5 := by decide }
set_option maxHeartbeats 1000000 in
set_option maxRecDepth 100000 in
theorem Tryz.bCheck_used (b : Nat) (w : World) (h0 : w.cell? ⟨b, 0, none⟩ = some (.pointer (some ⟨b, 0, none⟩))) :
  Calls Tryz.prog 126 #[.pointer (some ⟨b, 0, none⟩)] w fun e w' => e = .returned (.tuple #[]) ∧ w' = w := by
 obtain ⟨j, hj, _⟩ := Option.map_eq_some_iff.1 Tryz.sizeB
 have mixed : Tryz.prog.follows .mixedOrders = true := by kernel_rfl
 have t72 := Tryz.underlying162; have a72 := Tryz.isAgg162; have z72 := Tryz.sizeOf162; have v72 := Tryz.zeroValue162; have u72 := run_underlying Tryz.underlying162
 have t70 := Tryz.underlying160; have a70 := Tryz.isAgg160; have z70 := Tryz.sizeOf160; have v70 := Tryz.zeroValue160; have u70 := run_underlying Tryz.underlying160
 have t9 := Tryz.underlying9; have a9 := Tryz.isAgg9; have z9 := Tryz.sizeOf9; have v9 := Tryz.zeroValue9; have u9 := run_underlying Tryz.underlying9
 have t4 := Tryz.underlying4; have a4 := Tryz.isAgg4; have z4 := Tryz.sizeOf4; have v4 := Tryz.zeroValue4; have u4 := run_underlying Tryz.underlying4
 have t164 := Tryz.underlying216; have a164 := Tryz.isAgg216; have z164 := Tryz.sizeOf216; have v164 := Tryz.zeroValue216; have u164 := run_underlying Tryz.underlying216
 go_enter Tryz.func126, Tryz.ntmps126
 go_wp2
 rw [Lib.run_neq_ptr_same w _ Tryz.underlying160 hj]
 go_wp2
 go_end0
 exact ⟨rfl, rfl⟩
set_option maxHeartbeats 1000000 in
set_option maxRecDepth 100000 in
theorem Tryz.bCheck_fresh (b : Nat) (w : World) (h0 : w.cell? ⟨b, 0, none⟩ = some (.pointer none)) (hsh : w.shape? b = some (162, 2)) (hfz : w.frozen? ⟨b, 0, none⟩ = false) :
  Calls Tryz.prog 126 #[.pointer (some ⟨b, 0, none⟩)] w fun e w' => e = .returned (.tuple #[]) ∧ w' = w.setCell ⟨b, 0, none⟩ (.pointer (some ⟨b, 0, none⟩)) := by
 obtain ⟨j, hj, hjs⟩ := Option.map_eq_some_iff.1 Tryz.sizeB
 have mixed : Tryz.prog.follows .mixedOrders = true := by kernel_rfl
 have t72 := Tryz.underlying162; have a72 := Tryz.isAgg162; have z72 := Tryz.sizeOf162; have v72 := Tryz.zeroValue162; have u72 := run_underlying Tryz.underlying162
 have t70 := Tryz.underlying160; have a70 := Tryz.isAgg160; have z70 := Tryz.sizeOf160; have v70 := Tryz.zeroValue160; have u70 := run_underlying Tryz.underlying160
 have t9 := Tryz.underlying9; have a9 := Tryz.isAgg9; have z9 := Tryz.sizeOf9; have v9 := Tryz.zeroValue9; have u9 := run_underlying Tryz.underlying9
 have t4 := Tryz.underlying4; have a4 := Tryz.isAgg4; have z4 := Tryz.sizeOf4; have v4 := Tryz.zeroValue4; have u4 := run_underlying Tryz.underlying4
 have t164 := Tryz.underlying216; have a164 := Tryz.isAgg216; have z164 := Tryz.sizeOf216; have v164 := Tryz.zeroValue216; have u164 := run_underlying Tryz.underlying216
 go_enter Tryz.func126, Tryz.ntmps126
 go_wp2
 rw [Lib.run_to_unsafe w ⟨b, 0, none⟩ Tryz.underlying160 Tryz.underlying216 hj (by rw [hjs]; decide) hsh (Nat.zero_lt_succ 1)]
 simp only [Result.andThen]
 rw [Oper.upon_value]
 go_wp2
 rw [run_callFunc_extern Tryz.func157 (by kernel_rfl) (by kernel_rfl) (by kernel_rfl) (e := Extern.AbiNoEscape.same) (by kernel_rfl)]
 rw [Lib.run_noEscape]
 simp only [Result.andThen]
 rw [Oper.upon_value]
 go_wp2
 rw [Lib.run_from_unsafe w ⟨b, 0, none⟩ Tryz.underlying216 Tryz.underlying160 hj hsh Tryz.liesB]
 simp only [Result.andThen]
 rw [Oper.upon_value]
 go_wp2
 go_end0
 exact ⟨rfl, rfl⟩
theorem Tryz.bCheck (B b : Nat) (bs : List Value) (w : World) (h : Lib.IsBuilderF 162 5 B b bs w) :
  Calls Tryz.prog 126 #[.pointer (some ⟨b, 0, none⟩)] w fun e w' => e = .returned (.tuple #[]) ∧ (Lib.BuilderAtF 162 5 B b (.pointer (some ⟨b, 0, none⟩)) bs w' ∧ Below B w w') := by
 rcases h with h | h
 ·refine (Tryz.bCheck_fresh b w h.cell0 h.shape h.frozen0).mono ?_
  rintro e w' ⟨rfl, rfl⟩
  exact ⟨rfl, h.used _, (Below.refl B w).setCell (p := ⟨b, 0, none⟩) h.1 _⟩
 refine (Tryz.bCheck_used b w h.cell0).mono ?_
 rintro e w' ⟨rfl, rfl⟩
 exact ⟨rfl, h, Below.refl B _⟩
set_option maxHeartbeats 2000000 in
set_option maxRecDepth 100000 in
theorem Tryz.bWrite (B b : Nat) (bs : List Value) (s : ByteArray) (w : World) (h : Lib.IsBuilderF 162 5 B b bs w) (hlen : bs.length + s.size ≤ 140737488355328) (hBw : B ≤ w.heap.size) :
  Calls Tryz.prog 106 #[.pointer (some ⟨b, 0, none⟩), .string s] w fun e w' => e = .returned (.tuple #[.int .i64 s.size, .nilIface]) ∧ (Lib.BuilderAtF 162 5 B b (.pointer (some ⟨b, 0, none⟩)) (bs ++ Lib.strCells s) w' ∧ Below B w w') := by
 obtain ⟨i0, hi, hz0, hz1, hz2⟩ := info_parts Tryz.infoB
 have mixed : Tryz.prog.follows .mixedOrders = true := by kernel_rfl
 have t72 := Tryz.underlying162; have a72 := Tryz.isAgg162; have z72 := Tryz.sizeOf162; have v72 := Tryz.zeroValue162; have u72 := run_underlying Tryz.underlying162
 have t70 := Tryz.underlying160; have a70 := Tryz.isAgg160; have z70 := Tryz.sizeOf160; have v70 := Tryz.zeroValue160; have u70 := run_underlying Tryz.underlying160
 have t37 := Tryz.underlying22; have a37 := Tryz.isAgg22; have z37 := Tryz.sizeOf22; have v37 := Tryz.zeroValue22; have u37 := run_underlying Tryz.underlying22
 have t3 := Tryz.underlying3; have a3 := Tryz.isAgg3; have z3 := Tryz.sizeOf3; have v3 := Tryz.zeroValue3; have u3 := run_underlying Tryz.underlying3
 have t9 := Tryz.underlying9; have a9 := Tryz.isAgg9; have z9 := Tryz.sizeOf9; have v9 := Tryz.zeroValue9; have u9 := run_underlying Tryz.underlying9
 have t4 := Tryz.underlying4; have a4 := Tryz.isAgg4; have z4 := Tryz.sizeOf4; have v4 := Tryz.zeroValue4; have u4 := run_underlying Tryz.underlying4
 have t164 := Tryz.underlying216; have a164 := Tryz.isAgg216; have z164 := Tryz.sizeOf216; have v164 := Tryz.zeroValue216; have u164 := run_underlying Tryz.underlying216
 have t5 := Tryz.underlying5; have a5 := Tryz.isAgg5; have z5 := Tryz.sizeOf5; have v5 := Tryz.zeroValue5; have u5 := run_underlying Tryz.underlying5
 have e126 : ∀ args w, (callFunc 126 args).run Tryz.prog w = .ok (.enter 126 args) w := Ab.fn_ent Tryz.func126 (by kernel_rfl) (by kernel_rfl)
 go_enter Tryz.func106, Tryz.ntmps106
 go_wp2_with (go_at_fn 126; refine (Tryz.bCheck B b bs _ h).mono ?_)
 rintro e w1 ⟨rfl, h1, hb1⟩
 obtain ⟨hB, v, hbk, hown, hne⟩ := h1
 have c0 : w1.cell? ⟨b, 0, none⟩ = some (.pointer (some ⟨b, 0, none⟩)) := by rw [Lib.cell_of_heap hbk]; rfl
 have c1 : w1.cell? ⟨b, 1, none⟩ = some v := by rw [Lib.cell_of_heap hbk]; rfl
 go_wp2_with (at_builtin; refine Lib.wpList_append_own_stringF _ rfl _ _ 22 9 rfl B 5 i0 Tryz.underlying22 Tryz.underlying9 hi hz0 hz1 hz2 _ _ _ rfl hown s rfl ?c3 ?c4 ?c5 ?_)
 case c3 => unfold maxLen; omega
 case c4 => omega
 case c5 => have := hb1.size; omega
 intro v' w2 hown' hgrow _
 have hlt : b < w1.heap.size := by
  rcases Nat.lt_or_ge b w1.heap.size with h' | h'
  ·exact h'
  ·simp [Array.getElem?_eq_none h'] at hbk
 have hb2 : w2.heap[b]? = some (.cells #[.pointer (some ⟨b, 0, none⟩), v] 162 (0, 0)) := by
  rw [hgrow.block b hlt (fun e => hne e.symm)]
  exact hbk
 have d0 : w2.cell? ⟨b, 0, none⟩ = some (.pointer (some ⟨b, 0, none⟩)) := by rw [Lib.cell_of_heap hb2]; rfl
 have d1 : w2.cell? ⟨b, 1, none⟩ = some v := by rw [Lib.cell_of_heap hb2]; rfl
 have f1 : w2.frozen? ⟨b, 1, none⟩ = false := Lib.frozen_of_heap hb2 1
 obtain ⟨ao, n', cap, rfl⟩ : ∃ ao n' cap, v' = .slice ao n' cap := by
  rcases hown'.2 with ⟨hv, _⟩ | ⟨g, cap, cur, fz, hv, _⟩
  ·exact ⟨_, _, _, hv⟩
  ·exact ⟨_, _, _, hv⟩
 go_wp2
 go_ret2
 refine ⟨rfl, ?_, ?_⟩
 ·exact Lib.BuilderAtF.put (T := 162) (e := 5) hB hb2 (bs' := bs ++ Lib.strCells s) (by simpa [Lib.strCells_length] using hown') (by decide)
 exact (hb1.grown hgrow (by have := hb1.size; omega) (fun k hk => (hown.lt k hk).1)).setCell (p := ⟨b, 1, none⟩) hB _
theorem Tryz.bString (B b : Nat) (l : List UInt8) (w : World) (h : Lib.IsBuilderF 162 5 B b (Lib.byteCells l) w) (hBw : B ≤ w.heap.size) :
  Calls Tryz.prog 107 #[.pointer (some ⟨b, 0, none⟩)] w fun e w' => e = .returned (.string ⟨l.toArray⟩) ∧ (Lib.IsBuilderF 162 5 B b (Lib.byteCells l) w' ∧ Below B w w') :=
 Any.Builder_String_any_f Tryz.laysStr Tryz.builderX B b l w h hBw
end Go.Proofs
namespace Ab
open Go Go.Proofs
theorem bGq {h : Hp} {ρ : Nat → Loc} {w : World} {pr : dU} {a : Int} {vs : List Value} (q : Rp h ρ w pr (.cons (.val (.int .i64) a) .nil) vs) : vs = [.int .i64 a] := by
 obtain ⟨v, d, rfl, q1, q3⟩ := q
 have q3 : d = [] := q3
 rw [jZ q1, q3]
theorem aDd : FnOK Tryz.prog 182 ⟨.cons (.sc (.int .i64)) .nil, .sc .str, strconv_Itoa, []⟩ := by
 refine FnOK.plain rfl (fn_ent Tryz.func182 (by kernel_rfl) (by kernel_rfl)) fun C ρ args w (x : Int) y hy hG M q => ?_
 have ha : args = #[.int .i64 x] := by apply Array.ext'; exact bGq q
 subst ha
 obtain ⟨g, _, _, htab⟩ := (hG.world M).1.tab
 change (bif (decide (-9223372036854775808 ≤ x) && decide (x ≤ 9223372036854775807)) then some ⟨(Lib.itoa x).toArray⟩ else none : Option ByteArray) = some y at hy
 cases hb : (decide (-9223372036854775808 ≤ x) && decide (x ≤ 9223372036854775807)) with
 | false => rw [hb] at hy; cases hy
 | true =>
 rw [hb] at hy
 obtain rfl := Option.some.inj hy
 simp only [Bool.and_eq_true, decide_eq_true_eq] at hb
 refine (Tryz.itoa_c x hb.1 hb.2 w htab).mono ?_
 rintro e w' ⟨rfl, k, os, rfl⟩
 have hbel : RowKit.Below w.heap.size w (Go.Sort.grow (w.drewN k) os) := ⟨rfl, rfl, rfl, by show _ ≤ (w.heap ++ os).size; rw [Array.size_append]; omega, fun j hj => by
  show (w.heap ++ os)[j]? = _
  rw [Array.getElem?_append_left hj]⟩
 exact ⟨_, rfl, _, ρ, C.pr, _, .val .str _, _, [], [], M.world hbel, rfl, rfl, ⟨rfl, rfl⟩, rfl⟩
end Ab
end
section
set_option maxRecDepth 100000
namespace Ab
open Go Go.RowKit Go.Proofs
def C0 (W : World) (pr : dU) : Cx := ⟨W, fun _ => False, pr⟩
theorem Mo.init {W : World} {pr : dU} {ρ : Nat → Loc} {f : Nat → Value} (hp : ∀ b r, pr b = some r → b < W.heap.size) : Mo (C0 W pr) ⟨[], []⟩ ρ pr f W :=
  { sl := fun i v h => by cases h
    hp := fun k o h => by cases h
    inj := fun k j b h => by cases h
    prot := fun b r h => ⟨hp b r h, fun k hk => by cases hk⟩
    os := rfl, tape := rfl, output := rfl, size := Nat.le_refl _, heap := fun _ _ _ => rfl
    prC := fun _ _ h => h, prN := fun _ _ h => .inl h, ownC := fun k b h => by cases h }
theorem Mo.below {W : World} {pr : dU} {σ : St} {ρ : Nat → Loc} {pre : dU} {f : Nat → Value} {w' : World} (M : Mo (C0 W pr) σ ρ pre f w') : Below W.heap.size W w' :=
 ⟨M.os, M.tape, M.output, M.size, fun b hb => M.heap b hb (fun h => h)⟩
theorem Gl.c0 {W : World} {pr : dU} (h : GlobOk Tryz.prog W) (hb : ∀ b, b < Tryz.prog.globals.size → b < W.heap.size) : Gl Tryz.prog (C0 W pr) := ⟨h, fun b k => ⟨hb b k, fun h => h⟩⟩
theorem FnOK.text {fid : Nat} {ins : Sh} {F : ins.T → Option (Sh.out ins.io (.sc .str)).T} (h : FnOK Tryz.prog fid ⟨ins, .sc .str, F, []⟩) {x : ins.T} {y : (Sh.out ins.io (.sc .str)).T} (hF : F x = some y) {args : Array Value} {W : World}
  (hG : GlobOk Tryz.prog W) (hb : ∀ b, b < Tryz.prog.globals.size → b < W.heap.size) (hos : (dS ins x).os = []) (q : Rp (fun n => lk (dS ins x).os n) (fun _ => ⟨undef, 0⟩) W (fun _ => none) (dS ins x).v args.toList) :
  Calls Tryz.prog fid args W fun e w' => e = .returned (.string (Sh.fst (.sc .str) .nil (Sh.snd (.tup ins.io) (.cons (.sc .str) .nil) y))) ∧ Below W.heap.size W w' := by
 have M : Mo (C0 W (fun _ => none)) ⟨[], jN (dS ins x).os⟩ (fun _ => ⟨undef, 0⟩) (fun _ => none) (fun _ => undef) W := by
  rw [hos]; exact Mo.init (fun b r h => by cases h)
 refine (h.calls (C0 W (fun _ => none)) (fun _ => ⟨undef, 0⟩) [] args W x y rfl hF (Gl.c0 hG hb) M q).mono ?_
 rintro e w' ⟨v, rfl, σe, ρe, pre, fe, gs, rv, vis, bor, Me, hg, _, _, qr⟩
 obtain ⟨c, d, vis1, b1, b2, hv, h1, h2, h3⟩ := lL hg
 cases hv
 obtain ⟨c, d, vis2, b3, b4, hv, h4, h5, h6⟩ := lL h2
 cases hv
 obtain ⟨_, _, h7⟩ := aUe h4
 obtain ⟨pr', M', hle, _, hfz⟩ := Me.freezes b3
 have hr := kK hle Me.hp h7 qr (by assumption)
 refine ⟨?_, Me.below⟩
 have hr : [v] = [.string _] := hr
 cases hr; rfl
def aPb : (Int ⊕ ((Int × Int) ⊕ ((Int × Int) ⊕ ((Int × Int) ⊕ Unit)))) → Value
 | .inl k => .iface 168 (.agg #[.int .i64 k])
 | .inr (.inl p) => .iface 170 (.agg #[.int .i64 p.1, .int .i64 p.2])
 | .inr (.inr (.inl p)) => .iface 172 (.agg #[.int .i64 p.1, .int .i64 p.2])
 | .inr (.inr (.inr (.inl p))) => .iface 173 (.agg #[.int .i64 p.1, .int .i64 p.2])
 | .inr (.inr (.inr (.inr _))) => .nilIface
theorem aX5 {w : World} {pr : dU} {p : (Int × Int)} {cs : List Value} (h : Rep w pr cP2 p cs) : cs = [.int .i64 p.1, .int .i64 p.2] := by
 obtain ⟨c, d, rfl, h1, e, f, rfl, h2, h3⟩ := h
 have h1 : c = [.int .i64 p.1] := h1
 have h2 : e = [.int .i64 p.2] := h2
 have h3 : f = [] := h3
 rw [h1, h2, h3]; rfl
theorem bHn {w : World} {pr : dU} {p : Int} {cs : List Value} (h : Rep w pr (.cons (.int .i64) .nil) p cs) : cs = [.int .i64 p] := by
 obtain ⟨c, d, rfl, h1, h3⟩ := h
 have h1 : c = [.int .i64 p] := h1
 have h3 : d = [] := h3
 rw [h1, h3]; rfl
theorem bF4 {w : World} {pr : dU} {s : (Int ⊕ ((Int × Int) ⊕ ((Int × Int) ⊕ ((Int × Int) ⊕ Unit))))} {vs : List Value} (h : Rep w pr aJn s vs) (hs : ∀ u, s ≠ .inr (.inr (.inr (.inr u)))) : vs = [aPb s] := by
 match s, h, hs with
 | .inl k, h, _ =>
  obtain ⟨cs, h1, _, rfl⟩ := h
  rw [bHn h1]; rfl
 | .inr (.inl p), h, _ =>
  obtain ⟨cs, h1, _, rfl⟩ := h.1 rfl
  rw [aX5 h1]; rfl
 | .inr (.inr (.inl p)), h, _ =>
  obtain ⟨cs, h1, _, rfl⟩ := (h.1 rfl).1 rfl
  rw [aX5 h1]; rfl
 | .inr (.inr (.inr (.inl p))), h, _ =>
  obtain ⟨cs, h1, _, rfl⟩ := ((h.1 rfl).1 rfl).1 rfl
  rw [aX5 h1]; rfl
 | .inr (.inr (.inr (.inr u))), _, hs => exact absurd rfl (hs u)
theorem bDa {F82 : D82} (h82 : FnOK Tryz.prog 82 ⟨ins82, aVq, F82, []⟩) {C : Cx} {ρ : Nat → Loc} {w : World} {x : List (Int × (Int × Int))} {args : Array Value} {y : List (Int ⊕ ((Int × Int) ⊕ ((Int × Int) ⊕ ((Int × Int) ⊕ Unit)))) × Bool} (hF : F82 x = some y) (hG : GlobOk Tryz.prog w) (hb : ∀ b, b < Tryz.prog.globals.size → b < w.heap.size)
  (hp : ∀ b r, C.pr b = some r → b < w.heap.size) (q : Rp (fun n => lk (dS ins82 x).os n) ρ w C.pr (dS ins82 x).v args.toList) :
  Calls Tryz.prog 82 args w fun e w' => ∃ hdr pre cells, e = .returned (.tuple #[hdr, .bool y.2]) ∧ Below w.heap.size w w' ∧ w'.ownsRow 0 125 1 hdr y.1.length cells ∧ Ab.Rows w' pre aJn y.1 cells := by
 have M : Mo (C0 w C.pr) ⟨[], jN (dS ins82 x).os⟩ ρ C.pr (fun _ => undef) w := Mo.init hp
 refine (h82.calls (C0 w C.pr) ρ [] args w x y rfl hF (Gl.c0 hG hb) M q).mono ?_
 rintro e w' ⟨v, rfl, σe, ρe, pre, fe, gs, rv, vis, bor, Me, hg, _, _, qr⟩
 obtain ⟨c, d, vis1, b1, b2, hv, h1, h2, h3⟩ := lL hg
 cases hv
 obtain ⟨c, d, vis2, b3, b4, hv, h4, h5, h6⟩ := lL h2
 cases hv
 obtain ⟨c, rfl, h7⟩ := aCz h4
 obtain ⟨c1, d1, vis3, b5, b6, rfl, h8, h9, _⟩ := lL h7
 obtain ⟨k, rfl, _, ho, _, _⟩ := aMn h8
 obtain ⟨c2, d2, vis4, b7, b8, rfl, h10, h11, _⟩ := lL h9
 obtain ⟨_, _, h12⟩ := aUe h10
 obtain ⟨rfl, _, _⟩ := aUf h11
 obtain ⟨cs, e1, v1, d3, rfl, q1, v2, d4, rfl, q2, q3⟩ := qr
 have q3 : d4 = [] := q3
 subst q3
 obtain ⟨pr', M', hle, _, hfz⟩ := Me.freezes b7
 have hr := kK hle Me.hp h12 q2 (by assumption)
 have hr : [v2] = [.bool y.2] := hr
 cases hr
 obtain ⟨_, _, cells, hown, hrows, _⟩ := Me.hp k _ ho
 have e2 : v1 = (ρe k).hdr := by have := q1.2; simpa using this
 have e1 : v = .tuple #[v1, .bool y.2] := by simpa using e1
 subst e1
 subst e2
 exact ⟨_, pre, cells, rfl, Me.below, hown, hrows⟩
section
variable {FG : Int → Option ByteArray} {FP FA FN : (Int × Int) → Option ByteArray}
abbrev bIz : Sh := .cons (.agg (.cons (.sc II) .nil)) .nil
abbrev bGx : Sh := .cons (.agg (.cons (.sc II) (.cons (.sc II) .nil))) .nil
theorem bIn (h : FnOK Tryz.prog 309 ⟨bIz, .sc .str, FG, []⟩) {k : Int} {t : ByteArray} (hF : FG k = some t) {W : World} (hG : GlobOk Tryz.prog W) (hb : ∀ b, b < Tryz.prog.globals.size → b < W.heap.size) :
  Calls Tryz.prog 309 #[.agg #[.int .i64 k]] W fun e w' => e = .returned (.string t) ∧ Below W.heap.size W w' :=
 h.text (x := k) (y := t) hF hG hb rfl ⟨_, _, rfl, ⟨_, rfl, by simp [Value.oneCell'], _, _, rfl, ⟨rfl, rfl⟩, rfl⟩, rfl⟩
theorem bCj {f : Nat} {F : (Int × Int) → Option ByteArray} (h : FnOK Tryz.prog f ⟨bGx, .sc .str, F, []⟩) {p : (Int × Int)} {t : ByteArray} (hF : F p = some t) {W : World} (hG : GlobOk Tryz.prog W) (hb : ∀ b, b < Tryz.prog.globals.size → b < W.heap.size) :
  Calls Tryz.prog f #[.agg #[.int .i64 p.1, .int .i64 p.2]] W fun e w' => e = .returned (.string t) ∧ Below W.heap.size W w' :=
 h.text (x := p) (y := t) hF hG hb rfl ⟨_, _, rfl, ⟨_, rfl, by simp [Value.oneCell'], _, _, rfl, ⟨rfl, rfl⟩, _, _, rfl, ⟨rfl, rfl⟩, rfl⟩, rfl⟩
end
end Ab
end
section
set_option maxRecDepth 100000
namespace Go.Proofs
open Go.RowKit Ab
theorem Tryz.bAt_below {B b : Nat} {p : Value} {bs : List Value} {W W' : World} (h : Lib.BuilderAtF 162 5 B b p bs W) (hb : Below W.heap.size W W') : Lib.BuilderAtF 162 5 B b p bs W' := by
 obtain ⟨hB, v, hv, hown, hne⟩ := h
 have hlt : b < W.heap.size := (Array.getElem?_eq_some_iff.1 hv).1
 refine ⟨hB, v, (hb.block b hlt).trans hv, ⟨hown.1, hown.2.imp id ?_⟩, hne⟩
 rintro ⟨g, cap, cur, fz, h1, h2, h3, h4⟩
 exact ⟨g, cap, cur, fz, h1, h2, (hb.block g (Array.getElem?_eq_some_iff.1 h3).1).trans h3, h4⟩
theorem Tryz.text_of {nm : String} (h : Tryz.prog.underlying 125 = some (.interface #[(nm, 163)])) (v : Value) (w : World) :
  (method 480 168 v nm).run Tryz.prog w = .ok (309, v) w ∧ (method 480 170 v nm).run Tryz.prog w = .ok (310, v) w ∧ (method 480 172 v nm).run Tryz.prog w = .ok (312, v) w ∧ (method 480 173 v nm).run Tryz.prog w = .ok (313, v) w := by
 have e := Tryz.underlying125.symm.trans h
 simp only [Option.some.injEq, TypeDesc.interface.injEq, Array.mk.injEq, List.cons.injEq, Prod.mk.injEq, and_true] at e
 subst e
 exact ⟨by kernel_rfl, by kernel_rfl, by kernel_rfl, by kernel_rfl⟩
structure Tryz.DW (w : World) (L : List (Int ⊕ ((Int × Int) ⊕ ((Int × Int) ⊕ ((Int × Int) ⊕ Unit))))) (T : (Int ⊕ ((Int × Int) ⊕ ((Int × Int) ⊕ ((Int × Int) ⊕ Unit)))) → Option ByteArray) (A : Option Addr) (w1 : World) : Prop where
 len : L.length ≤ maxLen
 bel : Below w.heap.size w w1
 row : 0 < L.length → ∃ g, A = some ⟨g, 0, none⟩ ∧ ∀ (k : Nat) (s : (Int ⊕ ((Int × Int) ⊕ ((Int × Int) ⊕ ((Int × Int) ⊕ Unit))))), L[k]? = some s → w1.cell? ⟨g, k, none⟩ = some (aPb s)
 hG : ∀ (k : Int) (r : ByteArray), T (.inl k) = some r → ∀ W, Below w1.heap.size w1 W → Calls Tryz.prog 309 #[.agg #[.int .i64 k]] W fun e w' => e = .returned (.string r) ∧ Below W.heap.size W w'
 hP : ∀ (p : (Int × Int)) (r : ByteArray), T (.inr (.inl p)) = some r → ∀ W, Below w1.heap.size w1 W → Calls Tryz.prog 310 #[.agg #[.int .i64 p.1, .int .i64 p.2]] W fun e w' => e = .returned (.string r) ∧ Below W.heap.size W w'
 hA : ∀ (p : (Int × Int)) (r : ByteArray), T (.inr (.inr (.inl p))) = some r → ∀ W, Below w1.heap.size w1 W → Calls Tryz.prog 312 #[.agg #[.int .i64 p.1, .int .i64 p.2]] W fun e w' => e = .returned (.string r) ∧ Below W.heap.size W w'
 hN : ∀ (p : (Int × Int)) (r : ByteArray), T (.inr (.inr (.inr (.inl p)))) = some r → ∀ W, Below w1.heap.size w1 W → Calls Tryz.prog 313 #[.agg #[.int .i64 p.1, .int .i64 p.2]] W fun e w' => e = .returned (.string r) ∧ Below W.heap.size W w'
set_option maxHeartbeats 4000000 in
set_option maxRecDepth 1000000 in
theorem Tryz.dealWrite_walk (w : World) (a0 : Value) (L : List (Int ⊕ ((Int × Int) ⊕ ((Int × Int) ⊕ ((Int × Int) ⊕ Unit))))) (T : (Int ⊕ ((Int × Int) ⊕ ((Int × Int) ⊕ ((Int × Int) ⊕ Unit)))) → Option ByteArray) (t : ByteArray) (n : Nat) (hL : L.length = n)
  (hst : Calls Tryz.prog 82 #[a0] w fun e w' => ∃ A c, e = .returned (.tuple #[.slice A n c, .bool true]) ∧ Tryz.DW w L T A w')
  (hX : ∀ u, T (.inr (.inr (.inr (.inr u)))) = none) (ht : mW T L emptyS = some t) :
  Calls Tryz.prog 81 #[a0] w fun e w' => e = .returned (.string t) ∧ Below w.heap.size w w' := by
 have mixed : Tryz.prog.follows .mixedOrders = true := by kernel_rfl
 have t162 := Tryz.underlying162; have a162 := Tryz.isAgg162; have z162 := Tryz.sizeOf162; have v162 := Tryz.zeroValue162; have u162 := run_underlying Tryz.underlying162
 have t114 := Tryz.underlying114; have a114 := Tryz.isAgg114; have z114 := Tryz.sizeOf114; have v114 := Tryz.zeroValue114; have u114 := run_underlying Tryz.underlying114
 have t125 := Tryz.underlying125; have a125 := Tryz.isAgg125; have z125 := Tryz.sizeOf125; have v125 := Tryz.zeroValue125; have u125 := run_underlying Tryz.underlying125
 have t3 := Tryz.underlying3; have a3 := Tryz.isAgg3; have z3 := Tryz.sizeOf3; have v3 := Tryz.zeroValue3; have u3 := run_underlying Tryz.underlying3
 have m168 := fun v w => (Tryz.text_of Tryz.underlying125 v w).1
 have m170 := fun v w => (Tryz.text_of Tryz.underlying125 v w).2.1
 have m172 := fun v w => (Tryz.text_of Tryz.underlying125 v w).2.2.1
 have m173 := fun v w => (Tryz.text_of Tryz.underlying125 v w).2.2.2
 have e309 : ∀ args w, (callFunc 309 args).run Tryz.prog w = .ok (.enter 309 args) w := Ab.fn_ent Tryz.func309 (by kernel_rfl) (by kernel_rfl)
 have e310 : ∀ args w, (callFunc 310 args).run Tryz.prog w = .ok (.enter 310 args) w := Ab.fn_ent Tryz.func310 (by kernel_rfl) (by kernel_rfl)
 have e312 : ∀ args w, (callFunc 312 args).run Tryz.prog w = .ok (.enter 312 args) w := Ab.fn_ent Tryz.func312 (by kernel_rfl) (by kernel_rfl)
 have e313 : ∀ args w, (callFunc 313 args).run Tryz.prog w = .ok (.enter 313 args) w := Ab.fn_ent Tryz.func313 (by kernel_rfl) (by kernel_rfl)
 go_enter Tryz.func81, Tryz.ntmps81
 go_wp2_with (go_at_call 82; refine hst.mono ?_; rintro e w' ⟨A, c, rfl, hF⟩)
 go_loopw [17] (fun i wr => ∃ (k : Nat) (acc : ByteArray), i = .int .i64 k ∧ k ≤ n ∧ mW T (L.drop k) acc = some t ∧ Lib.IsBuilderF 162 5 w'.heap.size w'.heap.size (Lib.byteCells acc.data.toList) wr ∧ Below w'.heap.size w' wr ∧ acc.size ≤ 1000000) (fun i _ => n - (intOf i).toNat)
 case atStart =>
  refine ⟨0, emptyS, rfl, Nat.zero_le _, ht, ?_, ?_, by decide⟩
  ·exact Lib.IsBuilderF.of (Lib.fresh_isBuilder 162 5 w')
  ·exact (Below.refl _ w').alloc (Nat.le_refl _) _
 case round =>
  obtain ⟨k, acc, hk, hkn, htx, hI, hbw, hacc⟩ := hrel
  subst hk
  by_cases hlt : k < n
  ·obtain ⟨g, rfl, hcell⟩ := hF.row (by omega)
   obtain ⟨s, hs⟩ : ∃ s, L[k]? = some s := ⟨L[k], List.getElem?_eq_getElem (by omega)⟩
   have hd : L.drop k = s :: L.drop (k + 1) := by
    rw [List.drop_eq_getElem_cons (by omega)]
    congr 1
    rw [List.getElem?_eq_getElem (by omega)] at hs
    exact Option.some.inj hs
   rw [hd, mW] at htx
   obtain ⟨r, hr, htx⟩ := Option.bind_eq_some_iff.1 htx
   cases hsz : decide (acc.size + r.size ≤ 1000000) with
   | false => rw [hsz] at htx; cases htx
   | true =>
   rw [hsz] at htx
   have hsz := of_decide_eq_true hsz
   have hc : wr.cell? ⟨g, k, none⟩ = some (aPb s) := by
    rw [hbw.cell (p := ⟨g, k, none⟩) (World.block_lt_of_cell? w' _ (hcell k s hs))]; exact hcell k s hs
   have hBs : w'.heap.size ≤ wr.heap.size := hbw.size
   have hne : ¬ (n : Int) ≤ (k : Int) := by omega
   have hn63 := hF.len
   unfold maxLen at hn63
   have h63 : IntKind.i64.wrap ((k : Int) + 1) = (k : Int) + 1 := by rw [IntKind.wrap_i64]; omega
   have fin : ∀ (W1 W2 : World), Below wr.heap.size wr W1 → Lib.BuilderAtF 162 5 w'.heap.size w'.heap.size (.pointer (some ⟨w'.heap.size, 0, none⟩)) (Lib.byteCells acc.data.toList ++ Lib.strCells r) W2 → Below w'.heap.size W1 W2 →
     mW T (L.drop (k + 1)) (acc ++ r) = some t ∧ Lib.IsBuilderF 162 5 w'.heap.size w'.heap.size (Lib.byteCells (acc ++ r).data.toList) W2 ∧ Below w'.heap.size w' W2 ∧ (acc ++ r).size ≤ 1000000 := by
    intro W1 W2 b1 h2 b2
    refine ⟨htx, ?_, (hbw.trans (b1.mono hBs)).trans b2, by rw [ByteArray.size_append]; exact hsz⟩
    rw [ByteArray.data_append, Array.toList_append, Lib.byteCells_append, ← Lib.strCells_eq]
    exact Or.inr h2
   have hW : ∀ W1, Below wr.heap.size wr W1 → Calls Tryz.prog 106 #[.pointer (some ⟨w'.heap.size, 0, none⟩), .string r] W1 fun e W2 => e = .returned (.tuple #[.int .i64 r.size, .nilIface]) ∧
     (mW T (L.drop (k + 1)) (acc ++ r) = some t ∧ Lib.IsBuilderF 162 5 w'.heap.size w'.heap.size (Lib.byteCells (acc ++ r).data.toList) W2 ∧ Below w'.heap.size w' W2 ∧ (acc ++ r).size ≤ 1000000) := fun W1 b1 => by
    refine (Tryz.bWrite w'.heap.size w'.heap.size _ r W1 (hI.imp (fun x => Tryz.bAt_below x b1) (fun x => Tryz.bAt_below x b1)) (by rw [Lib.byteCells_length, Array.length_toList]; show acc.size + r.size ≤ _; omega) (Nat.le_trans hBs b1.size)).mono ?_
    rintro e W2 ⟨rfl, h2, b2⟩
    exact ⟨rfl, fin W1 W2 b1 h2 b2⟩
   clear hI fin
   rcases s with k0 | p | p | p | u
   ·simp only [aPb] at hc
    go_wp2_with (first
     | (go_at_call 309; refine (hF.hG _ _ hr _ hbw).mono ?_; rintro e W1 ⟨rfl, b1⟩)
     | (go_at_call 106; refine (hW _ (by assumption)).mono ?_; rintro e W2 ⟨rfl, h2⟩))
    go_roundw
    case rel => exact ⟨k + 1, acc ++ r, rfl, by omega, h2⟩
    case measure => simp [intOf]; omega
   ·simp only [aPb] at hc
    go_wp2_with (first
     | (go_at_call 310; refine (hF.hP _ _ hr _ hbw).mono ?_; rintro e W1 ⟨rfl, b1⟩)
     | (go_at_call 106; refine (hW _ (by assumption)).mono ?_; rintro e W2 ⟨rfl, h2⟩))
    go_roundw
    case rel => exact ⟨k + 1, acc ++ r, rfl, by omega, h2⟩
    case measure => simp [intOf]; omega
   ·simp only [aPb] at hc
    go_wp2_with (first
     | (go_at_call 312; refine (hF.hA _ _ hr _ hbw).mono ?_; rintro e W1 ⟨rfl, b1⟩)
     | (go_at_call 106; refine (hW _ (by assumption)).mono ?_; rintro e W2 ⟨rfl, h2⟩))
    go_roundw
    case rel => exact ⟨k + 1, acc ++ r, rfl, by omega, h2⟩
    case measure => simp [intOf]; omega
   ·simp only [aPb] at hc
    go_wp2_with (first
     | (go_at_call 313; refine (hF.hN _ _ hr _ hbw).mono ?_; rintro e W1 ⟨rfl, b1⟩)
     | (go_at_call 106; refine (hW _ (by assumption)).mono ?_; rintro e W2 ⟨rfl, h2⟩))
    go_roundw
    case rel => exact ⟨k + 1, acc ++ r, rfl, by omega, h2⟩
    case measure => simp [intOf]; omega
   ·rw [hX] at hr; cases hr
  ·have hk : k = n := by omega
   subst hk
   have hd : L.drop k = [] := List.drop_of_length_le (by omega)
   rw [hd] at htx
   obtain rfl := Option.some.inj htx
   go_wp2_with (go_at_call 107; refine (Tryz.bString w'.heap.size w'.heap.size _ wr hI (hbw.size)).mono ?_; rintro e W1 ⟨rfl, h2, b2⟩)
   go_ret
   exact ⟨rfl, (hF.bel.trans (hbw.mono hF.bel.size)).trans (b2.mono hF.bel.size)⟩
set_option maxHeartbeats 4000000 in
set_option maxRecDepth 1000000 in
theorem Tryz.dealWrite_no (w : World) (a0 : Value) (Q : World → Prop) (hst : Calls Tryz.prog 82 #[a0] w fun e w' => ∃ hdr, e = .returned (.tuple #[hdr, .bool false]) ∧ Q w') :
  Calls Tryz.prog 81 #[a0] w fun e w' => e = .returned (.string emptyS) ∧ Q w' := by
 have mixed : Tryz.prog.follows .mixedOrders = true := by kernel_rfl
 go_enter Tryz.func81, Tryz.ntmps81
 go_wp2_with (go_at_call 82; refine hst.mono ?_; rintro e w' ⟨hdr, rfl, hq⟩)
 go_ret
 exact ⟨rfl, hq⟩
end Go.Proofs
namespace Ab
open Go Go.RowKit Go.Proofs
theorem aQ6 {T : (Int ⊕ ((Int × Int) ⊕ ((Int × Int) ⊕ ((Int × Int) ⊕ Unit)))) → Option ByteArray} (hX : ∀ u, T (.inr (.inr (.inr (.inr u)))) = none) : ∀ {L : List (Int ⊕ ((Int × Int) ⊕ ((Int × Int) ⊕ ((Int × Int) ⊕ Unit))))} {a t : ByteArray}, mW T L a = some t → ∀ s ∈ L, ∀ u, s ≠ .inr (.inr (.inr (.inr u)))
 | [], _, _, _, s, hs => by cases hs
 | x :: L, a, t, h, s, hs => by
  rw [mW] at h
  obtain ⟨r, hr, h⟩ := Option.bind_eq_some_iff.1 h
  rcases List.mem_cons.1 hs with rfl | hs
  ·intro u e; rw [e, hX] at hr; cases hr
  cases hb : decide (a.size + r.size ≤ 1000000) with
  | false => rw [hb] at h; cases h
  | true => rw [hb] at h; exact aQ6 hX (L := L) h s hs
theorem aQt {F82 : D82} {FG : Int → Option ByteArray} {FP FA FN : (Int × Int) → Option ByteArray} (h82 : FnOK Tryz.prog 82 ⟨ins82, aVq, F82, []⟩) (hG : FnOK Tryz.prog 309 ⟨bIz, .sc .str, FG, []⟩) (hP : FnOK Tryz.prog 310 ⟨bGx, .sc .str, FP, []⟩)
  (hA : FnOK Tryz.prog 312 ⟨bGx, .sc .str, FA, []⟩) (hN : FnOK Tryz.prog 313 ⟨bGx, .sc .str, FN, []⟩) : FnOK Tryz.prog 81 ⟨ins82, .sc .str, aCw F82 FG FP FA FN, []⟩ := by
 refine FnOK.plain rfl (fn_ent Tryz.func81 (by kernel_rfl) (by kernel_rfl)) fun C ρ args w (x : List (Int × (Int × Int))) (y : ByteArray) hy hGl M q => ?_
 obtain ⟨hgo, hgb⟩ := hGl.world M
 have hgb : ∀ b, b < Tryz.prog.globals.size → b < w.heap.size := fun b hb => (hgb b hb).1
 have hpr : ∀ b r, C.pr b = some r → b < w.heap.size := fun b r h => (M.prot b r h).1
 have hy : aD (F82 x) (fun r => bif !r.2 then some emptyS else mW (qK FG FP FA FN) r.1 emptyS) = some y := hy
 rw [oG] at hy
 obtain ⟨r, hr, hy⟩ : ∃ r : List (Int ⊕ ((Int × Int) ⊕ ((Int × Int) ⊕ ((Int × Int) ⊕ Unit)))) × Bool, F82 x = some r ∧ (bif !r.2 then some emptyS else mW (qK FG FP FA FN) r.1 emptyS) = some y := Option.bind_eq_some_iff.1 hy
 have hst := bDa h82 hr hgo hgb hpr q
 obtain ⟨v, hv⟩ : ∃ v, args = #[v] := by
  obtain ⟨v, d, hv, _, q1⟩ := q
  have q1 : d = [] := q1
  subst q1
  exact ⟨v, by apply Array.ext'; exact hv⟩
 subst hv
 have fin : ∀ (t : ByteArray) (w' : World), t = y → Below w.heap.size w w' → ∃ v, Ending.returned (.string t) = .returned v ∧ ∃ σe ρe pre fe rv r vis bor, Mo C σe ρe pre fe w' ∧ Sh.get σe (.sc .str) rv [] = some (r, vis, bor) ∧ eB bor vis = true ∧ Rp σe.obj ρe w' pre rv [v] ∧ y = bHg ins82 (.sc .str) r := by
  rintro t w' rfl hb
  exact ⟨_, rfl, _, ρ, C.pr, _, .val .str t, t, [], [], M.world hb, rfl, rfl, ⟨rfl, rfl⟩, rfl⟩
 cases hb : r.2 with
 | false =>
  rw [hb] at hy hst
  have hy : some emptyS = some y := hy
  refine (Tryz.dealWrite_no w v (fun w' => Below w.heap.size w w') (hst.mono ?_)).mono ?_
  ·rintro e w' ⟨hdr, pre, cells, rfl, hb1, _, _⟩
   exact ⟨hdr, rfl, hb1⟩
  ·rintro e w' ⟨rfl, hb1⟩
   exact fin _ _ (Option.some.inj hy) hb1
 | true =>
  rw [hb] at hy hst
  have hy : mW (qK FG FP FA FN) r.1 emptyS = some y := hy
  have hX : ∀ u, qK FG FP FA FN (.inr (.inr (.inr (.inr u)))) = none := fun _ => rfl
  have hall := aQ6 hX hy
  refine (Tryz.dealWrite_walk w v r.1 (qK FG FP FA FN) y r.1.length rfl (hst.mono ?_) hX hy).mono ?_
  ·rintro e w' ⟨hdr, pre, cells, rfl, hb1, hown, hrows⟩
   have glob : ∀ W, Below w'.heap.size w' W → GlobOk Tryz.prog W ∧ ∀ b, b < Tryz.prog.globals.size → b < W.heap.size := fun W hW =>
    ⟨hgo.same fun b hb => (hW.block b (Nat.lt_of_lt_of_le (hgb b hb) hb1.size)).trans (hb1.block b (hgb b hb)), fun b hb => Nat.lt_of_lt_of_le (hgb b hb) (Nat.le_trans hb1.size hW.size)⟩
   have mk : ∀ A, r.1.length ≤ maxLen → (0 < r.1.length → ∃ g, A = some ⟨g, 0, none⟩ ∧ ∀ (k : Nat) (s : (Int ⊕ ((Int × Int) ⊕ ((Int × Int) ⊕ ((Int × Int) ⊕ Unit))))), r.1[k]? = some s → w'.cell? ⟨g, k, none⟩ = some (aPb s)) → Tryz.DW w r.1 (qK FG FP FA FN) A w' := fun A h1 h2 =>
    ⟨h1, hb1, h2, fun k t ht W hW => bIn hG ht (glob W hW).1 (glob W hW).2, fun p t ht W hW => bCj hP ht (glob W hW).1 (glob W hW).2, fun p t ht W hW => bCj hA ht (glob W hW).1 (glob W hW).2, fun p t ht W hW => bCj hN ht (glob W hW).1 (glob W hW).2⟩
   rcases hown.2 with ⟨rfl, h0⟩ | ⟨g, cap, cur, rfl, _, hg, hnc, hcm, _⟩
   ·exact ⟨none, 0, by have h0 : r.1.length = 0 := h0; rw [h0], mk _ (by have h0 : r.1.length = 0 := h0; rw [h0]; exact Nat.zero_le _) (fun h => by have h0 : r.1.length = 0 := h0; omega)⟩
   ·refine ⟨_, cap, rfl, mk _ (Nat.le_trans hnc hcm) fun _ => ⟨g, rfl, fun k s hk => ?_⟩⟩
    have hc := fun h => hown.cells (g := g) rfl k (aPb s) h
    rw [Addr.add_lit, Nat.zero_add] at hc
    refine hc ?_
    have h1 := bF4 (hrows k s hk) (hall s (List.mem_of_getElem? hk))
    have h2 : ((cells.drop (k * 1)).take 1)[0]? = some (aPb s) := by
     have h1 : (cells.drop (k * 1)).take 1 = [aPb s] := h1
     rw [h1]; rfl
    rw [List.getElem?_take, if_pos (by decide), List.getElem?_drop] at h2
    simpa using h2
  ·rintro e w' ⟨rfl, hb1⟩
   exact fin _ _ rfl hb1
end Ab
end
section
set_option maxRecDepth 100000
namespace Ab
open Go Go.Proofs
abbrev cI (s : Sh) : Sh := .cons (.sc (.int .i64)) s
abbrev cB (s : Sh) : Sh := .cons (.sc .bool) s
abbrev cS (s : Sh) : Sh := .cons (.sc .str) s
abbrev cL (t : Ty) (s : Sh) : Sh := .cons (.sc (.sl t)) s
abbrev cO (n : Nat) (t : Ty) (s : Sh) : Sh := .cons (.own n t) s
abbrev cP (z s : Sh) : Sh := .cons (.ptr z) s
abbrev cA (z s : Sh) : Sh := .cons (.agg z) s
abbrev FK (n : Nat) (i r : Sh) (F : i.T → Option (Sh.out i.io r).T) : Prop := FnOK Tryz.prog n ⟨i, r, F, []⟩
abbrev Z0 : Sh := (cL (.int .u8) (cI .nil))
abbrev Z1 : Sh := (cB (cI (cI (cO 200 gN (cO 197 rC (cO 233 bS .nil))))))
abbrev Z2 : Sh := (cI (cI (cI .nil)))
abbrev Z3 : Sh := (cI (cB (cO 286 aDl (cI (cO 242 aBh (cO 289 fU .nil))))))
abbrev Z4 : Sh := (cI (cB (cI (cI (cO 200 gN (cO 197 rC (cO 233 bS (cO 183 sN (cO 275 dQ (cO 261 iI .nil))))))))))
abbrev Z5 : Sh := (cP Z4 (cP Z4 (cI .nil)))
abbrev Z6 : Sh := (cL iI (cI .nil))
abbrev Z7 : Sh := (cP Z0 (cI (cB (cI (cI (cL gN (cL rC (cL bS (cL sN (cL dQ (cL iI (cO 206 sM .nil))))))))))))
abbrev Z8 : Sh := (cP Z7 (.cons (.ref false 0) (.cons (.ref false 1) (cO 49 bZ (cI .nil)))))
abbrev Z9 : Sh := (cP Z7 (cO 49 bZ (.cons (.ref false 1) (.cons (.ref false 0) .nil))))
abbrev Z10 : Sh := (cP Z7 (cO 49 bZ (cP Z2 (.cons (.ref false 1) (.cons (.ref false 0) .nil)))))
abbrev Z11 : Sh := (.cons (.ref false 0) (cI (cB (cI (cI (cL gN (cL rC (cL bS (cL sN (cL dQ (cL iI (cO 206 sM .nil))))))))))))
abbrev Z12 : Sh := (cI (cI (cI (cS (cI (cI .nil))))))
abbrev Z13 : Sh := (cB (cI (cI (cL gN (cL rC (cL bS .nil))))))
abbrev Z14 : Sh := (cP Z13 (cP Z1 (cP Z1 (cI .nil))))
abbrev Z15 : Sh := (cP Z1 (cP Z1 (cP Z13 (cI .nil))))
abbrev Z16 : Sh := (cI (cI (cI (cI (cI (cI (cI (cS (cI (cI (cL (.int .i64) (cL yB .nil))))))))))))
abbrev Z17 : Sh := (cP Z13 (cP Z1 (cP Z1 (cP Z16 (cO 231 yB (cI .nil))))))
abbrev Z18 : Sh := (cI (cI (cI (cI (cI (cI (cB (cL (.int .i64) (cL bS (cI (cL (.int .i64) (cI (cI (cI (cS (cI (cI .nil)))))))))))))))))
abbrev Z19 : Sh := (cI (cI (cI (cI (cI (cI (cB (cO 3 (.int .i64) (cO 73 bS (cI (cO 3 (.int .i64) (cI (cI (cI (cS (cI (cI .nil)))))))))))))))))
abbrev Z20 : Sh := (cI (cL gQ (cL gQ .nil)))
abbrev Z21 : Sh := (cI (cO 307 gQ (cO 307 gQ .nil)))
abbrev Z22 : Sh := (cI (cB (cL aDl (cI (cL aBh (cL fU .nil))))))
abbrev Z23 : Sh := (cP Z22 (cP Z3 (cP Z3 (cI .nil))))
abbrev Z24 : Sh := (cP Z3 (cP Z3 (cP Z22 (cI .nil))))
abbrev Z25 : Sh := (cI (cB (cI (cI (cL gN (cL rC (cL bS (cL sN (cL dQ (cL iI .nil))))))))))
abbrev Z26 : Sh := (cP Z25 (cP Z4 (cP Z4 (cI .nil))))
abbrev Z27 : Sh := (cP Z4 (cP Z4 (cP Z25 (cI .nil))))
abbrev Z28 : Sh := (cI (cI (cI (cS (cI (cI (cI (cI (cB (cI (cL (.int .i64) .nil)))))))))))
abbrev Z29 : Sh := (cI (cI (cI (cS (cI (cI (cI (cI (cB (cI (cO 3 (.int .i64) .nil)))))))))))
abbrev Z30 : Sh := (cI (cI (cI (cI (cI (cI (cI (cI (cS (cI (cI .nil)))))))))))
abbrev Z31 : Sh := (cP Z4 (cP Z30 (cP Z4 (cP Z29 (cI .nil)))))
abbrev Z32 : Sh := (cO 9 .str (cI (cI .nil)))
abbrev Z33 : Sh := (cO 49 bZ (cO 49 bZ (cO 9 .str (cI .nil))))
abbrev Z34 : Sh := (cO 9 .str (cO 49 bZ (cO 49 bZ (cO 9 .str (cP Z2 (cI .nil))))))
abbrev Z35 : Sh := (cO 49 bZ (cO 49 bZ (cO 9 .str (cO 9 .str (cP Z2 .nil)))))
abbrev Z36 : Sh := (cI (cI (cI (cI (cI (cS (cI (cI (cI (cO 3 (.int .i64) (cO 73 bS .nil)))))))))))
abbrev Z37 : Sh := (cI (cI (cI (cI (cI (cS (cI (cI (cI (cL (.int .i64) (cL bS .nil)))))))))))
abbrev Z38 : Sh := (cP Z13 (cP Z16 (cI .nil)))
abbrev Z39 : Sh := (cP Z16 (cP Z13 (cI .nil)))
abbrev Z40 : Sh := (cP Z13 (cP Z16 (cB .nil)))
abbrev Z41 : Sh := (cA Z12 (cI (cL (.int .i64) .nil)))
abbrev Z42 : Sh := (cI (cI (cI (cB (cL bS .nil)))))
abbrev Z43 : Sh := (cI (cI (cB (cL bS .nil))))
abbrev Z44 : Sh := (cP Z1 (cP Z1 (cO 233 bS (cI .nil))))
abbrev Z45 : Sh := (cP (cI (cO 3 (.int .i64) .nil)) (cP (cI (cO 3 (.int .i64) .nil)) (cI .nil)))
abbrev Z46 : Sh := (cI (cL (.int .i64) .nil))
abbrev Z47 : Sh := (cA Z46 (cI (cI .nil)))
abbrev Z48 : Sh := (cA (cI (cO 3 (.int .i64) .nil)) (cI .nil))
abbrev Z49 : Sh := (cO 73 bS (cI (cI .nil)))
abbrev Z50 : Sh := (cO 73 bS (cB (cI .nil)))
abbrev Z51 : Sh := (cL bS (cI (cI .nil)))
abbrev Z52 : Sh := (cL bS (cO 3 (.int .i64) (cO 73 bS (cI .nil))))
abbrev Z53 : Sh := (cL bZ (cL bS .nil))
abbrev Z54 : Sh := (cI (cO 3 (.int .i64) (cO 73 bS .nil)))
abbrev Z55 : Sh := (cP Z13 (cP Z16 (cP Z36 (cO 73 bS (cI .nil)))))
abbrev Z56 : Sh := (cP Z12 (cO 3 (.int .i64) (cO 49 bZ (cI .nil))))
abbrev Z57 : Sh := (cO 49 bZ (cO 3 (.int .i64) (cP Z12 (cB (cI .nil)))))
abbrev Z58 : Sh := (cP Z12 (cO 3 (.int .i64) (cO 49 bZ (cB .nil))))
abbrev Z59 : Sh := (cP Z46 (cP Z12 (cO 3 (.int .i64) (cO 3 (.int .i64) (cI .nil)))))
abbrev Z60 : Sh := (cO 3 (.int .i64) (cO 3 (.int .i64) (cP Z12 (cP Z46 (cB (cI .nil))))))
abbrev Z61 : Sh := (cP Z46 (cP Z12 (cO 3 (.int .i64) (cO 3 (.int .i64) (cB .nil)))))
abbrev Z62 : Sh := (cL (.int .i64) (cI .nil))
abbrev Z63 : Sh := (cP (cI (cI .nil)) (cO 233 bS (cB (cI .nil))))
abbrev Z64 : Sh := (cP (cI (cI .nil)) (cO 233 bS (cB .nil)))
abbrev Z65 : Sh := (cL bS (cA (cI (cI .nil)) .nil))
abbrev Z66 : Sh := (cP (cI (cO 3 (.int .i64) .nil)) (cI .nil))
abbrev Z67 : Sh := (cP Z16 (cP Z19 (cP (cI (cO 3 (.int .i64) .nil)) (cO 3 (.int .i64) (cP Z19 (cI .nil))))))
abbrev Z68 : Sh := (cP Z16 (cP Z19 (cP (cI (cO 3 (.int .i64) .nil)) (cO 3 (.int .i64) (cP Z19 .nil)))))
abbrev Z69 : Sh := (cP Z16 (cP Z19 (cP (cI (cO 3 (.int .i64) .nil)) (cO 3 (.int .i64) (cP Z19 (cB .nil))))))
abbrev Z70 : Sh := (cA Z13 (cA Z16 (cI .nil)))
abbrev Z71 : Sh := (cP Z1 (cP Z1 (cP Z16 (cO 275 dQ .nil))))
abbrev Z72 : Sh := (cP Z1 (cP Z1 (cO 275 dQ (cP (cI (cO 3 (.int .i64) .nil)) (cO 3 (.int .i64) (cI .nil))))))
abbrev Z73 : Sh := (cO 3 (.int .i64) (cP (cI (cO 3 (.int .i64) .nil)) (cO 275 dQ (cP Z1 (cP Z1 (cO 3 (.int .i64) (cB (cI .nil))))))))
abbrev Z74 : Sh := (cO 3 (.int .i64) (cP Z1 (cP Z1 (cO 275 dQ (cP (cI (cO 3 (.int .i64) .nil)) (cO 3 (.int .i64) (cI .nil)))))))
abbrev Z75 : Sh := (cP Z1 (cP Z1 (cP Z12 (cO 275 dQ (.cons (.ref true 9) (cI .nil))))))
abbrev Z76 : Sh := (cP Z1 (cP Z1 (cP Z12 (cO 275 dQ (cP Z37 (cB .nil))))))
abbrev Z77 : Sh := (cP Z1 (cP Z1 (cP Z12 (cO 275 dQ (cP Z37 .nil)))))
abbrev Z78 : Sh := (cP Z1 (cP Z1 (cP Z12 (cO 275 dQ (cB .nil)))))
abbrev Z79 : Sh := (cP Z1 (cP Z1 (cP Z12 (cO 275 dQ .nil))))
abbrev Z80 : Sh := (cP Z13 (cP Z18 (cI .nil)))
abbrev Z81 : Sh := (cP Z13 (cO 3 (.int .i64) (cI .nil)))
abbrev Z82 : Sh := (cL (.int .i64) (cL (.int .i64) .nil))
abbrev Z83 : Sh := (cP Z1 (cP Z1 (cP Z16 (cO 3 (.int .i64) (cO 275 dQ (cI .nil))))))
abbrev Z84 : Sh := (cA Z1 (cI (cA Z18 .nil)))
abbrev Z85 : Sh := (cP (cI (cL bS .nil)) (cO 231 yB (cB (cI .nil))))
abbrev Z86 : Sh := (cP (cI (cL bS .nil)) (cO 231 yB (cB .nil)))
abbrev Z87 : Sh := (cL yB (cA (cI (cL bS .nil)) .nil))
abbrev Z88 : Sh := (cP Z13 (cP Z18 (cP Z1 (cL dQ (cP Z1 (cL dQ (cB .nil)))))))
abbrev Z89 : Sh := (cB (cI (cI (cO 200 gN (cO 197 rC (cL bS .nil))))))
abbrev Z90 : Sh := (cP Z13 (cP Z1 (cL dQ (cP Z89 (cL dQ .nil)))))
abbrev Z91 : Sh := (cI (cI (cI (cL (.int .i64) .nil))))
abbrev Z92 : Sh := (cI (cI (cI (cI (cL (.int .i64) (cL bS .nil))))))
abbrev Z93 : Sh := (cL aDl (cI (cI .nil)))
abbrev Z94 : Sh := (cL bS (cL (.int .i64) .nil))
abbrev Z95 : Sh := (cI (cI (cB (cB .nil))))
abbrev Z96 : Sh := (cP Z22 (cO 286 aDl (cI .nil)))
abbrev Z97 : Sh := (cA Z22 (cI (cI (cL (.int .i64) (cB .nil)))))
abbrev Z98 : Sh := (cP Z22 (cP (cI (cO 3 (.int .i64) .nil)) (cO 4 .bool (cO 73 bS (cI .nil)))))
abbrev Z99 : Sh := (cO 73 bS (cO 4 .bool (cP Z22 (cI .nil))))
abbrev bLt : Sh := (cO 4 .bool (cO 73 bS (cO 3 (.int .i64) (cI .nil))))
abbrev bLs : Sh := (cP Z22 (cO 4 .bool (cO 73 bS (cP Z92 .nil))))
abbrev bLr : Sh := (cA Z22 (cI (cL (.int .i64) .nil)))
abbrev bLq : Sh := (cA Z22 (cI (cI (cI .nil))))
abbrev bLp : Sh := (cP Z22 (cP Z3 (cO 289 fU (cI .nil))))
abbrev bLo : Sh := (cA Z22 (cI (cI .nil)))
abbrev bIl : Sh := (cI (cB (cL aDl (cI (cL aBh (cO 289 fU .nil))))))
abbrev bLn : Sh := (cP Z3 (cP Z3 (cO 289 fU (cI .nil))))
abbrev bJd : Sh := (cA Z3 (cI (cI .nil)))
abbrev bLm : Sh := (cL gQ (cI (cI .nil)))
abbrev bLl : Sh := (cP Z20 (cP Z95 (cI .nil)))
abbrev bLk : Sh := (cP Z95 (cP Z20 (cI .nil)))
abbrev bLj : Sh := (cP Z95 (cO 307 gQ (cB (cI .nil))))
abbrev bLi : Sh := (cP Z95 (cO 307 gQ (cB .nil)))
abbrev bJc : Sh := (cI (cO 307 gQ (cL gQ .nil)))
abbrev bLh : Sh := (cP Z21 (cO 307 gQ (cP bJc (cL gQ (cI .nil)))))
abbrev bJb : Sh := (cA Z20 (cI (cI .nil)))
abbrev bLg : Sh := (cP Z3 (cP Z3 (cO 275 dQ (cP Z3 (cI .nil)))))
abbrev bLf : Sh := (cP Z3 (cO 275 dQ (cP Z3 (cP Z3 (cI .nil)))))
abbrev bLe : Sh := (cP Z91 (cO 289 fU (cB (cI .nil))))
abbrev bLd : Sh := (cP Z91 (cO 289 fU (cB .nil)))
abbrev bLc : Sh := (cP Z20 (cP Z95 (cP Z21 (cO 307 gQ (cP Z21 (cO 307 gQ (cO 307 gQ (cI .nil))))))))
abbrev bJa : Sh := (cP Z20 (cP Z95 (cP Z21 (cO 307 gQ (cP Z21 (cB .nil))))))
abbrev bI9 : Sh := (cP Z20 (cP Z95 (cP Z21 (cO 307 gQ (cP Z21 .nil)))))
abbrev bLb : Sh := (cP Z20 (cP Z95 (cP Z21 (cO 307 gQ (cP Z21 (cO 307 gQ (cO 307 gQ .nil)))))))
abbrev bLa : Sh := (cP Z20 (cP Z95 (cP Z21 (cO 307 gQ (cP Z21 (cO 307 gQ (cO 307 gQ (cP Z95 (cB .nil)))))))))
abbrev bK9 : Sh := (cA Z21 (cB (cO 307 gQ .nil)))
abbrev bK8 : Sh := (cP Z3 (cP Z3 (cP Z91 (cO 275 dQ (cO 307 gQ (cI .nil))))))
abbrev bK7 : Sh := (cO 307 gQ (cO 275 dQ (cP Z91 (cP Z3 (cP Z3 (cI .nil))))))
abbrev bI8 : Sh := (cP Z3 (cP Z18 (cP Z3 (cO 275 dQ (cB .nil)))))
abbrev bK6 : Sh := (cP Z3 (cP Z18 (cP Z3 (cO 275 dQ .nil))))
abbrev bI7 : Sh := (cI (cI (cI (cO 3 (.int .i64) .nil))))
abbrev bK5 : Sh := (cP Z3 (cP Z18 (cP Z3 (cP bI7 .nil))))
abbrev bK4 : Sh := (cI (cB (.cons .dead (cI (.cons .dead (.cons .dead .nil))))))
abbrev bK3 : Sh := (cP bK4 (cP Z3 (cO 275 dQ (cP Z91 (cO 307 gQ (cP Z3 (cO 275 dQ .nil)))))))
abbrev bK2 : Sh := (cA Z22 (cI (cI (cL (.int .i64) .nil))))
abbrev bK1 : Sh := (cP Z3 (cP Z3 (cP Z91 (cI .nil))))
abbrev bK0 : Sh := (cP Z22 (cP Z3 (cL dQ (cP bIl (cL dQ .nil)))))
abbrev bKz : Sh := (cP Z4 (cP Z30 (cP Z4 (cP Z18 (cB .nil)))))
abbrev bKy : Sh := (cP Z4 (cP Z30 (cP Z4 (cP Z18 .nil))))
abbrev bKx : Sh := (cP Z13 (cO 275 dQ (cI .nil)))
abbrev bKw : Sh := (cO 275 dQ (cP Z13 (cP Z16 (cO 3 (.int .i64) (cI .nil)))))
abbrev bKv : Sh := (cO 3 (.int .i64) (cP Z16 (cP Z13 (cO 275 dQ (cB (cI .nil))))))
abbrev bI6 : Sh := (cP Z13 (cO 275 dQ (cP Z16 (cO 3 (.int .i64) .nil))))
abbrev bKu : Sh := (cP Z13 (cO 275 dQ (cP Z16 (cO 3 (.int .i64) (cB .nil)))))
abbrev bIk : Sh := (cI (cB (cI (cI (cO 200 gN (cO 197 rC (cL bS (cO 183 sN (cO 275 dQ (cO 261 iI .nil))))))))))
abbrev bKt : Sh := (cP Z22 (cP Z3 (cP Z3 (cO 286 aDl (cI .nil)))))
abbrev bKs : Sh := (cO 286 aDl (cP Z3 (cP Z3 (cP Z22 (cI .nil)))))
abbrev bKr : Sh := (cP Z3 (cP Z3 (cI .nil)))
abbrev bKq : Sh := (cP Z22 (cO 275 dQ (cO 286 aDl (cI .nil))))
abbrev bKp : Sh := (cO 275 dQ (cP Z22 (cI .nil)))
abbrev bKo : Sh := (cP Z7 (cP Z30 (cP bIk (cB (.cons (.ref false 1) (.cons (.ref false 0) .nil))))))
abbrev bKn : Sh := (cP Z0 (cP Z11 (cA Z30 .nil)))
abbrev bG8 : Sh := (cP Z0 (cP Z11 (cI .nil)))
abbrev bFm : Sh := (cP Z7 (.cons (.ref false 0) (.cons (.ref false 1) (cI .nil))))
abbrev bKm : Sh := (cP Z7 (cP Z30 (.cons (.ref false 1) (.cons (.ref false 0) .nil))))
abbrev bKl : Sh := (cP Z0 (cP Z11 (cI (cI .nil))))
abbrev bKk : Sh := (cP Z0 (cP Z11 (.cons (.ref false 1) (cI .nil))))
abbrev bI5 : Sh := (cP Z7 (.cons (.ref false 1) (.cons (.ref false 0) .nil)))
abbrev bKj : Sh := (cP Z7 (cB (.cons (.ref false 1) (.cons (.ref false 0) .nil))))
abbrev aBf : Sh := (cI (cI (cO 3 (.int .i64) (cO 73 bS (cO 37 fU .nil)))))
abbrev bKi : Sh := (.cons (.ref false 0) (cI (cB (cI (cI (cO 200 gN (cO 197 rC (cO 233 bS (cO 183 sN (cO 275 dQ (cO 261 iI (cO 206 sM .nil))))))))))))
abbrev bKh : Sh := (cP Z12 (cP Z12 (cP Z0 .nil)))
abbrev aPc : Sh := (cI (cI (cL (.int .i64) (cL bS (cL fU .nil)))))
abbrev bKg : Sh := (cP aPc (cP aBf (cP aBf (cI .nil))))
abbrev bKf : Sh := (cP aPc (cP aBf (cP aBf .nil)))
abbrev bKe : Sh := (cP Z91 (cO 37 fU (cB (cI .nil))))
abbrev bKd : Sh := (cP Z91 (cO 37 fU (cB .nil)))
abbrev bKc : Sh := (cP Z0 (.cons (.ref false 0) (cO 31 yC (cP aBf (cI .nil)))))
abbrev bI4 : Sh := (cP aBf (cP aBf (cI .nil)))
abbrev bKb : Sh := (cP Z0 (.cons (.ref false 0) (cP (cI (cO 3 (.int .i64) .nil)) (cP (cI (cO 3 (.int .i64) .nil)) (cI .nil)))))
abbrev bIj : Sh := (cI (cI (cL (.int .i64) (cO 73 bS (cO 37 fU .nil)))))
abbrev bG7 : Sh := (cA (cI (cI .nil)) .nil)
abbrev bKa : Sh := (.cons (.fn 73 .nil) (cI (cI .nil)))
abbrev bJ9 : Sh := (cL fU (cI (.cons (.fn 73 .nil) .nil)))
abbrev bJ8 : Sh := (.cons (.sc (.alt 168 true (.cons (.int .i64) .nil) (.alt 170 true bS (.alt 172 true bS (.alt 173 true bS .noi))))) (cB .nil))
abbrev bJ7 : Sh := (cO 125 (.alt 168 true (.cons (.int .i64) .nil) (.alt 170 true bS (.alt 172 true bS (.alt 173 true bS .noi)))) (cI .nil))
abbrev bJ6 : Sh := (cO 125 (.alt 168 true (.cons (.int .i64) .nil) (.alt 170 true bS (.alt 172 true bS (.alt 173 true bS .noi)))) (cB .nil))
abbrev bJ5 : Sh := (cS (cI (cI .nil)))
abbrev bJ4 : Sh := (.cons (.mp (.int .i64) (.int .i64)) (cI .nil))
abbrev bI3 : Sh := (.seg (.int .i64) 32 (.seg .bool 32 (cO 3 (.int .i64) .nil)))
abbrev bIi : Sh := (cP bI3 (cI (cI .nil)))
abbrev bI2 : Sh := (cP bI3 (.cons (.sc (.alt 168 true (.cons (.int .i64) .nil) (.alt 170 true bS (.alt 172 true bS (.alt 173 true bS .noi))))) .nil))
abbrev bJ3 : Sh := (cI (cL (.int .i64) (cL bS .nil)))
abbrev aQx : Sh := (cI (cI (cO 3 (.int .i64) (cL bS (cO 37 fU .nil)))))
abbrev bJ2 : Sh := (cP aQx (cP aBf (cP Z91 (.cons (.mp (.int .i64) (.int .i64)) (cI .nil)))))
abbrev bJ1 : Sh := (cP aBf (cP Z12 (cP aBf (cB .nil))))
abbrev bJ0 : Sh := (cP aBf (cP Z12 (cP aBf .nil)))
abbrev bJz : Sh := (cP aQx (cP aBf (cP Z91 .nil)))
abbrev bIh : Sh := (cI (cI (cL (.int .i64) (cL bS (cO 37 fU .nil)))))
abbrev bJy : Sh := (cP bIh (cP Z12 (cP aQx (cI .nil))))
abbrev bJx : Sh := (cP aQx (cP Z12 (cP bIh (cB (cI .nil)))))
abbrev bJw : Sh := (cP bIj (cP Z12 (cI .nil)))
abbrev bJv : Sh := (cP Z12 (cP bIh (cP aQx (cB (cI .nil)))))
abbrev bJu : Sh := (cP Z0 (.cons (.ref false 0) (cO 49 bZ .nil)))
abbrev bJt : Sh := (cP aBf (cP aQx (cI .nil)))
abbrev bJs : Sh := (cO 49 bZ (cO 49 bZ (cP Z12 (cP Z12 (cP aQx (cI .nil))))))
abbrev bJr : Sh := (cP aQx (cP Z12 (cP Z12 (cO 49 bZ (cO 49 bZ (cI .nil))))))
abbrev bJq : Sh := (cL (.int .u8) (cL (.int .u8) .nil))
def TTb : List (Nat × TI) := [
 (3, { k := .int .i64, n := 1, z := [.d (.val (.int .i64) (0 : Int))] }),
 (4, { k := .bool, n := 1, z := [.d (.val .bool false)] }),
 (5, { k := .int .u8, n := 1, z := [.d (.val (.int .u8) (0 : Int))] }),
 (9, { k := .str, n := 1, z := [.d (.val .str emptyS)] }),
 (20, { k := .iface, n := 1, er := (.alt 118 true (.cons (.int .i64) .nil) .noi), z := [.d .nli] }),
 (22, { k := .slice, n := 1, el := 5, er := (.int .u8), eb := 1, z := [.s 5 (.int .u8)] }),
 (23, { k := .slice, n := 1, el := 3, er := (.int .i64), eb := 8, z := [.s 3 (.int .i64)] }),
 (25, { k := .struct, n := 2, fs := [(0, 1), (1, 1)], fg := [false, false], eq := [], z := [.d (.val (.int .i64) (0 : Int)), .s 3 (.int .i64)] }),
 (26, { k := .slice, n := 1, el := 73, er := bS, eb := 16, z := [.s 73 bS] }),
 (27, { k := .slice, n := 1, el := 37, er := fU, eb := 48, z := [.s 37 fU] }),
 (29, { k := .struct, n := 5, fs := [(0, 1), (1, 2), (3, 1), (4, 1)], fg := [false, true, false, false], eq := [], z := [.d (.val (.int .i64) (0 : Int)), .d (.val (.int .i64) (0 : Int)), .s 3 (.int .i64), .s 73 bS, .s 37 fU] }),
 (31, { k := .struct, n := 6, fs := [(0, 1), (1, 1), (2, 1), (3, 1), (4, 1), (5, 1)], fg := [false, false, false, false, false, false], eq := [.int .i64, .int .i64, .int .i64, .str, .int .i64, .int .i64], z := [.d (.val (.int .i64) (0 : Int)), .d (.val (.int .i64) (0 : Int)), .d (.val (.int .i64) (0 : Int)), .d (.val .str emptyS), .d (.val (.int .i64) (0 : Int)), .d (.val (.int .i64) (0 : Int))] }),
 (37, { k := .struct, n := 4, fs := [(0, 1), (1, 1), (2, 1), (3, 1)], fg := [false, false, false, false], eq := [], z := [.d (.val (.int .i64) (0 : Int)), .d (.val (.int .i64) (0 : Int)), .d (.val (.int .i64) (0 : Int)), .s 3 (.int .i64)] }),
 (41, { k := .slice, n := 1, el := 31, er := yC, eb := 56, z := [.s 31 yC] }),
 (43, { k := .slice, n := 1, el := 49, er := bZ, eb := 24, z := [.s 49 bZ] }),
 (49, { k := .struct, n := 3, fs := [(0, 1), (1, 1), (2, 1)], fg := [false, false, false], eq := [.int .i64, .int .i64, .int .i64], z := [.d (.val (.int .i64) (0 : Int)), .d (.val (.int .i64) (0 : Int)), .d (.val (.int .i64) (0 : Int))] }),
 (51, { k := .ptr, n := 1, el := 89, z := [.d .nilp] }),
 (70, { k := .map, n := 1, er := (.int .i64), ev := (.int .i64), z := [.d .dead] }),
 (73, { k := .struct, n := 2, fs := [(0, 1), (1, 1)], fg := [false, false], eq := [.int .i64, .int .i64], z := [.d (.val (.int .i64) (0 : Int)), .d (.val (.int .i64) (0 : Int))] }),
 (85, { k := .slice, n := 1, el := 9, er := .str, eb := 16, z := [.s 9 .str] }),
 (89, { k := .struct, n := 2, fs := [(0, 1), (1, 1)], fg := [false, false], eq := [], z := [.s 5 (.int .u8), .d (.val (.int .i64) (0 : Int))] }),
 (91, { k := .ptr, n := 1, el := 146, z := [.d .nilp] }),
 (109, { k := .arr 8, n := 8, el := 3, er := (.int .i64), z := [.a (.int .i64) 8] }),
 (114, { k := .slice, n := 1, el := 125, er := (.alt 168 true (.cons (.int .i64) .nil) (.alt 170 true bS (.alt 172 true bS (.alt 173 true bS .noi)))), eb := 16, z := [.s 125 (.alt 168 true (.cons (.int .i64) .nil) (.alt 170 true bS (.alt 172 true bS (.alt 173 true bS .noi))))] }),
 (118, { k := .struct, n := 1, fs := [(0, 1)], fg := [false], eq := [.int .i64], z := [.d (.val (.int .i64) (0 : Int))], rw := (.cons (.int .i64) .nil) }),
 (120, { k := .arr 32, n := 32, el := 3, er := (.int .i64), z := [.a (.int .i64) 32] }),
 (121, { k := .arr 32, n := 32, el := 4, er := .bool, z := [.a .bool 32] }),
 (123, { k := .struct, n := 65, fs := [(0, 32), (32, 32), (64, 1)], fg := [true, true, false], eq := [], z := [.a (.int .i64) 32, .a .bool 32, .s 3 (.int .i64)] }),
 (125, { k := .iface, n := 1, er := (.alt 168 true (.cons (.int .i64) .nil) (.alt 170 true bS (.alt 172 true bS (.alt 173 true bS .noi)))), z := [.d .nli] }),
 (134, { k := .slice, n := 1, el := 200, er := gN, eb := 128, z := [.s 200 gN] }),
 (135, { k := .slice, n := 1, el := 197, er := rC, eb := 136, z := [.s 197 rC] }),
 (136, { k := .slice, n := 1, el := 233, er := bS, eb := 16, z := [.s 233 bS] }),
 (138, { k := .struct, n := 6, fs := [(0, 1), (1, 1), (2, 1), (3, 1), (4, 1), (5, 1)], fg := [false, false, false, false, false, false], eq := [], z := [.d (.val .bool false), .d (.val (.int .i64) (0 : Int)), .d (.val (.int .i64) (0 : Int)), .s 200 gN, .s 197 rC, .s 233 bS] }),
 (139, { k := .slice, n := 1, el := 183, er := sN, eb := 96, z := [.s 183 sN] }),
 (140, { k := .slice, n := 1, el := 275, er := dQ, eb := 192, z := [.s 275 dQ] }),
 (141, { k := .slice, n := 1, el := 261, er := iI, eb := 112, z := [.s 261 iI] }),
 (143, { k := .struct, n := 10, fs := [(0, 1), (1, 6), (7, 1), (8, 1), (9, 1)], fg := [false, true, false, false, false], eq := [], z := [.d (.val (.int .i64) (0 : Int)), .d (.val .bool false), .d (.val (.int .i64) (0 : Int)), .d (.val (.int .i64) (0 : Int)), .s 200 gN, .s 197 rC, .s 233 bS, .s 183 sN, .s 275 dQ, .s 261 iI] }),
 (144, { k := .slice, n := 1, el := 206, er := sM, eb := 96, z := [.s 206 sM] }),
 (146, { k := .struct, n := 12, fs := [(0, 1), (1, 10), (11, 1)], fg := [false, true, false], eq := [], z := [.d .nilp, .d (.val (.int .i64) (0 : Int)), .d (.val .bool false), .d (.val (.int .i64) (0 : Int)), .d (.val (.int .i64) (0 : Int)), .s 200 gN, .s 197 rC, .s 233 bS, .s 183 sN, .s 275 dQ, .s 261 iI, .s 206 sM] }),
 (153, { k := .int .u64, n := 1, z := [.d (.val (.int .u64) (0 : Int))] }),
 (157, { k := .iface, n := 1, er := .ern, z := [.d .nli] }),
 (166, { k := .ptr, n := 1, el := 123, z := [.d .nilp] }),
 (168, { k := .struct, n := 1, fs := [(0, 1)], fg := [false], eq := [.int .i64], z := [.d (.val (.int .i64) (0 : Int))], rw := (.cons (.int .i64) .nil) }),
 (170, { k := .struct, n := 2, fs := [(0, 1), (1, 1)], fg := [false, false], eq := [.int .i64, .int .i64], z := [.d (.val (.int .i64) (0 : Int)), .d (.val (.int .i64) (0 : Int))], rw := bS }),
 (172, { k := .struct, n := 2, fs := [(0, 1), (1, 1)], fg := [false, false], eq := [.int .i64, .int .i64], z := [.d (.val (.int .i64) (0 : Int)), .d (.val (.int .i64) (0 : Int))], rw := bS }),
 (173, { k := .struct, n := 2, fs := [(0, 1), (1, 1)], fg := [false, false], eq := [.int .i64, .int .i64], z := [.d (.val (.int .i64) (0 : Int)), .d (.val (.int .i64) (0 : Int))], rw := bS }),
 (179, { k := .slice, n := 1, el := 286, er := aDl, eb := 80, z := [.s 286 aDl] }),
 (180, { k := .slice, n := 1, el := 242, er := aBh, eb := 56, z := [.s 242 aBh] }),
 (181, { k := .slice, n := 1, el := 289, er := fU, eb := 48, z := [.s 289 fU] }),
 (183, { k := .struct, n := 6, fs := [(0, 1), (1, 1), (2, 1), (3, 1), (4, 1), (5, 1)], fg := [false, false, false, false, false, false], eq := [], z := [.d (.val (.int .i64) (0 : Int)), .d (.val .bool false), .s 286 aDl, .d (.val (.int .i64) (0 : Int)), .s 242 aBh, .s 289 fU] }),
 (195, { k := .slice, n := 1, el := 231, er := yB, eb := 32, z := [.s 231 yB] }),
 (197, { k := .struct, n := 12, fs := [(0, 1), (1, 1), (2, 1), (3, 1), (4, 6), (10, 1), (11, 1)], fg := [false, false, false, false, true, false, false], eq := [], z := [.d (.val (.int .i64) (0 : Int)), .d (.val (.int .i64) (0 : Int)), .d (.val (.int .i64) (0 : Int)), .d (.val (.int .i64) (0 : Int)), .d (.val (.int .i64) (0 : Int)), .d (.val (.int .i64) (0 : Int)), .d (.val (.int .i64) (0 : Int)), .d (.val .str emptyS), .d (.val (.int .i64) (0 : Int)), .d (.val (.int .i64) (0 : Int)), .s 3 (.int .i64), .s 231 yB] }),
 (200, { k := .struct, n := 11, fs := [(0, 1), (1, 1), (2, 6), (8, 1), (9, 1), (10, 1)], fg := [false, false, true, false, false, false], eq := [], z := [.d (.val (.int .i64) (0 : Int)), .d (.val (.int .i64) (0 : Int)), .d (.val (.int .i64) (0 : Int)), .d (.val (.int .i64) (0 : Int)), .d (.val (.int .i64) (0 : Int)), .d (.val .str emptyS), .d (.val (.int .i64) (0 : Int)), .d (.val (.int .i64) (0 : Int)), .d (.val (.int .i64) (0 : Int)), .s 3 (.int .i64), .s 73 bS] }),
 (206, { k := .struct, n := 11, fs := [(0, 1), (1, 1), (2, 1), (3, 1), (4, 1), (5, 6)], fg := [false, false, false, false, false, true], eq := [], z := [.d (.val (.int .i64) (0 : Int)), .d (.val (.int .i64) (0 : Int)), .d (.val (.int .i64) (0 : Int)), .d (.val (.int .i64) (0 : Int)), .d (.val (.int .i64) (0 : Int)), .d (.val (.int .i64) (0 : Int)), .d (.val (.int .i64) (0 : Int)), .d (.val (.int .i64) (0 : Int)), .d (.val .str emptyS), .d (.val (.int .i64) (0 : Int)), .d (.val (.int .i64) (0 : Int))] }),
 (231, { k := .struct, n := 2, fs := [(0, 1), (1, 1)], fg := [false, false], eq := [], z := [.d (.val (.int .i64) (0 : Int)), .s 73 bS] }),
 (233, { k := .struct, n := 2, fs := [(0, 1), (1, 1)], fg := [false, false], eq := [.int .i64, .int .i64], z := [.d (.val (.int .i64) (0 : Int)), .d (.val (.int .i64) (0 : Int))] }),
 (240, { k := .slice, n := 1, el := 307, er := gQ, eb := 24, z := [.s 307 gQ] }),
 (242, { k := .struct, n := 3, fs := [(0, 1), (1, 1), (2, 1)], fg := [false, false, false], eq := [], z := [.d (.val (.int .i64) (0 : Int)), .s 307 gQ, .s 307 gQ] }),
 (261, { k := .struct, n := 11, fs := [(0, 6), (6, 1), (7, 1), (8, 1), (9, 1), (10, 1)], fg := [true, false, false, false, false, false], eq := [], z := [.d (.val (.int .i64) (0 : Int)), .d (.val (.int .i64) (0 : Int)), .d (.val (.int .i64) (0 : Int)), .d (.val .str emptyS), .d (.val (.int .i64) (0 : Int)), .d (.val (.int .i64) (0 : Int)), .d (.val (.int .i64) (0 : Int)), .d (.val (.int .i64) (0 : Int)), .d (.val .bool false), .d (.val (.int .i64) (0 : Int)), .s 3 (.int .i64)] }),
 (275, { k := .struct, n := 17, fs := [(0, 1), (1, 1), (2, 1), (3, 1), (4, 1), (5, 1), (6, 1), (7, 1), (8, 1), (9, 1), (10, 1), (11, 6)], fg := [false, false, false, false, false, false, false, false, false, false, false, true], eq := [], z := [.d (.val (.int .i64) (0 : Int)), .d (.val (.int .i64) (0 : Int)), .d (.val (.int .i64) (0 : Int)), .d (.val (.int .i64) (0 : Int)), .d (.val (.int .i64) (0 : Int)), .d (.val (.int .i64) (0 : Int)), .d (.val .bool false), .s 3 (.int .i64), .s 73 bS, .d (.val (.int .i64) (0 : Int)), .s 3 (.int .i64), .d (.val (.int .i64) (0 : Int)), .d (.val (.int .i64) (0 : Int)), .d (.val (.int .i64) (0 : Int)), .d (.val .str emptyS), .d (.val (.int .i64) (0 : Int)), .d (.val (.int .i64) (0 : Int))] }),
 (286, { k := .struct, n := 6, fs := [(0, 1), (1, 1), (2, 1), (3, 1), (4, 1), (5, 1)], fg := [false, false, false, false, false, false], eq := [], z := [.d (.val (.int .i64) (0 : Int)), .d (.val (.int .i64) (0 : Int)), .d (.val (.int .i64) (0 : Int)), .d (.val (.int .i64) (0 : Int)), .s 3 (.int .i64), .s 73 bS] }),
 (289, { k := .struct, n := 4, fs := [(0, 1), (1, 1), (2, 1), (3, 1)], fg := [false, false, false, false], eq := [], z := [.d (.val (.int .i64) (0 : Int)), .d (.val (.int .i64) (0 : Int)), .d (.val (.int .i64) (0 : Int)), .s 3 (.int .i64)] }),
 (307, { k := .struct, n := 4, fs := [(0, 1), (1, 1), (2, 1), (3, 1)], fg := [false, false, false, false], eq := [.int .i64, .int .i64, .bool, .bool], z := [.d (.val (.int .i64) (0 : Int)), .d (.val (.int .i64) (0 : Int)), .d (.val .bool false), .d (.val .bool false)] }),
 (362, { k := .slice, n := 1, el := 4, er := .bool, eb := 1, z := [.s 4 .bool] })]
theorem aQ4 : TTok Tryz.prog (lk TTb) := aMt (by kernel_rfl)
theorem aA4 : Tryz.prog.follows .mixedOrders = true := by kernel_rfl
theorem of8 {fid : Nat} {fn : Func} {l : List (Nat × List FS)} {ins res : Sh} {ex : List (Nat × Nat)} {F : ins.T → Option (Sh.out ins.io res).T} (H : List (Nat × Hint)) (hf : Tryz.prog.funcs[fid]? = some fn) (hE : EnvL Tryz.prog l)
  (h : ((match fn.body with | some _ => true | none => false) && !(fn.name == "runtime.NumGoroutine") && fnB fn ins ex.length) = true := by kernel_rfl)
  (hF : aVl { tt := lk TTb, fs := aMg l } H (mD fn) fn.results.toList ex.length ins res = F := by kernel_rfl) : FnOK Tryz.prog fid ⟨ins, res, F, ex⟩ := by
 rw [Bool.and_eq_true, Bool.and_eq_true] at h
 exact FnOK.of_run2 hf h.1.1 (by simpa using h.1.2) aQ4 (EnvL.ok hE) aA4 h.2 hF
theorem eC {f : Nat} {fs : FS} {l : List (Nat × List FS)} (h : FnOK Tryz.prog f fs) (k : EnvL Tryz.prog l) : EnvL Tryz.prog ((f, [fs]) :: l) := .cons (.one h) k
theorem eN : EnvL Tryz.prog [] := .nil
theorem aEm : FK 18 (cL (.int .u8) .nil) (.ptr Z0) aAq :=
 of8 [] Tryz.func18 eN
theorem dN : FK 21 (cP Z0 (cI .nil)) (.sc (.int .i64)) aL :=
 of8 [] Tryz.func21 eN
theorem aOk : FK 119 .nil (.agg Z1) zF :=
 of8 [] Tryz.func119 eN
theorem eG : FK 22 Z2 (.sc .bool) dK :=
 of8 [] Tryz.func22 eN
theorem jE : FK 143 (cI .nil) (.sc .bool) iE :=
 of8 [] Tryz.func143 (eC eG eN)
theorem aGp : FK 144 .nil (.own 242 aBh) xE :=
 of8 [(3, ⟨[], [1, 2], (cO 242 aBh (cI .nil))⟩)] Tryz.func144 eN
theorem aMa : FK 120 (cI .nil) (.agg Z3) vL :=
 of8 [] Tryz.func120 (eC jE (eC aGp eN))
theorem aEt : FK 96 .nil (.agg Z4) uA :=
 of8 [(3, ⟨[], [0, 1, 2], Z5⟩)] Tryz.func96 (eC aOk (eC aMa eN))
theorem zL : FK 171 Z6 (.sc (.int .i64)) xA :=
 of8 [(2, ⟨[1, 0], [5], (cI .nil)⟩)] Tryz.func171 eN
theorem zK : FnOK Tryz.prog 93 ⟨(cP Z0 (cP Z11 .nil)), (.own 49 bZ), kY, [(0, 0)]⟩ :=
 of8 [(3, ⟨[], [0, 1000001, 1000000, 3, 4], Z8⟩), (3000004, ⟨[4], [0, 3, 1000000, 1000001], Z9⟩), (3000006, ⟨[4], [0, 3, 5, 1000000, 1000001], Z10⟩), (3000013, ⟨[4], [0, 3, 5, 1000000, 1000001], Z10⟩)] Tryz.func93 (eC dN eN)
theorem aCm : FK 63 (cI .nil) (.sc .bool) yX :=
 of8 [] Tryz.func63 (eC eG eN)
theorem aLg : FK 48 (cL bZ .nil) (.sc .bool) xL :=
 of8 [(4, ⟨[0], [3], (cI .nil)⟩)] Tryz.func48 (eC eG (eC aCm eN))
noncomputable def bCb (T_s_l6Dec : Int → Option ByteArray) : Env := { tt := lk TTb, fs := aMg [(49, [⟨(.cons (.sc (.int .i64)) .nil), (.sc .str), T_s_l6Dec, []⟩])] }
theorem aVj (T_s_l6Dec : Int → Option ByteArray) : aVl (bCb T_s_l6Dec) [] (mD Tryz.f49) Tryz.f49.results.toList 0 (.cons (.sc (.int .i64)) .nil) (.sc .str) = aAr T_s_l6Dec := by kernel_rfl
theorem aV3 (T_s_l6Dec : Int → Option ByteArray) (h_s_l6Dec : FnOK Tryz.prog 49 ⟨(.cons (.sc (.int .i64)) .nil), (.sc .str), T_s_l6Dec, []⟩) : FnOK Tryz.prog 49 ⟨(.cons (.sc (.int .i64)) .nil), (.sc .str), (aAr T_s_l6Dec), []⟩ :=
 FnOK.of_run2 Tryz.func49 (by kernel_rfl) (by kernel_rfl) aQ4 (EnvL.ok (EnvL.cons (OneL.one h_s_l6Dec) EnvL.nil)) aA4 (by kernel_rfl) (aVj T_s_l6Dec)
theorem aK9 : ∀ n, FnOK Tryz.prog 49 ⟨(.cons (.sc (.int .i64)) .nil), (.sc .str), (rO n), []⟩
 | 0 => FnOK.zero Tryz.func49 (by kernel_rfl) (by kernel_rfl)
 | n + 1 => (aV3 _ (aK9 n))
theorem aN0 : FnOK Tryz.prog 49 ⟨(cI .nil), (.sc .str), aFi, []⟩ := aK9 1000000
theorem aOd : FK 50 (cI .nil) (.sc .str) yY :=
 of8 [] Tryz.func50 (eC aN0 eN)
theorem xP : FK 14 (cL bZ .nil) (.sc .str) iP :=
 of8 [(5, ⟨[0], [3, 4], (cS (cI .nil))⟩), (3000009, ⟨[0, 4], [3, 5], (cS (cP Z2 .nil))⟩)] Tryz.func14 (eC aLg (eC aN0 (eC aOd eN)))
theorem aA1 : FnOK Tryz.prog 56 ⟨(cP Z0 (cP Z11 .nil)), (.agg Z12), oP, [(0, 0)]⟩ :=
 of8 [] Tryz.func56 (eC xP (eC dN (eC zK eN)))
theorem vP : FK 192 (cA Z13 .nil) (.agg Z1) mM :=
 of8 [(3, ⟨[], [1, 2, 3, 4], Z14⟩), (10, ⟨[], [3, 2, 1, 6], Z15⟩), (15, ⟨[6], [1, 2, 3, 7, 8, 9], Z17⟩), (3000002, ⟨[], [1, 2, 3], (cP Z13 (cP Z1 (cP Z1 .nil)))⟩)] Tryz.func192 eN
theorem aTz : FK 211 (cA Z18 .nil) (.agg Z19) aFq :=
 of8 [] Tryz.func211 eN
theorem aAe : FK 193 (cL dQ .nil) (.own 275 dQ) nK :=
 of8 [(3, ⟨[0], [3, 4], (cO 275 dQ (cI .nil))⟩)] Tryz.func193 (eC aTz eN)
theorem vR : FK 212 (cA Z20 .nil) (.agg Z21) qE :=
 of8 [] Tryz.func212 eN
theorem qX : FK 194 (cA Z22 .nil) (.agg Z3) jU :=
 of8 [(3, ⟨[], [1, 2, 3, 4], Z23⟩), (10, ⟨[], [3, 2, 1, 6], Z24⟩), (14, ⟨[], [1, 2, 3, 7], Z23⟩)] Tryz.func194 (eC vR eN)
theorem aTr : FK 173 (cA Z25 .nil) (.agg Z4) aAs :=
 of8 [(3, ⟨[], [1, 2, 3, 4], Z26⟩), (7, ⟨[], [3, 2, 1, 5], Z27⟩), (3000002, ⟨[], [1, 2, 3], (cP Z25 (cP Z4 (cP Z4 .nil)))⟩)] Tryz.func173 (eC vP (eC aAe (eC qX eN)))
theorem aIo : FK 238 (cA Z12 .nil) (.sc .bool) aAy :=
 of8 [] Tryz.func238 (eC eG eN)
theorem zM : FK 90 (cL (.int .i64) .nil) (.sc .bool) qO :=
 of8 [(4, ⟨[0], [3], (cI .nil)⟩)] Tryz.func90 (eC aCm eN)
theorem aN4 : FK 235 (cA Z28 (cI .nil)) (.sc .bool) yQ :=
 of8 [] Tryz.func235 (eC eG (eC zM (eC aIo eN)))
theorem aL4 : FK 214 Z6 (.sc .bool) vF :=
 of8 [(4, ⟨[1, 0], [5], (cI .nil)⟩), (10, ⟨[0, 1, 5], [6, 7], (cI (cI .nil))⟩), (3000007, ⟨[0, 1, 5], [41], (cB .nil)⟩), (3000008, ⟨[0, 1, 5], [], .nil⟩)] Tryz.func214 (eC aN4 eN)
theorem aN2 : FK 200 (cA Z4 (cA Z30 .nil)) (.tup (cA Z4 (cB .nil))) yO :=
 of8 [(7, ⟨[], [2, 3, 4, 6, 7], Z31⟩)] Tryz.func200 (eC eG (eC zL (eC aL4 eN)))
theorem vN : FK 201 (cO 275 dQ (cL dQ .nil)) (.own 275 dQ) pW :=
 of8 [(2, ⟨[1], [0, 5], (cO 275 dQ (cI .nil))⟩)] Tryz.func201 eN
end Ab
end
noncomputable section
set_option maxRecDepth 100000
namespace Ab
open Go Go.Proofs
theorem aN1 : FK 188 (cA Z4 (cA Z30 .nil)) (.tup (cA Z4 (cB .nil))) pX :=
 of8 [] Tryz.func188 (eC zL (eC aN2 (eC vN eN)))
theorem aZl : FK 59 (cS (.cons (.sc (.int .u8)) .nil)) (.own 9 .str) aB1 :=
 of8 [(4, ⟨[1, 0], [5, 6, 7], Z32⟩)] Tryz.func59 eN
theorem aZk : FK 60 (cS .nil) (.tup (cI (cB .nil))) aBz :=
 of8 [(9, ⟨[0, 4, 5], [6, 7], (cI (cI .nil))⟩), (3000002, ⟨[0], [4], (cB .nil)⟩), (3000005, ⟨[0, 4], [5], (cS .nil)⟩)] Tryz.func60 (eC aOd eN)
theorem tH : FK 26 (cS .nil) (.tup (cO 49 bZ (cB .nil))) iY :=
 of8 [(7, ⟨[0], [4, 5, 6, 7], Z33⟩), (12, ⟨[0, 7], [6, 5, 4, 8, 9, 10], Z34⟩), (3000018, ⟨[7, 0], [4, 5, 6, 8, 9], Z35⟩)] Tryz.func26 (eC xP (eC aZl (eC aZk eN)))
theorem aV7 : FK 53 (cA Z12 .nil) (.sc .bool) xC :=
 of8 [] Tryz.func53 (eC eG eN)
theorem qG : FK 17 (cA Z12 .nil) (.sc .bool) mF :=
 of8 [] Tryz.func17 (eC tH (eC aV7 eN))
theorem lY : FK 61 (cL bS .nil) (.sc .bool) iW :=
 of8 [(4, ⟨[0], [3], (cI .nil)⟩)] Tryz.func61 (eC eG (eC aCm eN))
theorem aCi : FK 133 (cL gN (cI .nil)) (.tup (cA Z37 (cB .nil))) rQ :=
 of8 [(2, ⟨[1, 0], [4, 6], (cP Z36 (cI .nil))⟩)] Tryz.func133 eN
theorem aQf : FK 131 (cL gN (cI .nil)) (.sc .bool) aBu :=
 of8 [(4, ⟨[1, 0], [5], (cI .nil)⟩), (10, ⟨[0, 1, 5], [6, 7], (cP Z37 (cI .nil))⟩)] Tryz.func131 (eC qG (eC eG (eC lY (eC zM (eC aCi eN)))))
theorem aN9 : FK 132 (cA Z16 (cI .nil)) (.sc .bool) yU :=
 of8 [(4, ⟨[], [2, 5], (cP Z16 (cI .nil))⟩), (9, ⟨[], [2, 6], (cP Z16 (cI .nil))⟩), (3000002, ⟨[], [2, 58], (cP Z16 (cB .nil))⟩), (3000003, ⟨[], [2], (cP Z16 .nil)⟩)] Tryz.func132 (eC qG (eC eG (eC lY (eC jE eN))))
theorem aCh : FK 169 (cL rC (cI .nil)) (.sc (.int .i64)) wM :=
 of8 [(2, ⟨[1, 0], [5], (cI .nil)⟩)] Tryz.func169 eN
theorem aIk : FK 170 (cL bS (cI .nil)) (.sc (.int .i64)) wJ :=
 of8 [(3, ⟨[1, 0], [5, 6], (cI (cI .nil))⟩)] Tryz.func170 eN
theorem aN6 : FK 134 (cA Z13 .nil) (.sc .bool) yR :=
 of8 [(2, ⟨[], [1, 3], (cP Z13 (cI .nil))⟩)] Tryz.func134 (eC jE (eC aCh (eC aIk eN)))
theorem uF : FK 116 (cA Z13 .nil) (.sc .bool) qQ :=
 of8 [(4, ⟨[], [1, 3], (cP Z13 (cI .nil))⟩), (10, ⟨[3], [1, 4, 5], Z38⟩), (15, ⟨[3], [4, 1, 6], Z39⟩), (3000002, ⟨[], [1, 47], (cP Z13 (cB .nil))⟩), (3000003, ⟨[], [1], (cP Z13 .nil)⟩), (3000008, ⟨[3], [1, 4, 80], Z40⟩), (3000009, ⟨[3], [1, 4], (cP Z13 (cP Z16 .nil))⟩)] Tryz.func116 (eC eG (eC aQf (eC aN9 (eC aCi (eC aN6 eN)))))
theorem aQk : FK 236 (cI .nil) (.sc .bool) xI :=
 of8 [] Tryz.func236 (eC eG (eC jE eN))
theorem aGr : FK 237 (cL (.int .i64) .nil) (.sc .bool) xH :=
 of8 [(2, ⟨[0], [3], (cI .nil)⟩)] Tryz.func237 (eC eG eN)
theorem aLf : FK 215 (cA Z18 .nil) (.sc .bool) aEc :=
 of8 [] Tryz.func215 (eC eG (eC lY (eC zM (eC aQk (eC aGr (eC aIo eN))))))
theorem aEp : FK 239 Z41 (.agg Z19) nJ :=
 of8 [] Tryz.func239 eN
theorem aLc : FK 243 Z42 (.agg Z19) tZ :=
 of8 [] Tryz.func243 eN
theorem aCj : FK 250 Z43 (.own 275 dQ) rR :=
 of8 [(3, ⟨[3, 2, 1, 0], [9, 10], (cO 275 dQ (cI .nil))⟩)] Tryz.func250 (eC aLc eN)
theorem uV : FK 251 (cA Z1 (cI .nil)) (.agg Z1) lS :=
 of8 [(3, ⟨[1], [2, 4, 5, 6], Z44⟩)] Tryz.func251 eN
theorem tF : FK 94 .nil (.agg (cI (cO 3 (.int .i64) .nil))) lV :=
 of8 [(3, ⟨[], [0, 1, 2], Z45⟩)] Tryz.func94 eN
theorem aOf : FK 43 (cA Z46 .nil) (.sc .bool) aB3 :=
 of8 [(4, ⟨[], [1, 3], (cP Z46 (cI .nil))⟩)] Tryz.func43 (eC eG eN)
theorem aLb : FK 58 (cA Z46 .nil) (.agg (cI (cO 3 (.int .i64) .nil))) nI :=
 of8 [] Tryz.func58 eN
theorem qY : FK 25 Z47 (.tup Z48) mP :=
 of8 [] Tryz.func25 (eC eG (eC aOf (eC aLb eN)))
theorem uE : FK 241 (cL gN .nil) (.agg (cI (cO 3 (.int .i64) .nil))) oQ :=
 of8 [(3, ⟨[0], [2, 3, 4], Z45⟩)] Tryz.func241 (eC qY (eC tF eN))
theorem aTu : FK 276 (cA Z46 (cA Z12 .nil)) (.sc .bool) aAu :=
 of8 [] Tryz.func276 (eC qY eN)
theorem aOe : FK 62 (cL bS (cI .nil)) (.sc (.int .i64)) aB0 :=
 of8 [(2, ⟨[1, 0], [5], (cI .nil)⟩)] Tryz.func62 eN
theorem aAf : FK 28 (cL bS (cL bS .nil)) (.own 73 bS) lU :=
 of8 [(5, ⟨[1, 0], [5, 6], (cO 73 bS (cI .nil))⟩), (9, ⟨[0, 1, 6], [5, 7, 8], Z49⟩)] Tryz.func28 (eC lY (eC aOe eN))
theorem aZj : FK 64 Z51 (.own 73 bS) vK :=
 of8 [(4, ⟨[2, 1, 0], [7, 8, 9], Z50⟩), (3000009, ⟨[0, 1, 2, 9], [7, 8], (cO 73 bS (cB .nil))⟩)] Tryz.func64 eN
theorem aIp : FK 27 Z53 (.tup Z54) rX :=
 of8 [(7, ⟨[0], [7, 8, 9, 10], Z52⟩)] Tryz.func27 (eC aLg (eC lY (eC aOe (eC aCm (eC aZj eN)))))
theorem aN7 : FK 279 (cA Z13 (cA Z16 .nil)) (.agg Z36) tX :=
 of8 [(3, ⟨[], [2, 3, 4, 5, 6], Z55⟩)] Tryz.func279 (eC qY (eC tH (eC aIp (eC aAf (eC uE eN)))))
theorem vS : FK 289 (cI .nil) (.sc (.int .i64)) rW :=
 of8 [] Tryz.func289 (eC eG eN)
theorem aEu : FK 271 (cA Z12 .nil) (.own 3 (.int .i64)) uB :=
 of8 [(6, ⟨[], [1, 3, 4, 6], Z56⟩), (10, ⟨[6], [4, 3, 1, 7, 8], Z57⟩), (3000009, ⟨[6], [1, 3, 4, 7], Z58⟩)] Tryz.func271 (eC qG (eC tH (eC vS eN)))
theorem aOa : FK 277 (cA Z46 (cA Z12 .nil)) (.own 3 (.int .i64)) tY :=
 of8 [(4, ⟨[], [2, 3, 5, 6, 7], Z59⟩), (8, ⟨[7], [6, 5, 3, 2, 8, 9], Z60⟩), (3000007, ⟨[7], [2, 3, 5, 6, 8], Z61⟩)] Tryz.func277 (eC aEu eN)
theorem sH : FK 226 Z62 (.sc .bool) sS :=
 of8 [(2, ⟨[1, 0], [5], (cI .nil)⟩)] Tryz.func226 eN
theorem aV9 : FK 278 Z65 (.own 233 bS) aD8 :=
 of8 [(4, ⟨[0], [3, 5, 6, 7], Z63⟩), (3000007, ⟨[0, 7, 6], [3, 5, 46], Z64⟩), (3000009, ⟨[0, 7], [3, 5, 6], Z64⟩)] Tryz.func278 eN
theorem aQe : FK 270 (cL gN (cI .nil)) (.agg (cI (cO 3 (.int .i64) .nil))) aBt :=
 of8 [(2, ⟨[1, 0], [4, 5], Z66⟩)] Tryz.func270 (eC uE eN)
theorem aIl : FK 227 Z70 (.agg Z19) wL :=
 of8 [(5, ⟨[2], [4, 6, 7, 8, 9, 10], Z67⟩), (3000006, ⟨[2, 10], [4, 6, 7, 8, 9], Z68⟩), (3000008, ⟨[2, 10], [4, 6, 7, 8, 9, 46], Z69⟩)] Tryz.func227 (eC aQe (eC aEu eN))
def aUp (T_s_l22Take : aT → Option (aT × List aP)) : Env := { tt := lk TTb, fs := aMg [(239, [⟨Z41, (.agg Z19), nJ, []⟩]), (242, [⟨(.cons (.agg Z1) .nil), (.tup (.cons (.agg Z1) (.cons (.own 275 dQ) .nil))), T_s_l22Take, []⟩]), (250, [⟨Z43, (.own 275 dQ), rR, []⟩]), (251, [⟨(.cons (.agg Z1) (.cons (.sc (.int .i64)) .nil)), (.agg Z1), lS, []⟩]), (279, [⟨(.cons (.agg Z13) (.cons (.agg Z16) .nil)), (.agg Z36), tX, []⟩])] }
theorem aNs (T_s_l22Take : aT → Option (aT × List aP)) : aVl (aUp T_s_l22Take) [(3000007, ⟨[1], [2, 4, 6, 8], Z71⟩)] (mD Tryz.f249) Tryz.f249.results.toList 0 (.cons (.agg Z1) (.cons (.sc (.int .i64)) .nil)) (.tup (.cons (.agg Z1) (.cons (.own 275 dQ) .nil))) = qA T_s_l22Take := by kernel_rfl
theorem aEk (T_s_l22Take : aT → Option (aT × List aP)) (h_s_l22Take : FnOK Tryz.prog 242 ⟨(.cons (.agg Z1) .nil), (.tup (.cons (.agg Z1) (.cons (.own 275 dQ) .nil))), T_s_l22Take, []⟩) : FnOK Tryz.prog 249 ⟨(.cons (.agg Z1) (.cons (.sc (.int .i64)) .nil)), (.tup (.cons (.agg Z1) (.cons (.own 275 dQ) .nil))), (qA T_s_l22Take), []⟩ :=
 FnOK.of_run2 Tryz.func249 (by kernel_rfl) (by kernel_rfl) aQ4 (EnvL.ok (EnvL.cons (OneL.cons aEp OneL.nil) (EnvL.cons (OneL.one h_s_l22Take) (EnvL.cons (OneL.cons aCj OneL.nil) (EnvL.cons (OneL.cons uV OneL.nil) (EnvL.cons (OneL.cons aN7 OneL.nil) EnvL.nil)))))) aA4 (by kernel_rfl) (aNs T_s_l22Take)
def aXf (T_s_l22Write : (aT × Int) → Option (aT × List aP)) : Env := { tt := lk TTb, fs := aMg [(170, [⟨(.cons (.sc (.sl bS)) (.cons (.sc (.int .i64)) .nil)), (.sc (.int .i64)), wJ, []⟩]), (226, [⟨Z62, (.sc .bool), sS, []⟩]), (227, [⟨Z70, (.agg Z19), wL, []⟩]), (241, [⟨(.cons (.sc (.sl gN)) .nil), (.agg (.cons (.sc (.int .i64)) (.cons (.own 3 (.int .i64)) .nil))), oQ, []⟩]), (249, [⟨(.cons (.agg Z1) (.cons (.sc (.int .i64)) .nil)), (.tup (.cons (.agg Z1) (.cons (.own 275 dQ) .nil))), T_s_l22Write, []⟩]), (276, [⟨(.cons (.agg Z46) (.cons (.agg Z12) .nil)), (.sc .bool), aAu, []⟩]), (277, [⟨(.cons (.agg Z46) (.cons (.agg Z12) .nil)), (.own 3 (.int .i64)), tY, []⟩]), (278, [⟨Z65, (.own 233 bS), aD8, []⟩])] }
theorem aP1 (T_s_l22Write : (aT × Int) → Option (aT × List aP)) : aVl (aXf T_s_l22Write) [(5, ⟨[], [1, 2, 4, 5, 6, 7], Z72⟩), (14, ⟨[7], [6, 5, 4, 2, 1, 10, 11, 12], Z73⟩), (22, ⟨[7], [10, 1, 2, 4, 5, 6, 13], Z74⟩)] (mD Tryz.f242) Tryz.f242.results.toList 0 (.cons (.agg Z1) .nil) (.tup (.cons (.agg Z1) (.cons (.own 275 dQ) .nil))) = xD T_s_l22Write := by kernel_rfl
theorem aP7 (T_s_l22Write : (aT × Int) → Option (aT × List aP)) (h_s_l22Write : FnOK Tryz.prog 249 ⟨(.cons (.agg Z1) (.cons (.sc (.int .i64)) .nil)), (.tup (.cons (.agg Z1) (.cons (.own 275 dQ) .nil))), T_s_l22Write, []⟩) : FnOK Tryz.prog 242 ⟨(.cons (.agg Z1) .nil), (.tup (.cons (.agg Z1) (.cons (.own 275 dQ) .nil))), (xD T_s_l22Write), []⟩ :=
 FnOK.of_run2 Tryz.func242 (by kernel_rfl) (by kernel_rfl) aQ4 (EnvL.ok (EnvL.cons (OneL.cons aIk OneL.nil) (EnvL.cons (OneL.cons sH OneL.nil) (EnvL.cons (OneL.cons aIl OneL.nil) (EnvL.cons (OneL.cons uE OneL.nil) (EnvL.cons (OneL.one h_s_l22Write) (EnvL.cons (OneL.cons aTu OneL.nil) (EnvL.cons (OneL.cons aOa OneL.nil) (EnvL.cons (OneL.cons aV9 OneL.nil) EnvL.nil))))))))) aA4 (by kernel_rfl) (aP1 T_s_l22Write)
theorem aGm : ∀ n, FnOK Tryz.prog 242 ⟨(.cons (.agg Z1) .nil), (.tup (.cons (.agg Z1) (.cons (.own 275 dQ) .nil))), (yS n), []⟩
 | 0 => FnOK.zero Tryz.func242 (by kernel_rfl) (by kernel_rfl)
 | n + 1 => (aP7 _ (aEk _ (aGm n)))
theorem vO : FnOK Tryz.prog 242 ⟨(cA Z1 .nil), (.tup (cA Z1 (cO 275 dQ .nil))), wK, []⟩ := aGm 1000000
theorem aQd : FnOK Tryz.prog 249 ⟨(cA Z1 (cI .nil)), (.tup (cA Z1 (cO 275 dQ .nil))), aG6, []⟩ := (aEk _ vO)
theorem aTv : FK 240 (cA Z1 (cI .nil)) (.tup (cA Z1 (cO 275 dQ .nil))) aFn :=
 of8 [] Tryz.func240 (eC vO (eC aCj (eC uV eN)))
theorem aWa : FK 216 (cA Z1 (cA Z18 .nil)) (.tup (cA Z1 (cO 275 dQ .nil))) aH8 :=
 of8 [(14, ⟨[], [2, 4, 6, 7, 10, 11], Z75⟩), (3000009, ⟨[9], [2, 4, 6, 7, 8, 59], Z76⟩), (3000010, ⟨[9], [2, 4, 6, 7, 8], Z77⟩), (3000011, ⟨[], [2, 4, 6, 7, 91], Z78⟩), (3000012, ⟨[], [2, 4, 6, 7], Z79⟩), (3000020, ⟨[], [2, 4, 6, 10], Z79⟩)] Tryz.func216 (eC qG (eC eG (eC aCi (eC aEp (eC aTv (eC uE (eC vO eN)))))))
theorem aQg : FK 217 (cA Z13 (cA Z18 .nil)) (.own 275 dQ) aBv :=
 of8 [(2, ⟨[], [2, 3, 5], Z80⟩)] Tryz.func217 (eC aCh (eC aLc eN))
theorem aEo : FK 244 Z51 (.sc .bool) aAv :=
 of8 [(2, ⟨[2, 1, 0], [7], (cI .nil)⟩)] Tryz.func244 eN
theorem aTs : FK 245 Z62 (.own 3 (.int .i64)) aFl :=
 of8 [(3, ⟨[1, 0], [5, 6], (cO 3 (.int .i64) (cI .nil))⟩)] Tryz.func245 (eC sH eN)
theorem aCg : FK 225 (cA Z13 (cI .nil)) (.own 3 (.int .i64)) wI :=
 of8 [(3, ⟨[1], [2, 5, 6], Z81⟩)] Tryz.func225 (eC aEo eN)
theorem aLd : FK 246 Z82 (.sc .bool) aD9 :=
 of8 [(2, ⟨[1, 0], [5], (cI .nil)⟩), (6, ⟨[0, 1, 5], [6, 7], (cB (cI .nil))⟩)] Tryz.func246 eN
theorem aN8 : FK 218 Z84 (.tup (cA Z1 (cO 275 dQ .nil))) yT :=
 of8 [(11, ⟨[], [3, 6, 8, 9, 10, 11], Z83⟩)] Tryz.func218 (eC aCg (eC aEo (eC aTs (eC aLd eN))))
theorem aGo : FK 220 (cA Z1 (cI .nil)) (.tup (cA Z1 (cO 275 dQ .nil))) rT :=
 of8 [] Tryz.func220 (eC vO (eC aCj (eC uV eN)))
theorem aTt : FK 247 Z87 (.own 231 yB) aFm :=
 of8 [(4, ⟨[0], [3, 5, 6, 7], Z85⟩), (3000009, ⟨[0, 7], [3, 5, 6], Z86⟩)] Tryz.func247 eN
theorem aL5 : FK 248 (cL yB .nil) (.own 3 (.int .i64)) vG :=
 of8 [(3, ⟨[0], [3, 4], (cO 3 (.int .i64) (cI .nil))⟩)] Tryz.func248 eN
theorem aJ9 : FK 219 Z84 (.tup (cA Z1 (cO 275 dQ .nil))) sQ :=
 of8 [] Tryz.func219 (eC aGo (eC aCg (eC uE (eC aEo (eC aLd (eC aTt (eC aL5 (eC aQd eN))))))))
theorem aQp : FK 202 (cA Z13 (cA Z18 .nil)) (.tup (cA Z1 (cL dQ .nil))) aB8 :=
 of8 [(3000010, ⟨[9], [2, 3, 4, 6, 7, 8, 10], Z88⟩), (3000013, ⟨[9, 10], [2, 3, 4, 6, 7, 8, 68], Z88⟩), (3000015, ⟨[9, 10], [2, 3, 4, 6, 7, 8, 90], Z88⟩), (3000017, ⟨[9, 10], [2, 3, 4, 6, 7, 8, 104], Z88⟩), (3000020, ⟨[], [2, 4, 6, 7, 8], Z90⟩)] Tryz.func202 (eC uF (eC jE (eC aCh (eC vP (eC aAe (eC aLf (eC aWa (eC aQg (eC aN8 (eC aJ9 (eC aGo eN)))))))))))
theorem aCl : FK 257 Z91 (.sc .bool) wN :=
 of8 [] Tryz.func257 (eC eG (eC aGr eN))
theorem aQi : FK 280 (cA Z92 .nil) (.sc .bool) aBx :=
 of8 [] Tryz.func280 (eC eG (eC lY (eC aCl eN)))
theorem lG : FK 258 Z93 (.sc (.int .i64)) fV :=
 of8 [(2, ⟨[2, 1, 0], [7], (cI .nil)⟩)] Tryz.func258 eN
theorem tC : FK 265 Z93 (.sc (.int .i64)) pJ :=
 of8 [(2, ⟨[2, 1, 0], [7], (cI .nil)⟩)] Tryz.func265 eN
theorem aOb : FK 281 Z94 (.sc .bool) yV :=
 of8 [(2, ⟨[1, 0], [5], (cI .nil)⟩)] Tryz.func281 (eC sH (eC vS eN))
theorem aQj : FK 252 (cL aDl .nil) (.sc .bool) aBy :=
 of8 [(4, ⟨[0], [3], (cI .nil)⟩)] Tryz.func252 (eC lG (eC tC (eC aQi (eC aOb eN))))
theorem aL6 : FK 253 (cL fU .nil) (.sc .bool) vH :=
 of8 [(4, ⟨[0], [3], (cI .nil)⟩)] Tryz.func253 (eC aCl eN)
theorem aEs : FK 282 (cA Z95 .nil) (.sc .bool) qD :=
 of8 [] Tryz.func282 (eC eG eN)
theorem aCn : FK 283 (cA Z95 (cA Z95 .nil)) (.sc .bool) rV :=
 of8 [] Tryz.func283 eN
theorem zN : FK 254 (cA Z20 .nil) (.sc .bool) xK :=
 of8 [(4, ⟨[], [1, 3], (cP Z20 (cI .nil))⟩), (9, ⟨[], [1, 4], (cP Z20 (cI .nil))⟩), (14, ⟨[4], [1, 5], (cP Z20 (cI .nil))⟩)] Tryz.func254 (eC eG (eC aEs (eC aCn eN)))
theorem vQ : FK 228 (cA Z22 .nil) (.own 286 aDl) rU :=
 of8 [(3, ⟨[], [1, 3, 4], Z96⟩)] Tryz.func228 (eC tC eN)
theorem aG8 : FK 284 (cL gQ (cI .nil)) (.sc (.int .i64)) aB2 :=
 of8 [(2, ⟨[1, 0], [5], (cI .nil)⟩)] Tryz.func284 eN
theorem sZ : FK 259 Z97 (.sc .bool) lT :=
 of8 [(2, ⟨[4, 3, 2, 1], [5, 11], (cP Z22 (cI .nil))⟩)] Tryz.func259 (eC aG8 eN)
theorem aTx : FK 255 (cA Z22 .nil) (.sc .bool) aAx :=
 of8 [(3, ⟨[], [1, 3, 4], Z96⟩)] Tryz.func255 (eC vQ (eC sZ eN))
end Ab
end
