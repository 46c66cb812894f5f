/-
  Two deals that touch nothing of each other can change places (FnBooksSwap), tied to the program's card.
  Conditions: those of the statement itself, and none beside.
-/
import Derived.Test.YtpkhfddccaljiaaGreatDoorA12
import Derived.Test.YtpkhfddccaljiaaGreatDoorFSwap
set_option linter.all false
namespace Go.Proofs.YtpkhfddccaljiaaGreatDoor
open Go Go.ChangeShapes Go.WideShapes Go.ChangeAt Go.RowKit
set_option maxRecDepth 100000
theorem bEp (x : List Int × List Int) (hx : ∀ b ∈ x.1, 0 ≤ b ∧ b ≤ 255) (hy : ∀ b ∈ x.2, 0 ≤ b ∧ b ≤ 255) : Ab.w_FnBooksSwap x = some true := by
  by_cases h : (x.1.length : Int) > 1048576
  · unfold Ab.w_FnBooksSwap
    rw [decide_eq_true h]; rfl
  · by_cases h2 : (x.2.length : Int) > 1048576
    · unfold Ab.w_FnBooksSwap
      rw [decide_eq_false h, decide_eq_true h2]; rfl
    · obtain ⟨r, h3, h4⟩ := Ab.x_w_FnBooksSwap x (by omega) hx (by omega) hy
      rw [h3, h4]
theorem aX6 (os : Os) {H : Type} (enc : TypeId × Value → H) : ∃ places, DataW.whole enc Tryz.prog ((aDt os).forCall (fun _ _ => 0) ⟨#[], #[.slice none 0 0, .slice none 0 0], []⟩).memory Tryz.f5.params.toList [] false #[Value.slice none 0 0, Value.slice none 0 0].toList 8 = some ([.nil, .nil], [], places) :=
  ⟨[], by kernel_rfl⟩
theorem aWo (os : Os) (started : os.Started) (H : Type) (enc : TypeId × Value → H) (F : Stop.Interp) :
    ReturnsInHanded {} Tryz.checked os 5 .any ((OpenSpec.ofChange Rows.fnBooksSwapSpec).preRow enc Tryz.prog Tryz.f5 Rows.fnBooksSwapRow.domain false Rows.fnBooksSwapRow.laid) (((OpenSpec.ofChange Rows.fnBooksSwapSpec).at F).post enc Tryz.prog Tryz.f5 false true false false) := by
  obtain ⟨places, hx⟩ := aX6 os enc
  refine returnsInHanded_of_row (C := Tryz.checked) (s := OpenSpec.ofChange Rows.fnBooksSwapSpec) bHs started (by kernel_rfl) Tryz.func5
    ⟨aDt os, fun _ _ => 0, ⟨#[], #[.slice none 0 0, .slice none 0 0], []⟩, World.laidAll_os _ _ _, aTb os _, rfl, (Input.okWide_of_okWideB (by kernel_rfl)).2,
      OpenSpec.preRow_of_cond 8 hx (by kernel_rfl) (fun k hk => by cases hk) (by kernel_rfl) (bHz os _), by simp only [Assume.holds]; exact ⟨by simp, by simp, fun _ => Modest.zero, by simp, by simp⟩⟩ ?_
  intro W base args ds gs before hval hW _ _ _ hL hS _
  exact bB6 (s := Rows.fnBooksSwapSpec) Tryz.params5 (by kernel_rfl) rfl (fun _ _ _ => rfl) Ab.ok_w_FnBooksSwap bEp H enc W base args ds gs before hval hW hL hS
theorem bA8 : Rows.FnBooksSwapSaid :=
  OpenClaim.holds_of_cond 5 Tryz.f5 rfl rfl rfl rfl rfl rfl rfl ⟨rfl, rfl, rfl, rfl, rfl⟩ rfl rfl rfl rfl rfl (by kernel_rfl) Tryz.func5 aVi
    (of_decide_eq_true (by kernel_rfl)) (by unfold Func.isWrapper; first | (rw [if_pos (by decide +kernel)]; kernel_rfl) | (rw [if_neg (by decide +kernel)]; exact ⟨rfl, rfl⟩))
    (fun os started H enc _ F => by rw [OpenClaim.pre_eq_preRow]; exact aWo os started H enc F)
theorem aYa (f : FuncId) (fn : Func) (hf : Tryz.pinned.checked.prog.funcNamed "loop.example/turnpike/laws.FnBooksSwap" = some f) (hfn : Tryz.pinned.checked.prog.funcs[f]? = some fn) :
    true = Tryz.pinned.checked.prog.looks [] ∧ ∀ (j : Nat) t, fn.params[j]? = some t → Tryz.pinned.checked.prog.wantsStandIn t = false := by
  obtain rfl : f = 5 := Option.some.inj ((show Tryz.prog.funcNamed "loop.example/turnpike/laws.FnBooksSwap" = some 5 by kernel_rfl).symm.trans hf) |>.symm
  obtain rfl : fn = Tryz.f5 := (Option.some.inj (Tryz.func5.symm.trans hfn)).symm
  refine ⟨by kernel_rfl, fun j t ht => ?_⟩
  rw [Tryz.params5] at ht
  obtain rfl : t = 22 := by simpa using Array.mem_of_getElem? ht
  exact (show Tryz.prog.wantsStandIn 22 = false by kernel_rfl)
theorem swap_card : Rows.FnBooksSwapCardSaid :=
  Claim7.holds_tied_plain_at .later [] _ _ _ _ bA8 (fun _ h => by cases h) (by kernel_rfl) (fun _ h => by cases h) fnBooksSwap_row_tie rfl ⟨rfl, rfl⟩ (by kernel_rfl) rfl aYa (by kernel_rfl)
#print axioms swap_card
end Go.Proofs.YtpkhfddccaljiaaGreatDoor
