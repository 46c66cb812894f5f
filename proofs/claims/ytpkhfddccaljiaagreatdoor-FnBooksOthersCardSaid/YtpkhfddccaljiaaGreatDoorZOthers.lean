/-
  A call changes nothing that was said to other sessions (FnBooksOthers), tied to the program's card.
  Conditions: those of the statement itself, and none beside.
-/
import Derived.Test.YtpkhfddccaljiaaGreatDoorA12
import Derived.Test.YtpkhfddccaljiaaGreatDoorFOthers
set_option linter.all false
namespace Go.Proofs.YtpkhfddccaljiaaGreatDoor
open Go Go.ChangeShapes Go.WideShapes Go.ChangeAt Go.RowKit
set_option maxRecDepth 100000
theorem aZq (x : List Int) (hx : ∀ b ∈ x, 0 ≤ b ∧ b ≤ 255) : Ab.w_FnBooksOthers x = some true := by
  by_cases h : (x.length : Int) > 1048576
  · unfold Ab.w_FnBooksOthers
    rw [decide_eq_true h]; rfl
  · obtain ⟨r, h1, h2⟩ := Ab.x_w_FnBooksOthers x (by omega) hx
    rw [h1, h2]
theorem aTg (os : Os) {H : Type} (enc : TypeId × Value → H) : ∃ places, DataW.whole enc Tryz.prog ((aDt os).forCall (fun _ _ => 0) ⟨#[], #[.slice none 0 0], []⟩).memory Tryz.f3.params.toList [] false #[Value.slice none 0 0].toList 8 = some ([.nil], [], places) :=
  ⟨[], by kernel_rfl⟩
theorem aQv (os : Os) (started : os.Started) (H : Type) (enc : TypeId × Value → H) (F : Stop.Interp) :
    ReturnsInHanded {} Tryz.checked os 3 .any ((OpenSpec.ofChange Rows.fnBooksOthersSpec).preRow enc Tryz.prog Tryz.f3 Rows.fnBooksOthersRow.domain false Rows.fnBooksOthersRow.laid) (((OpenSpec.ofChange Rows.fnBooksOthersSpec).at F).post enc Tryz.prog Tryz.f3 false true false false) := by
  obtain ⟨places, hx⟩ := aTg os enc
  refine returnsInHanded_of_row (C := Tryz.checked) (s := OpenSpec.ofChange Rows.fnBooksOthersSpec) bHs started (by kernel_rfl) Tryz.func3
    ⟨aDt os, fun _ _ => 0, ⟨#[], #[.slice none 0 0], []⟩, World.laidAll_os _ _ _, aTb os _, rfl, (Input.okWide_of_okWideB (by kernel_rfl)).2,
      OpenSpec.preRow_of_cond 8 hx (by kernel_rfl) (fun k hk => by cases hk) (by kernel_rfl) (bHz os _), by simp only [Assume.holds]; exact ⟨by simp, by simp, fun _ => Modest.zero, by simp, by simp⟩⟩ ?_
  intro W base args ds gs before hval hW _ _ _ hL hS _
  exact aR8 (s := Rows.fnBooksOthersSpec) Tryz.params3 (by kernel_rfl) rfl (fun _ _ => rfl) Ab.ok_w_FnBooksOthers aZq H enc W base args ds gs before hval hW hL hS
theorem aVw : Rows.FnBooksOthersSaid :=
  OpenClaim.holds_of_cond 3 Tryz.f3 rfl rfl rfl rfl rfl rfl rfl ⟨rfl, rfl, rfl, rfl, rfl⟩ rfl rfl rfl rfl rfl (by kernel_rfl) Tryz.func3 aP3
    (of_decide_eq_true (by kernel_rfl)) (by unfold Func.isWrapper; first | (rw [if_pos (by decide +kernel)]; kernel_rfl) | (rw [if_neg (by decide +kernel)]; exact ⟨rfl, rfl⟩))
    (fun os started H enc _ F => by rw [OpenClaim.pre_eq_preRow]; exact aQv os started H enc F)
theorem aTh (f : FuncId) (fn : Func) (hf : Tryz.pinned.checked.prog.funcNamed "loop.example/turnpike/laws.FnBooksOthers" = some f) (hfn : Tryz.pinned.checked.prog.funcs[f]? = some fn) :
    true = Tryz.pinned.checked.prog.looks [] ∧ ∀ (j : Nat) t, fn.params[j]? = some t → Tryz.pinned.checked.prog.wantsStandIn t = false := by
  obtain rfl : f = 3 := Option.some.inj ((show Tryz.prog.funcNamed "loop.example/turnpike/laws.FnBooksOthers" = some 3 by kernel_rfl).symm.trans hf) |>.symm
  obtain rfl : fn = Tryz.f3 := (Option.some.inj (Tryz.func3.symm.trans hfn)).symm
  refine ⟨by kernel_rfl, fun j t ht => ?_⟩
  rw [Tryz.params3] at ht
  obtain rfl : t = 22 := by simpa using Array.mem_of_getElem? ht
  exact (show Tryz.prog.wantsStandIn 22 = false by kernel_rfl)
theorem others_card : Rows.FnBooksOthersCardSaid :=
  Claim7.holds_tied_plain_at .later [] _ _ _ _ aVw (fun _ h => by cases h) (by kernel_rfl) (fun _ h => by cases h) fnBooksOthers_row_tie rfl ⟨rfl, rfl⟩ (by kernel_rfl) rfl aTh (by kernel_rfl)
#print axioms others_card
end Go.Proofs.YtpkhfddccaljiaaGreatDoor
