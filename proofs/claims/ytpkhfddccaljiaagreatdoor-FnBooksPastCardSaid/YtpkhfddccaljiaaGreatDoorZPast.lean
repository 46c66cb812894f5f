/-
  A call that is past changes nothing but the place (FnBooksPast), tied to the program's card.
  Conditions: those of the statement itself, and none beside.
-/
import Derived.Test.YtpkhfddccaljiaaGreatDoorA12
import Derived.Test.YtpkhfddccaljiaaGreatDoorFPast
set_option linter.all false
namespace Go.Proofs.YtpkhfddccaljiaaGreatDoor
open Go Go.ChangeShapes Go.WideShapes Go.ChangeAt Go.RowKit
set_option maxRecDepth 100000
theorem bEr (x : List Int) (hx : ∀ b ∈ x, 0 ≤ b ∧ b ≤ 255) : Ab.w_FnBooksPast x = some true := by
  by_cases h : (x.length : Int) > 1048576
  · unfold Ab.w_FnBooksPast
    rw [decide_eq_true h]; rfl
  · obtain ⟨r, h1, h2⟩ := Ab.x_w_FnBooksPast x (by omega) hx
    rw [h1, h2]
theorem aX7 (os : Os) {H : Type} (enc : TypeId × Value → H) : ∃ places, DataW.whole enc Tryz.prog ((aDt os).forCall (fun _ _ => 0) ⟨#[], #[.slice none 0 0], []⟩).memory Tryz.f4.params.toList [] false #[Value.slice none 0 0].toList 8 = some ([.nil], [], places) :=
  ⟨[], by kernel_rfl⟩
theorem aWp (os : Os) (started : os.Started) (H : Type) (enc : TypeId × Value → H) (F : Stop.Interp) :
    ReturnsInHanded {} Tryz.checked os 4 .any ((OpenSpec.ofChange Rows.fnBooksPastSpec).preRow enc Tryz.prog Tryz.f4 Rows.fnBooksPastRow.domain false Rows.fnBooksPastRow.laid) (((OpenSpec.ofChange Rows.fnBooksPastSpec).at F).post enc Tryz.prog Tryz.f4 false true false false) := by
  obtain ⟨places, hx⟩ := aX7 os enc
  refine returnsInHanded_of_row (C := Tryz.checked) (s := OpenSpec.ofChange Rows.fnBooksPastSpec) bHs started (by kernel_rfl) Tryz.func4
    ⟨aDt os, fun _ _ => 0, ⟨#[], #[.slice none 0 0], []⟩, World.laidAll_os _ _ _, aTb os _, rfl, (Input.okWide_of_okWideB (by kernel_rfl)).2,
      OpenSpec.preRow_of_cond 8 hx (by kernel_rfl) (fun k hk => by cases hk) (by kernel_rfl) (bHz os _), by simp only [Assume.holds]; exact ⟨by simp, by simp, fun _ => Modest.zero, by simp, by simp⟩⟩ ?_
  intro W base args ds gs before hval hW _ _ _ hL hS _
  exact aR8 (s := Rows.fnBooksPastSpec) Tryz.params4 (by kernel_rfl) rfl (fun _ _ => rfl) Ab.ok_w_FnBooksPast bEr H enc W base args ds gs before hval hW hL hS
theorem bBe : Rows.FnBooksPastSaid :=
  OpenClaim.holds_of_cond 4 Tryz.f4 rfl rfl rfl rfl rfl rfl rfl ⟨rfl, rfl, rfl, rfl, rfl⟩ rfl rfl rfl rfl rfl (by kernel_rfl) Tryz.func4 aVv
    (of_decide_eq_true (by kernel_rfl)) (by unfold Func.isWrapper; first | (rw [if_pos (by decide +kernel)]; kernel_rfl) | (rw [if_neg (by decide +kernel)]; exact ⟨rfl, rfl⟩))
    (fun os started H enc _ F => by rw [OpenClaim.pre_eq_preRow]; exact aWp os started H enc F)
theorem aYb (f : FuncId) (fn : Func) (hf : Tryz.pinned.checked.prog.funcNamed "loop.example/turnpike/laws.FnBooksPast" = some f) (hfn : Tryz.pinned.checked.prog.funcs[f]? = some fn) :
    true = Tryz.pinned.checked.prog.looks [] ∧ ∀ (j : Nat) t, fn.params[j]? = some t → Tryz.pinned.checked.prog.wantsStandIn t = false := by
  obtain rfl : f = 4 := Option.some.inj ((show Tryz.prog.funcNamed "loop.example/turnpike/laws.FnBooksPast" = some 4 by kernel_rfl).symm.trans hf) |>.symm
  obtain rfl : fn = Tryz.f4 := (Option.some.inj (Tryz.func4.symm.trans hfn)).symm
  refine ⟨by kernel_rfl, fun j t ht => ?_⟩
  rw [Tryz.params4] at ht
  obtain rfl : t = 22 := by simpa using Array.mem_of_getElem? ht
  exact (show Tryz.prog.wantsStandIn 22 = false by kernel_rfl)
theorem past_card : Rows.FnBooksPastCardSaid :=
  Claim7.holds_tied_plain_at .later [] _ _ _ _ bBe (fun _ h => by cases h) (by kernel_rfl) (fun _ h => by cases h) fnBooksPast_row_tie rfl ⟨rfl, rfl⟩ (by kernel_rfl) rfl aYb (by kernel_rfl)
#print axioms past_card
end Go.Proofs.YtpkhfddccaljiaaGreatDoor
