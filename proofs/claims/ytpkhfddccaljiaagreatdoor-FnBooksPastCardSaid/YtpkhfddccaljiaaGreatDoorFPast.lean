/-
A part of the proof: pure functions told of the program, and laws about them.
-/
import Derived.Test.YtpkhfddccaljiaaGreatDoorCards
import Derived.JoinedOf
import Derived.KernelRfl
set_option linter.all false
namespace Go.Proofs.YtpkhfddccaljiaaGreatDoor
open Go
set_option maxRecDepth 100000
theorem dX {a b : Bool} (h : a = true) (k : b = true) : (a && b) = true := by rw [h, k]; rfl
theorem bGh : (fun (P : Program) (f : FuncId) (fn : Func) (s : ChangeSpec) (c : OpenClaim) => (c.wf (OpenSpec.ofChange s) : Bool)) Tryz.prog 4 Tryz.f4 (Rows.fnBooksPastSpec) (Rows.fnBooksPastRow) = true := by kernel_rfl
theorem bGg : (fun (P : Program) (f : FuncId) (fn : Func) (s : ChangeSpec) (c : OpenClaim) => (laidOutB P : Bool)) Tryz.prog 4 Tryz.f4 (Rows.fnBooksPastSpec) (Rows.fnBooksPastRow) = true := by kernel_rfl
theorem bGf : (fun (P : Program) (f : FuncId) (fn : Func) (s : ChangeSpec) (c : OpenClaim) => (mapsRowed P : Bool)) Tryz.prog 4 Tryz.f4 (Rows.fnBooksPastSpec) (Rows.fnBooksPastRow) = true := by kernel_rfl
theorem bGe : (fun (P : Program) (f : FuncId) (fn : Func) (s : ChangeSpec) (c : OpenClaim) => (fn.params.all (P.readableRec ·) : Bool)) Tryz.prog 4 Tryz.f4 (Rows.fnBooksPastSpec) (Rows.fnBooksPastRow) = true := by kernel_rfl
theorem bGd : (fun (P : Program) (f : FuncId) (fn : Func) (s : ChangeSpec) (c : OpenClaim) => (namedTie P c.named s.vars : Bool)) Tryz.prog 4 Tryz.f4 (Rows.fnBooksPastSpec) (Rows.fnBooksPastRow) = true := by kernel_rfl
theorem bGc : (fun (P : Program) (f : FuncId) (fn : Func) (s : ChangeSpec) (c : OpenClaim) => ((c.stops == []) : Bool)) Tryz.prog 4 Tryz.f4 (Rows.fnBooksPastSpec) (Rows.fnBooksPastRow) = true := by kernel_rfl
theorem bGb : (fun (P : Program) (f : FuncId) (fn : Func) (s : ChangeSpec) (c : OpenClaim) => ((P.stops == []) : Bool)) Tryz.prog 4 Tryz.f4 (Rows.fnBooksPastSpec) (Rows.fnBooksPastRow) = true := by kernel_rfl
theorem bGa : (fun (P : Program) (f : FuncId) (fn : Func) (s : ChangeSpec) (c : OpenClaim) => ((c.knobs == []) : Bool)) Tryz.prog 4 Tryz.f4 (Rows.fnBooksPastSpec) (Rows.fnBooksPastRow) = true := by kernel_rfl
theorem bF9 : (fun (P : Program) (f : FuncId) (fn : Func) (s : ChangeSpec) (c : OpenClaim) => ((P.stopKnobs == []) : Bool)) Tryz.prog 4 Tryz.f4 (Rows.fnBooksPastSpec) (Rows.fnBooksPastRow) = true := by kernel_rfl
theorem bF8 : (fun (P : Program) (f : FuncId) (fn : Func) (s : ChangeSpec) (c : OpenClaim) => ((c.inPlace == P.inPlace f) : Bool)) Tryz.prog 4 Tryz.f4 (Rows.fnBooksPastSpec) (Rows.fnBooksPastRow) = true := by kernel_rfl
theorem bD3 : (fun (P : Program) (f : FuncId) (fn : Func) (s : ChangeSpec) (c : OpenClaim) => ((c.unfollowed == P.unfollowed f) : Bool)) Tryz.prog 4 Tryz.f4 (Rows.fnBooksPastSpec) (Rows.fnBooksPastRow) = true := by kernel_rfl
theorem bD2 : (fun (P : Program) (f : FuncId) (fn : Func) (s : ChangeSpec) (c : OpenClaim) => ((c.recurses == P.recurses f) : Bool)) Tryz.prog 4 Tryz.f4 (Rows.fnBooksPastSpec) (Rows.fnBooksPastRow) = true := by kernel_rfl
theorem bD1 : (fun (P : Program) (f : FuncId) (fn : Func) (s : ChangeSpec) (c : OpenClaim) => ((c.named == P.varsNamed f) : Bool)) Tryz.prog 4 Tryz.f4 (Rows.fnBooksPastSpec) (Rows.fnBooksPastRow) = true := by kernel_rfl
theorem bD0 : (fun (P : Program) (f : FuncId) (fn : Func) (s : ChangeSpec) (c : OpenClaim) => ((c.maps == (fn.params.toList ++ s.plain.varTypes P).any (P.mapsRec ·)) : Bool)) Tryz.prog 4 Tryz.f4 (Rows.fnBooksPastSpec) (Rows.fnBooksPastRow) = true := by kernel_rfl
theorem bDz : (fun (P : Program) (f : FuncId) (fn : Func) (s : ChangeSpec) (c : OpenClaim) => ((c.ifaces == (fn.params.toList ++ s.plain.varTypes P).any (P.ifacesRec ·)) : Bool)) Tryz.prog 4 Tryz.f4 (Rows.fnBooksPastSpec) (Rows.fnBooksPastRow) = true := by kernel_rfl
theorem bDy : (fun (P : Program) (f : FuncId) (fn : Func) (s : ChangeSpec) (c : OpenClaim) => ((c.mapsOut == P.mapsAmong fn.resultTypes.toList) : Bool)) Tryz.prog 4 Tryz.f4 (Rows.fnBooksPastSpec) (Rows.fnBooksPastRow) = true := by kernel_rfl
theorem bDx : (fun (P : Program) (f : FuncId) (fn : Func) (s : ChangeSpec) (c : OpenClaim) => ((c.loops == (fn.params.toList ++ s.plain.varTypes P).any (P.loopsFrom ·)) : Bool)) Tryz.prog 4 Tryz.f4 (Rows.fnBooksPastSpec) (Rows.fnBooksPastRow) = true := by kernel_rfl
theorem bDw : (fun (P : Program) (f : FuncId) (fn : Func) (s : ChangeSpec) (c : OpenClaim) => ((c.wideKeys == (fn.params.toList ++ s.plain.varTypes P ++ fn.resultTypes.toList).any (P.wideKeysFrom ·)) : Bool)) Tryz.prog 4 Tryz.f4 (Rows.fnBooksPastSpec) (Rows.fnBooksPastRow) = true := by kernel_rfl
theorem bDv : (fun (P : Program) (f : FuncId) (fn : Func) (s : ChangeSpec) (c : OpenClaim) => (s.vars.all (P.varReadable ·) : Bool)) Tryz.prog 4 Tryz.f4 (Rows.fnBooksPastSpec) (Rows.fnBooksPastRow) = true := by kernel_rfl
theorem bDu : (fun (P : Program) (f : FuncId) (fn : Func) (s : ChangeSpec) (c : OpenClaim) => (fn.resultTypes.all (fun t => P.readableRec t && decide (t < P.types.size)) : Bool)) Tryz.prog 4 Tryz.f4 (Rows.fnBooksPastSpec) (Rows.fnBooksPastRow) = true := by kernel_rfl
theorem bDt : (fun (P : Program) (f : FuncId) (fn : Func) (s : ChangeSpec) (c : OpenClaim) => ((c.ifacesOut == fn.resultTypes.toList.any (P.ifacesRec ·)) : Bool)) Tryz.prog 4 Tryz.f4 (Rows.fnBooksPastSpec) (Rows.fnBooksPastRow) = true := by kernel_rfl
theorem bDs : (fun (P : Program) (f : FuncId) (fn : Func) (s : ChangeSpec) (c : OpenClaim) => ((c.loopsOut == fn.resultTypes.toList.any (P.loopsFrom ·)) : Bool)) Tryz.prog 4 Tryz.f4 (Rows.fnBooksPastSpec) (Rows.fnBooksPastRow) = true := by kernel_rfl
theorem bDr : (fun (P : Program) (f : FuncId) (fn : Func) (s : ChangeSpec) (c : OpenClaim) => ((c.plainKeys == P.plainKeys) : Bool)) Tryz.prog 4 Tryz.f4 (Rows.fnBooksPastSpec) (Rows.fnBooksPastRow) = true := by kernel_rfl
theorem bDq : (fun (P : Program) (f : FuncId) (fn : Func) (s : ChangeSpec) (c : OpenClaim) => (c.shortTexts.isNone : Bool)) Tryz.prog 4 Tryz.f4 (Rows.fnBooksPastSpec) (Rows.fnBooksPastRow) = true := by kernel_rfl
theorem bDp : (fun (P : Program) (f : FuncId) (fn : Func) (s : ChangeSpec) (c : OpenClaim) => (P.stopsHeard : Bool)) Tryz.prog 4 Tryz.f4 (Rows.fnBooksPastSpec) (Rows.fnBooksPastRow) = true := by kernel_rfl
theorem bDo : (fun (P : Program) (f : FuncId) (fn : Func) (s : ChangeSpec) (c : OpenClaim) => (P.mayEnter : Bool)) Tryz.prog 4 Tryz.f4 (Rows.fnBooksPastSpec) (Rows.fnBooksPastRow) = true := by kernel_rfl
theorem bDn : (fun (P : Program) (f : FuncId) (fn : Func) (s : ChangeSpec) (c : OpenClaim) => ((c.lifted == P.liftsFinal) : Bool)) Tryz.prog 4 Tryz.f4 (Rows.fnBooksPastSpec) (Rows.fnBooksPastRow) = true := by kernel_rfl
theorem bDm : (fun (P : Program) (f : FuncId) (fn : Func) (s : ChangeSpec) (c : OpenClaim) => ((P.make == some c.make) : Bool)) Tryz.prog 4 Tryz.f4 (Rows.fnBooksPastSpec) (Rows.fnBooksPastRow) = true := by kernel_rfl
theorem bDl : (fun (P : Program) (f : FuncId) (fn : Func) (s : ChangeSpec) (c : OpenClaim) => ((c.kinds == (if c.domain.isEmpty then [] else fn.params.toList.map fun t => match P.underlying t with | some (.int k) => some k | _ => none)) : Bool)) Tryz.prog 4 Tryz.f4 (Rows.fnBooksPastSpec) (Rows.fnBooksPastRow) = true := by kernel_rfl
theorem bDk : (fun (P : Program) (f : FuncId) (fn : Func) (s : ChangeSpec) (c : OpenClaim) => ((c.pinned == c.pinnedBy) : Bool)) Tryz.prog 4 Tryz.f4 (Rows.fnBooksPastSpec) (Rows.fnBooksPastRow) = true := by kernel_rfl
theorem bDj : (fun (P : Program) (f : FuncId) (fn : Func) (s : ChangeSpec) (c : OpenClaim) => ((c.veiled == (fn.params.toList ++ s.plain.varTypes P ++ fn.resultTypes.toList).any (P.veiledRec ·)) : Bool)) Tryz.prog 4 Tryz.f4 (Rows.fnBooksPastSpec) (Rows.fnBooksPastRow) = true := by kernel_rfl
theorem bDi : (fun (P : Program) (f : FuncId) (fn : Func) (s : ChangeSpec) (c : OpenClaim) => (c.veiledFits P fn.params.toList (fn.params.toList ++ s.plain.varTypes P ++ fn.resultTypes.toList) : Bool)) Tryz.prog 4 Tryz.f4 (Rows.fnBooksPastSpec) (Rows.fnBooksPastRow) = true := by kernel_rfl
theorem aVv : joinedFacts Tryz.prog 4 Tryz.f4 (Rows.fnBooksPastSpec) (Rows.fnBooksPastRow) = true :=
  (dX (dX (dX (dX (dX (dX (dX (dX (dX (dX (dX (dX (dX (dX (dX (dX (dX (dX (dX (dX (dX (dX (dX (dX (dX (dX (dX (dX (dX (dX (dX bGh bGg) bGf) bGe) bGd) bGc) bGb) bGa) bF9) bF8) bD3) bD2) bD1) bD0) bDz) bDy) bDx) bDw) bDv) bDu) bDt) bDs) bDr) bDq) bDp) bDo) bDn) bDm) bDl) bDk) bDj) bDi)
end Go.Proofs.YtpkhfddccaljiaaGreatDoor
