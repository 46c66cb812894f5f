/-
A part of the proof: pure functions told of the program, and laws about them.
-/
import Derived.Test.YtpkhfddccaljiaaGreatDoorCards
import Derived.JoinedOf
import Derived.KernelRfl
set_option linter.all false
namespace Go.Proofs.YtpkhfddccaljiaaGreatDoor
open Go
set_option maxRecDepth 100000
theorem dF {a b : Bool} (h : a = true) (k : b = true) : (a && b) = true := by rw [h, k]; rfl
theorem bBo : (fun (P : Program) (f : FuncId) (fn : Func) (s : ChangeSpec) (c : OpenClaim) => (c.wf (OpenSpec.ofChange s) : Bool)) Tryz.prog 3 Tryz.f3 (Rows.fnBooksOthersSpec) (Rows.fnBooksOthersRow) = true := by kernel_rfl
theorem bBn : (fun (P : Program) (f : FuncId) (fn : Func) (s : ChangeSpec) (c : OpenClaim) => (laidOutB P : Bool)) Tryz.prog 3 Tryz.f3 (Rows.fnBooksOthersSpec) (Rows.fnBooksOthersRow) = true := by kernel_rfl
theorem bBm : (fun (P : Program) (f : FuncId) (fn : Func) (s : ChangeSpec) (c : OpenClaim) => (mapsRowed P : Bool)) Tryz.prog 3 Tryz.f3 (Rows.fnBooksOthersSpec) (Rows.fnBooksOthersRow) = true := by kernel_rfl
theorem bBl : (fun (P : Program) (f : FuncId) (fn : Func) (s : ChangeSpec) (c : OpenClaim) => (fn.params.all (P.readableRec ·) : Bool)) Tryz.prog 3 Tryz.f3 (Rows.fnBooksOthersSpec) (Rows.fnBooksOthersRow) = true := by kernel_rfl
theorem bBk : (fun (P : Program) (f : FuncId) (fn : Func) (s : ChangeSpec) (c : OpenClaim) => (namedTie P c.named s.vars : Bool)) Tryz.prog 3 Tryz.f3 (Rows.fnBooksOthersSpec) (Rows.fnBooksOthersRow) = true := by kernel_rfl
theorem bBj : (fun (P : Program) (f : FuncId) (fn : Func) (s : ChangeSpec) (c : OpenClaim) => ((c.stops == []) : Bool)) Tryz.prog 3 Tryz.f3 (Rows.fnBooksOthersSpec) (Rows.fnBooksOthersRow) = true := by kernel_rfl
theorem bBi : (fun (P : Program) (f : FuncId) (fn : Func) (s : ChangeSpec) (c : OpenClaim) => ((P.stops == []) : Bool)) Tryz.prog 3 Tryz.f3 (Rows.fnBooksOthersSpec) (Rows.fnBooksOthersRow) = true := by kernel_rfl
theorem bBh : (fun (P : Program) (f : FuncId) (fn : Func) (s : ChangeSpec) (c : OpenClaim) => ((c.knobs == []) : Bool)) Tryz.prog 3 Tryz.f3 (Rows.fnBooksOthersSpec) (Rows.fnBooksOthersRow) = true := by kernel_rfl
theorem bBg : (fun (P : Program) (f : FuncId) (fn : Func) (s : ChangeSpec) (c : OpenClaim) => ((P.stopKnobs == []) : Bool)) Tryz.prog 3 Tryz.f3 (Rows.fnBooksOthersSpec) (Rows.fnBooksOthersRow) = true := by kernel_rfl
theorem bBf : (fun (P : Program) (f : FuncId) (fn : Func) (s : ChangeSpec) (c : OpenClaim) => ((c.inPlace == P.inPlace f) : Bool)) Tryz.prog 3 Tryz.f3 (Rows.fnBooksOthersSpec) (Rows.fnBooksOthersRow) = true := by kernel_rfl
theorem aY2 : (fun (P : Program) (f : FuncId) (fn : Func) (s : ChangeSpec) (c : OpenClaim) => ((c.unfollowed == P.unfollowed f) : Bool)) Tryz.prog 3 Tryz.f3 (Rows.fnBooksOthersSpec) (Rows.fnBooksOthersRow) = true := by kernel_rfl
theorem aY1 : (fun (P : Program) (f : FuncId) (fn : Func) (s : ChangeSpec) (c : OpenClaim) => ((c.recurses == P.recurses f) : Bool)) Tryz.prog 3 Tryz.f3 (Rows.fnBooksOthersSpec) (Rows.fnBooksOthersRow) = true := by kernel_rfl
theorem aY0 : (fun (P : Program) (f : FuncId) (fn : Func) (s : ChangeSpec) (c : OpenClaim) => ((c.named == P.varsNamed f) : Bool)) Tryz.prog 3 Tryz.f3 (Rows.fnBooksOthersSpec) (Rows.fnBooksOthersRow) = true := by kernel_rfl
theorem aYz : (fun (P : Program) (f : FuncId) (fn : Func) (s : ChangeSpec) (c : OpenClaim) => ((c.maps == (fn.params.toList ++ s.plain.varTypes P).any (P.mapsRec ·)) : Bool)) Tryz.prog 3 Tryz.f3 (Rows.fnBooksOthersSpec) (Rows.fnBooksOthersRow) = true := by kernel_rfl
theorem aYy : (fun (P : Program) (f : FuncId) (fn : Func) (s : ChangeSpec) (c : OpenClaim) => ((c.ifaces == (fn.params.toList ++ s.plain.varTypes P).any (P.ifacesRec ·)) : Bool)) Tryz.prog 3 Tryz.f3 (Rows.fnBooksOthersSpec) (Rows.fnBooksOthersRow) = true := by kernel_rfl
theorem aYx : (fun (P : Program) (f : FuncId) (fn : Func) (s : ChangeSpec) (c : OpenClaim) => ((c.mapsOut == P.mapsAmong fn.resultTypes.toList) : Bool)) Tryz.prog 3 Tryz.f3 (Rows.fnBooksOthersSpec) (Rows.fnBooksOthersRow) = true := by kernel_rfl
theorem aYw : (fun (P : Program) (f : FuncId) (fn : Func) (s : ChangeSpec) (c : OpenClaim) => ((c.loops == (fn.params.toList ++ s.plain.varTypes P).any (P.loopsFrom ·)) : Bool)) Tryz.prog 3 Tryz.f3 (Rows.fnBooksOthersSpec) (Rows.fnBooksOthersRow) = true := by kernel_rfl
theorem aYv : (fun (P : Program) (f : FuncId) (fn : Func) (s : ChangeSpec) (c : OpenClaim) => ((c.wideKeys == (fn.params.toList ++ s.plain.varTypes P ++ fn.resultTypes.toList).any (P.wideKeysFrom ·)) : Bool)) Tryz.prog 3 Tryz.f3 (Rows.fnBooksOthersSpec) (Rows.fnBooksOthersRow) = true := by kernel_rfl
theorem aYu : (fun (P : Program) (f : FuncId) (fn : Func) (s : ChangeSpec) (c : OpenClaim) => (s.vars.all (P.varReadable ·) : Bool)) Tryz.prog 3 Tryz.f3 (Rows.fnBooksOthersSpec) (Rows.fnBooksOthersRow) = true := by kernel_rfl
theorem aYt : (fun (P : Program) (f : FuncId) (fn : Func) (s : ChangeSpec) (c : OpenClaim) => (fn.resultTypes.all (fun t => P.readableRec t && decide (t < P.types.size)) : Bool)) Tryz.prog 3 Tryz.f3 (Rows.fnBooksOthersSpec) (Rows.fnBooksOthersRow) = true := by kernel_rfl
theorem aYs : (fun (P : Program) (f : FuncId) (fn : Func) (s : ChangeSpec) (c : OpenClaim) => ((c.ifacesOut == fn.resultTypes.toList.any (P.ifacesRec ·)) : Bool)) Tryz.prog 3 Tryz.f3 (Rows.fnBooksOthersSpec) (Rows.fnBooksOthersRow) = true := by kernel_rfl
theorem aYr : (fun (P : Program) (f : FuncId) (fn : Func) (s : ChangeSpec) (c : OpenClaim) => ((c.loopsOut == fn.resultTypes.toList.any (P.loopsFrom ·)) : Bool)) Tryz.prog 3 Tryz.f3 (Rows.fnBooksOthersSpec) (Rows.fnBooksOthersRow) = true := by kernel_rfl
theorem aYq : (fun (P : Program) (f : FuncId) (fn : Func) (s : ChangeSpec) (c : OpenClaim) => ((c.plainKeys == P.plainKeys) : Bool)) Tryz.prog 3 Tryz.f3 (Rows.fnBooksOthersSpec) (Rows.fnBooksOthersRow) = true := by kernel_rfl
theorem aYp : (fun (P : Program) (f : FuncId) (fn : Func) (s : ChangeSpec) (c : OpenClaim) => (c.shortTexts.isNone : Bool)) Tryz.prog 3 Tryz.f3 (Rows.fnBooksOthersSpec) (Rows.fnBooksOthersRow) = true := by kernel_rfl
theorem aYo : (fun (P : Program) (f : FuncId) (fn : Func) (s : ChangeSpec) (c : OpenClaim) => (P.stopsHeard : Bool)) Tryz.prog 3 Tryz.f3 (Rows.fnBooksOthersSpec) (Rows.fnBooksOthersRow) = true := by kernel_rfl
theorem aYn : (fun (P : Program) (f : FuncId) (fn : Func) (s : ChangeSpec) (c : OpenClaim) => (P.mayEnter : Bool)) Tryz.prog 3 Tryz.f3 (Rows.fnBooksOthersSpec) (Rows.fnBooksOthersRow) = true := by kernel_rfl
theorem aYm : (fun (P : Program) (f : FuncId) (fn : Func) (s : ChangeSpec) (c : OpenClaim) => ((c.lifted == P.liftsFinal) : Bool)) Tryz.prog 3 Tryz.f3 (Rows.fnBooksOthersSpec) (Rows.fnBooksOthersRow) = true := by kernel_rfl
theorem aYl : (fun (P : Program) (f : FuncId) (fn : Func) (s : ChangeSpec) (c : OpenClaim) => ((P.make == some c.make) : Bool)) Tryz.prog 3 Tryz.f3 (Rows.fnBooksOthersSpec) (Rows.fnBooksOthersRow) = true := by kernel_rfl
theorem aYk : (fun (P : Program) (f : FuncId) (fn : Func) (s : ChangeSpec) (c : OpenClaim) => ((c.kinds == (if c.domain.isEmpty then [] else fn.params.toList.map fun t => match P.underlying t with | some (.int k) => some k | _ => none)) : Bool)) Tryz.prog 3 Tryz.f3 (Rows.fnBooksOthersSpec) (Rows.fnBooksOthersRow) = true := by kernel_rfl
theorem aYj : (fun (P : Program) (f : FuncId) (fn : Func) (s : ChangeSpec) (c : OpenClaim) => ((c.pinned == c.pinnedBy) : Bool)) Tryz.prog 3 Tryz.f3 (Rows.fnBooksOthersSpec) (Rows.fnBooksOthersRow) = true := by kernel_rfl
theorem aYi : (fun (P : Program) (f : FuncId) (fn : Func) (s : ChangeSpec) (c : OpenClaim) => ((c.veiled == (fn.params.toList ++ s.plain.varTypes P ++ fn.resultTypes.toList).any (P.veiledRec ·)) : Bool)) Tryz.prog 3 Tryz.f3 (Rows.fnBooksOthersSpec) (Rows.fnBooksOthersRow) = true := by kernel_rfl
theorem aYh : (fun (P : Program) (f : FuncId) (fn : Func) (s : ChangeSpec) (c : OpenClaim) => (c.veiledFits P fn.params.toList (fn.params.toList ++ s.plain.varTypes P ++ fn.resultTypes.toList) : Bool)) Tryz.prog 3 Tryz.f3 (Rows.fnBooksOthersSpec) (Rows.fnBooksOthersRow) = true := by kernel_rfl
theorem aP3 : joinedFacts Tryz.prog 3 Tryz.f3 (Rows.fnBooksOthersSpec) (Rows.fnBooksOthersRow) = true :=
  (dF (dF (dF (dF (dF (dF (dF (dF (dF (dF (dF (dF (dF (dF (dF (dF (dF (dF (dF (dF (dF (dF (dF (dF (dF (dF (dF (dF (dF (dF (dF bBo bBn) bBm) bBl) bBk) bBj) bBi) bBh) bBg) bBf) aY2) aY1) aY0) aYz) aYy) aYx) aYw) aYv) aYu) aYt) aYs) aYr) aYq) aYp) aYo) aYn) aYm) aYl) aYk) aYj) aYi) aYh)
end Go.Proofs.YtpkhfddccaljiaaGreatDoor
