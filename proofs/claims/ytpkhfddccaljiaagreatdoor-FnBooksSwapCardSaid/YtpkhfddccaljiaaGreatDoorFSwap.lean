/-
A part of the proof: pure functions told of the program, and laws about them.
-/
import Derived.Test.YtpkhfddccaljiaaGreatDoorCards
import Derived.JoinedOf
import Derived.KernelRfl
set_option linter.all false
namespace Go.Proofs.YtpkhfddccaljiaaGreatDoor
open Go
set_option maxRecDepth 100000
theorem dW {a b : Bool} (h : a = true) (k : b = true) : (a && b) = true := by rw [h, k]; rfl
theorem bFy : (fun (P : Program) (f : FuncId) (fn : Func) (s : ChangeSpec) (c : OpenClaim) => (c.wf (OpenSpec.ofChange s) : Bool)) Tryz.prog 5 Tryz.f5 (Rows.fnBooksSwapSpec) (Rows.fnBooksSwapRow) = true := by kernel_rfl
theorem bFx : (fun (P : Program) (f : FuncId) (fn : Func) (s : ChangeSpec) (c : OpenClaim) => (laidOutB P : Bool)) Tryz.prog 5 Tryz.f5 (Rows.fnBooksSwapSpec) (Rows.fnBooksSwapRow) = true := by kernel_rfl
theorem bFw : (fun (P : Program) (f : FuncId) (fn : Func) (s : ChangeSpec) (c : OpenClaim) => (mapsRowed P : Bool)) Tryz.prog 5 Tryz.f5 (Rows.fnBooksSwapSpec) (Rows.fnBooksSwapRow) = true := by kernel_rfl
theorem bFv : (fun (P : Program) (f : FuncId) (fn : Func) (s : ChangeSpec) (c : OpenClaim) => (fn.params.all (P.readableRec ·) : Bool)) Tryz.prog 5 Tryz.f5 (Rows.fnBooksSwapSpec) (Rows.fnBooksSwapRow) = true := by kernel_rfl
theorem bFu : (fun (P : Program) (f : FuncId) (fn : Func) (s : ChangeSpec) (c : OpenClaim) => (namedTie P c.named s.vars : Bool)) Tryz.prog 5 Tryz.f5 (Rows.fnBooksSwapSpec) (Rows.fnBooksSwapRow) = true := by kernel_rfl
theorem bFt : (fun (P : Program) (f : FuncId) (fn : Func) (s : ChangeSpec) (c : OpenClaim) => ((c.stops == []) : Bool)) Tryz.prog 5 Tryz.f5 (Rows.fnBooksSwapSpec) (Rows.fnBooksSwapRow) = true := by kernel_rfl
theorem bFs : (fun (P : Program) (f : FuncId) (fn : Func) (s : ChangeSpec) (c : OpenClaim) => ((P.stops == []) : Bool)) Tryz.prog 5 Tryz.f5 (Rows.fnBooksSwapSpec) (Rows.fnBooksSwapRow) = true := by kernel_rfl
theorem bFr : (fun (P : Program) (f : FuncId) (fn : Func) (s : ChangeSpec) (c : OpenClaim) => ((c.knobs == []) : Bool)) Tryz.prog 5 Tryz.f5 (Rows.fnBooksSwapSpec) (Rows.fnBooksSwapRow) = true := by kernel_rfl
theorem bFq : (fun (P : Program) (f : FuncId) (fn : Func) (s : ChangeSpec) (c : OpenClaim) => ((P.stopKnobs == []) : Bool)) Tryz.prog 5 Tryz.f5 (Rows.fnBooksSwapSpec) (Rows.fnBooksSwapRow) = true := by kernel_rfl
theorem bFp : (fun (P : Program) (f : FuncId) (fn : Func) (s : ChangeSpec) (c : OpenClaim) => ((c.inPlace == P.inPlace f) : Bool)) Tryz.prog 5 Tryz.f5 (Rows.fnBooksSwapSpec) (Rows.fnBooksSwapRow) = true := by kernel_rfl
theorem bC9 : (fun (P : Program) (f : FuncId) (fn : Func) (s : ChangeSpec) (c : OpenClaim) => ((c.unfollowed == P.unfollowed f) : Bool)) Tryz.prog 5 Tryz.f5 (Rows.fnBooksSwapSpec) (Rows.fnBooksSwapRow) = true := by kernel_rfl
theorem bC8 : (fun (P : Program) (f : FuncId) (fn : Func) (s : ChangeSpec) (c : OpenClaim) => ((c.recurses == P.recurses f) : Bool)) Tryz.prog 5 Tryz.f5 (Rows.fnBooksSwapSpec) (Rows.fnBooksSwapRow) = true := by kernel_rfl
theorem bC7 : (fun (P : Program) (f : FuncId) (fn : Func) (s : ChangeSpec) (c : OpenClaim) => ((c.named == P.varsNamed f) : Bool)) Tryz.prog 5 Tryz.f5 (Rows.fnBooksSwapSpec) (Rows.fnBooksSwapRow) = true := by kernel_rfl
theorem bC6 : (fun (P : Program) (f : FuncId) (fn : Func) (s : ChangeSpec) (c : OpenClaim) => ((c.maps == (fn.params.toList ++ s.plain.varTypes P).any (P.mapsRec ·)) : Bool)) Tryz.prog 5 Tryz.f5 (Rows.fnBooksSwapSpec) (Rows.fnBooksSwapRow) = true := by kernel_rfl
theorem bC5 : (fun (P : Program) (f : FuncId) (fn : Func) (s : ChangeSpec) (c : OpenClaim) => ((c.ifaces == (fn.params.toList ++ s.plain.varTypes P).any (P.ifacesRec ·)) : Bool)) Tryz.prog 5 Tryz.f5 (Rows.fnBooksSwapSpec) (Rows.fnBooksSwapRow) = true := by kernel_rfl
theorem bC4 : (fun (P : Program) (f : FuncId) (fn : Func) (s : ChangeSpec) (c : OpenClaim) => ((c.mapsOut == P.mapsAmong fn.resultTypes.toList) : Bool)) Tryz.prog 5 Tryz.f5 (Rows.fnBooksSwapSpec) (Rows.fnBooksSwapRow) = true := by kernel_rfl
theorem bC3 : (fun (P : Program) (f : FuncId) (fn : Func) (s : ChangeSpec) (c : OpenClaim) => ((c.loops == (fn.params.toList ++ s.plain.varTypes P).any (P.loopsFrom ·)) : Bool)) Tryz.prog 5 Tryz.f5 (Rows.fnBooksSwapSpec) (Rows.fnBooksSwapRow) = true := by kernel_rfl
theorem bC2 : (fun (P : Program) (f : FuncId) (fn : Func) (s : ChangeSpec) (c : OpenClaim) => ((c.wideKeys == (fn.params.toList ++ s.plain.varTypes P ++ fn.resultTypes.toList).any (P.wideKeysFrom ·)) : Bool)) Tryz.prog 5 Tryz.f5 (Rows.fnBooksSwapSpec) (Rows.fnBooksSwapRow) = true := by kernel_rfl
theorem bC1 : (fun (P : Program) (f : FuncId) (fn : Func) (s : ChangeSpec) (c : OpenClaim) => (s.vars.all (P.varReadable ·) : Bool)) Tryz.prog 5 Tryz.f5 (Rows.fnBooksSwapSpec) (Rows.fnBooksSwapRow) = true := by kernel_rfl
theorem bC0 : (fun (P : Program) (f : FuncId) (fn : Func) (s : ChangeSpec) (c : OpenClaim) => (fn.resultTypes.all (fun t => P.readableRec t && decide (t < P.types.size)) : Bool)) Tryz.prog 5 Tryz.f5 (Rows.fnBooksSwapSpec) (Rows.fnBooksSwapRow) = true := by kernel_rfl
theorem bCz : (fun (P : Program) (f : FuncId) (fn : Func) (s : ChangeSpec) (c : OpenClaim) => ((c.ifacesOut == fn.resultTypes.toList.any (P.ifacesRec ·)) : Bool)) Tryz.prog 5 Tryz.f5 (Rows.fnBooksSwapSpec) (Rows.fnBooksSwapRow) = true := by kernel_rfl
theorem bCy : (fun (P : Program) (f : FuncId) (fn : Func) (s : ChangeSpec) (c : OpenClaim) => ((c.loopsOut == fn.resultTypes.toList.any (P.loopsFrom ·)) : Bool)) Tryz.prog 5 Tryz.f5 (Rows.fnBooksSwapSpec) (Rows.fnBooksSwapRow) = true := by kernel_rfl
theorem bCx : (fun (P : Program) (f : FuncId) (fn : Func) (s : ChangeSpec) (c : OpenClaim) => ((c.plainKeys == P.plainKeys) : Bool)) Tryz.prog 5 Tryz.f5 (Rows.fnBooksSwapSpec) (Rows.fnBooksSwapRow) = true := by kernel_rfl
theorem bCw : (fun (P : Program) (f : FuncId) (fn : Func) (s : ChangeSpec) (c : OpenClaim) => (c.shortTexts.isNone : Bool)) Tryz.prog 5 Tryz.f5 (Rows.fnBooksSwapSpec) (Rows.fnBooksSwapRow) = true := by kernel_rfl
theorem bCv : (fun (P : Program) (f : FuncId) (fn : Func) (s : ChangeSpec) (c : OpenClaim) => (P.stopsHeard : Bool)) Tryz.prog 5 Tryz.f5 (Rows.fnBooksSwapSpec) (Rows.fnBooksSwapRow) = true := by kernel_rfl
theorem bCu : (fun (P : Program) (f : FuncId) (fn : Func) (s : ChangeSpec) (c : OpenClaim) => (P.mayEnter : Bool)) Tryz.prog 5 Tryz.f5 (Rows.fnBooksSwapSpec) (Rows.fnBooksSwapRow) = true := by kernel_rfl
theorem bCt : (fun (P : Program) (f : FuncId) (fn : Func) (s : ChangeSpec) (c : OpenClaim) => ((c.lifted == P.liftsFinal) : Bool)) Tryz.prog 5 Tryz.f5 (Rows.fnBooksSwapSpec) (Rows.fnBooksSwapRow) = true := by kernel_rfl
theorem bCs : (fun (P : Program) (f : FuncId) (fn : Func) (s : ChangeSpec) (c : OpenClaim) => ((P.make == some c.make) : Bool)) Tryz.prog 5 Tryz.f5 (Rows.fnBooksSwapSpec) (Rows.fnBooksSwapRow) = true := by kernel_rfl
theorem bCr : (fun (P : Program) (f : FuncId) (fn : Func) (s : ChangeSpec) (c : OpenClaim) => ((c.kinds == (if c.domain.isEmpty then [] else fn.params.toList.map fun t => match P.underlying t with | some (.int k) => some k | _ => none)) : Bool)) Tryz.prog 5 Tryz.f5 (Rows.fnBooksSwapSpec) (Rows.fnBooksSwapRow) = true := by kernel_rfl
theorem bCq : (fun (P : Program) (f : FuncId) (fn : Func) (s : ChangeSpec) (c : OpenClaim) => ((c.pinned == c.pinnedBy) : Bool)) Tryz.prog 5 Tryz.f5 (Rows.fnBooksSwapSpec) (Rows.fnBooksSwapRow) = true := by kernel_rfl
theorem bCp : (fun (P : Program) (f : FuncId) (fn : Func) (s : ChangeSpec) (c : OpenClaim) => ((c.veiled == (fn.params.toList ++ s.plain.varTypes P ++ fn.resultTypes.toList).any (P.veiledRec ·)) : Bool)) Tryz.prog 5 Tryz.f5 (Rows.fnBooksSwapSpec) (Rows.fnBooksSwapRow) = true := by kernel_rfl
theorem bCo : (fun (P : Program) (f : FuncId) (fn : Func) (s : ChangeSpec) (c : OpenClaim) => (c.veiledFits P fn.params.toList (fn.params.toList ++ s.plain.varTypes P ++ fn.resultTypes.toList) : Bool)) Tryz.prog 5 Tryz.f5 (Rows.fnBooksSwapSpec) (Rows.fnBooksSwapRow) = true := by kernel_rfl
theorem aVi : joinedFacts Tryz.prog 5 Tryz.f5 (Rows.fnBooksSwapSpec) (Rows.fnBooksSwapRow) = true :=
  (dW (dW (dW (dW (dW (dW (dW (dW (dW (dW (dW (dW (dW (dW (dW (dW (dW (dW (dW (dW (dW (dW (dW (dW (dW (dW (dW (dW (dW (dW (dW bFy bFx) bFw) bFv) bFu) bFt) bFs) bFr) bFq) bFp) bC9) bC8) bC7) bC6) bC5) bC4) bC3) bC2) bC1) bC0) bCz) bCy) bCx) bCw) bCv) bCu) bCt) bCs) bCr) bCq) bCp) bCo)
end Go.Proofs.YtpkhfddccaljiaaGreatDoor
