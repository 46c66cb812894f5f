/-
  DERIVED. GIVEN WITH THE SEED: THE CARDS: each row of YtpkhfddccaljiaaGreatDoorRows.lean that lists a variable, with what it lists TIED to the program's text (the seventh form; the later family's looks); each row that meets fmt, with fmt's text TOLD by the authors' own Lean function (tested against real Go, not proved from fmt's source: count such statements apart). THE CARD IS WHAT COUNTS. Prove the row's statement (the work); the ties are given (YtpkhfddccaljiaaGreatDoorTie.lean); close each card by the builder's one call (the guide's Derived/Test/ToyasCard.lean, 'card_holds'). Laid BY PROGRAM, IN A SANDBOX (cutbox-door.mjs). By AI agents, Wed Nov 11 2026. No macro, syntax, notation, axiom, sorry.
-/
import Derived.Test.YtpkhfddccaljiaaGreatDoorRows
import GoSem.ClaimSeven
namespace Go.Proofs.YtpkhfddccaljiaaGreatDoor
namespace Rows

/-- THE TIED CARD OF 'laws.FnBooksOthers'. -/
def fnBooksOthersCard : Claim7 := { stood := { row := fnBooksOthersRow, standIns := [], harness := (true, "d20855f9e265fb46177b58fe4a4d1c25cb76b721bb2ef7fac72bc0d14b7d871f"), looks := true }, kinds := [], alts := [], laidByText := true, laidKinds := [.data, .data, .data, .data, .sentinel, .sentinel, .pinned], laidTests := true, laidLooks := .later }
def FnBooksOthersCardSaid : Prop := Claim7.holds Tryz.pinned (.plain (OpenSpec.ofChange fnBooksOthersSpec)) fnBooksOthersCard

/-- THE TIED CARD OF 'laws.FnBooksPast'. -/
def fnBooksPastCard : Claim7 := { stood := { row := fnBooksPastRow, standIns := [], harness := (true, "d20855f9e265fb46177b58fe4a4d1c25cb76b721bb2ef7fac72bc0d14b7d871f"), looks := true }, kinds := [], alts := [], laidByText := true, laidKinds := [.data, .data, .data, .data, .sentinel, .sentinel, .pinned], laidTests := true, laidLooks := .later }
def FnBooksPastCardSaid : Prop := Claim7.holds Tryz.pinned (.plain (OpenSpec.ofChange fnBooksPastSpec)) fnBooksPastCard

/-- THE TIED CARD OF 'laws.FnBooksSwap'. -/
def fnBooksSwapCard : Claim7 := { stood := { row := fnBooksSwapRow, standIns := [], harness := (true, "d20855f9e265fb46177b58fe4a4d1c25cb76b721bb2ef7fac72bc0d14b7d871f"), looks := true }, kinds := [], alts := [], laidByText := true, laidKinds := [.data, .data, .data, .data, .sentinel, .sentinel, .pinned], laidTests := true, laidLooks := .later }
def FnBooksSwapCardSaid : Prop := Claim7.holds Tryz.pinned (.plain (OpenSpec.ofChange fnBooksSwapSpec)) fnBooksSwapCard

/-- THE SECOND FORM's CARD OF 'laws.FnBooksOthers'. -/
def fnBooksOthersUptoCard : Claim7 := { stood := { row := fnBooksOthersUptoRow, standIns := [], harness := (true, "d20855f9e265fb46177b58fe4a4d1c25cb76b721bb2ef7fac72bc0d14b7d871f"), looks := true }, kinds := [], alts := [], laidByText := true, laidKinds := [.data, .data, .data, .data, .sentinel, .sentinel, .pinned], laidTests := true, laidLooks := .later }
def FnBooksOthersUptoCardSaid : Prop := Claim7.holds Tryz.pinned (.plain (OpenSpec.upto fnBooksOthersSpec)) fnBooksOthersUptoCard

/-- THE SECOND FORM's CARD OF 'laws.FnBooksPast'. -/
def fnBooksPastUptoCard : Claim7 := { stood := { row := fnBooksPastUptoRow, standIns := [], harness := (true, "d20855f9e265fb46177b58fe4a4d1c25cb76b721bb2ef7fac72bc0d14b7d871f"), looks := true }, kinds := [], alts := [], laidByText := true, laidKinds := [.data, .data, .data, .data, .sentinel, .sentinel, .pinned], laidTests := true, laidLooks := .later }
def FnBooksPastUptoCardSaid : Prop := Claim7.holds Tryz.pinned (.plain (OpenSpec.upto fnBooksPastSpec)) fnBooksPastUptoCard

/-- THE SECOND FORM's CARD OF 'laws.FnBooksSwap'. -/
def fnBooksSwapUptoCard : Claim7 := { stood := { row := fnBooksSwapUptoRow, standIns := [], harness := (true, "d20855f9e265fb46177b58fe4a4d1c25cb76b721bb2ef7fac72bc0d14b7d871f"), looks := true }, kinds := [], alts := [], laidByText := true, laidKinds := [.data, .data, .data, .data, .sentinel, .sentinel, .pinned], laidTests := true, laidLooks := .later }
def FnBooksSwapUptoCardSaid : Prop := Claim7.holds Tryz.pinned (.plain (OpenSpec.upto fnBooksSwapSpec)) fnBooksSwapUptoCard
end Rows
end Go.Proofs.YtpkhfddccaljiaaGreatDoor
