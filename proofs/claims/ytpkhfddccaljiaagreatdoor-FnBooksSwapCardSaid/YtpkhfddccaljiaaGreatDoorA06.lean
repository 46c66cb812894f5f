/-
A part of the proof: pure functions told of the program, and laws about them.
-/
import Derived.Test.YtpkhfddccaljiaaGreatDoorA05
import Derived.Ground.NamesProg
import Derived.Ground.GgzProg
import Derived.Ground.SlgmProg
import Derived.WalkKit
import Derived.Shelf.Strconv.AtoiAll
import Derived.Shelf.Strconv.Itoa3
import Derived.Shelf.Strings.Split
import Derived.Shelf.Strings.Cut
import Derived.Shelf.Strings.BuilderK
import Derived.Shelf.SlIterI.Nil
import Derived.Shelf.SortM.Plain
import Derived.Shelf.SortM.SortNone
import Derived.Test.YtpkhfddccaljiaaGreatDoorChecked
import Derived.Recover
set_option linter.all false
noncomputable section
set_option maxRecDepth 100000
namespace Ab
open Go
def wY (x : cK × Int) : Option (cK × List bO) := aD (aL (x.1, 3)) fun r1 => bif r1.2 == 0 then aD (aFh (r1.1, 14)) fun r2 => aD (zG (r2.2.2.1, r2.2.2.2.1, r2.2.2.2.2.1, r2.2.2.2.2.2.1, r2.2.2.2.2.2.2.1, r2.2.2.2.2.2.2.2.1)) fun r3 => some (r2.1, r3) else aD (lW ()) fun r4 => aD (aL (r1.1, x.2)) fun r5 => bE (fun (L6 : (cK × List bO × bC × Int) → Option _) (z7 : cK × List bO × bC × Int) => bif decide (z7.2.2.2 > 0) then aD (aAp z7.1) fun r8 => aD (aL (r8.1, 4)) fun r9 => bif decide (r9.2 > 0) then aD (dK (r8.2.1, 0, 2)) fun r10 => bif r10 then aD (tV (z7.2.2.1.2.2.2.2, r8.2.1)) fun r11 => aD (lC (z7.2.2.1, r8.2.1, aG (r11.2.1 + 1), r8.2.2.2)) fun r12 => bif fits (z7.2.1.length + ([(r8.2.1, aG (r11.2.1 + 1), r8.2.2.2)] : List bO).length) 56 then let v13 : List bO := z7.2.1 ++ ([(r8.2.1, aG (r11.2.1 + 1), r8.2.2.2)] : List bO); L6 (r9.1, v13, r12, aG (z7.2.2.2 - 1)) else none else aD (lC (z7.2.2.1, r8.2)) fun r14 => bif fits (z7.2.1.length + ([r8.2] : List bO).length) 56 then L6 (r9.1, z7.2.1 ++ ([r8.2] : List bO), r14, aG (z7.2.2.2 - 1)) else none else aD (lC (z7.2.2.1, r8.2)) fun r15 => bif fits (z7.2.1.length + ([r8.2] : List bO).length) 56 then L6 (r9.1, z7.2.1 ++ ([r8.2] : List bO), r15, aG (z7.2.2.2 - 1)) else none else some (z7.1, z7.2.1)) (r5.1, [], r4, r5.2)
def rZ (x : List bO) : Option bC := aD (lW ()) fun r1 => bif decide ((x.length : Int) > 60) then some (0, 0, [], [], []) else bE (fun (L2 : (bC × bC × Int) → Option _) (z3 : bC × bC × Int) => bif decide (z3.2.2 < (x.length : Int)) then bif inb z3.2.2 x.length then aD (lC (z3.2.1, (aIf x z3.2.2))) fun r4 => L2 (z3.1, r4, aG (z3.2.2 + 1)) else none else some z3.2.1) ((0, 0, [], [], []), r1, 0)
def aH7 (x : cK) : Option (cK × fT) := aD (lV ()) fun r1 => aD (aL (x, 8)) fun r2 => bE (fun (L3 : (cK × fT × fT × Int) → Option _) (z4 : cK × fT × fT × Int) => bif decide (z4.2.2.2 > 0) then aD (aL (z4.1, 8)) fun r5 => aD (aL (r5.1, 3)) fun r6 => aD (mP (z4.2.2.1, r5.2, r6.2)) fun r7 => L3 (r6.1, z4.2.1, r7.1, aG (z4.2.2.2 - 1)) else aD (aL (z4.1, 14)) fun r8 => bif r8.2 == 0 then aD (aL (r8.1, 3)) fun r9 => bif inb r9.2 ([0, 99, 100] : List Int).length then some (r9.1, aV ([0, 99, 100] : List Int) r9.2, z4.2.2.1.2) else none else bif r8.2 == 1 then both (aD (aL (r8.1, 8)) fun r10 => both (aD (aL (r10.1, 2)) fun r11 => bif inb r11.2 ([(-1), 3] : List Int).length then bif inb r10.2 z4.2.2.1.2.length then let v12 : List Int := dP z4.2.2.1.2 r10.2 (aV ([(-1), 3] : List Int) r11.2); some (r11.1, z4.2.2.1.1, v12) else none else none) (aD (aL (r10.1, 2)) fun r13 => bif inb r13.2 ([(-1), 3] : List Int).length then bif inb r10.2 z4.2.2.1.2.length then let v14 : List Int := dP z4.2.2.1.2 r10.2 (aV ([(-1), 3] : List Int) r13.2); some (r13.1, z4.2.2.1.1, v14) else none else none)) (aD (aL (r8.1, 8)) fun r15 => aD (aL (r15.1, 2)) fun r16 => bif inb r16.2 ([(-1), 3] : List Int).length then bif inb r15.2 z4.2.2.1.2.length then let v17 : List Int := dP z4.2.2.1.2 r15.2 (aV ([(-1), 3] : List Int) r16.2); some (r16.1, z4.2.2.1.1, v17) else none else none) else bif r8.2 == 2 then bif eH 1 (z4.2.2.1.2.length : Int) z4.2.2.1.2.length then some (r8.1, z4.2.2.1.1, cut z4.2.2.1.2 1 (z4.2.2.1.2.length : Int)) else none else some (r8.1, z4.2.2.1)) (r2.1, (0, []), r1, r2.2)
def aBq (x : cK) : Option (cK × bC) := aD (wY (x, 16)) fun r1 => aD (rZ r1.2) fun r2 => aD (aL (r1.1, 12)) fun r3 => bif r3.2 == 0 then aD (aL (r3.1, 3)) fun r4 => bif inb r4.2 ([(-1), 60, 61] : List Int).length then some (r4.1, aV ([(-1), 60, 61] : List Int) r4.2, r2.2) else none else bif r3.2 == 1 then aD (aL (r3.1, 2)) fun r5 => bif fits (r2.2.2.2.1.length + ([(31, r5.2)] : List aN).length) 16 then some (r5.1, r2.1, r2.2.1, r2.2.2.1, r2.2.2.2.1 ++ ([(31, r5.2)] : List aN), r2.2.2.2.2) else none else bif r3.2 == 2 then aD (aH7 r3.1) fun r6 => some (r6.1, r2.1, r6.2.1, r6.2.2, r2.2.2.2) else bif r3.2 == 3 then aD (aL (r3.1, 2)) fun r7 => aD (aL (r7.1, 11)) fun r8 => bif fits (r2.2.2.2.2.length + ([(2, r7.2, r8.2, [])] : List aY).length) 48 then let v9 : List aY := r2.2.2.2.2 ++ ([(2, r7.2, r8.2, [])] : List aY); some (r8.1, r2.1, r2.2.1, r2.2.2.1, r2.2.2.2.1, v9) else none else some (r3.1, r2)
def oU (x : List Int) : Option (bC × bO) := aD (aAq x) fun r1 => aD (aBq r1) fun r2 => aD (aAp r2.1) fun r3 => aD (aL (r3.1, 3)) fun r4 => bif decide (r4.2 > 0) then aD (dK (r3.2.1, 0, 2)) fun r5 => bif r5 then aD (tV (r2.2.2.2.2.2, r3.2.1)) fun r6 => aD (aL (r4.1, 3)) fun r7 => some (r2.2, r3.2.1, aG (r6.2.1 + r7.2), r3.2.2.2) else some (r2.2, r3.2) else some (r2.2, r3.2)
def kJ (x : aI) : Option Bool := bif decide (x.2.1 ≤ x.1) then some (decide (x.1 ≤ x.2.2)) else some false
def sJ (x : Int) : Option Bool := aD (kJ (x, 0, 2)) fun r1 => some r1
def aI7 (x : fT) : Option Bool := aD (kJ (x.1, 1, 99)) fun r1 => bif !r1 then some false else bif (x.2.length : Int) != 8 then some false else bE (fun (L2 : Int → Option _) (z3 : Int) => bif decide (z3 < (x.2.length : Int)) then bif inb z3 x.2.length then aD (sJ (aV x.2 z3)) fun r4 => bif !r4 then some false else L2 (aG (z3 + 1)) else none else some true) 0
def aI5 (x : Int) : Option Bool := aD (kJ (x, 0, 31)) fun r1 => some r1
def zR (x : Int) : Option Bool := aD (kJ (x, (-9999), 9999)) fun r1 => some r1
def aA7 (x : List aN) : Option Bool := bif decide ((x.length : Int) > 32) then some false else bE (fun (L1 : Int → Option _) (z2 : Int) => bif decide (z2 < (x.length : Int)) then bif inb z2 x.length then aD (aI5 (bM x z2).1) fun r3 => bif !r3 then some false else aD (zR (bM x z2).2) fun r4 => bif !r4 then some false else bif decide (z2 > 0) then bif inb (aG (z2 - 1)) x.length then let v5 : Bool := decide ((bM x (aG (z2 - 1))).1 ≥ (bM x z2).1); bif v5 then some false else L1 (aG (z2 + 1)) else none else L1 (aG (z2 + 1)) else none else some true) 0
def zP (x : aN) : Option Bool := some (x.2 == 0)
def gT (x : List aN) : Option Int := bE (fun (L1 : Int → Option _) (z2 : Int) => bif decide (z2 < (x.length : Int)) then bif inb z2 x.length then aD (zP (bM x z2)) fun r3 => bif r3 then some z2 else L1 (aG (z2 + 1)) else none else some (-1)) 0
def gD (x : List aN) : Option Bool := aD (gT x) fun r1 => some (decide (r1 ≥ 0))
def aFz (x : List aN) : Option Bool := aD (aA7 x) fun r1 => bif r1 then aD (gD x) fun r2 => some (!r2) else some false
def uJ (x : Int) : Option Bool := aD (kJ (x, 0, 2)) fun r1 => some r1
def aI6 (x : Int) : Option Bool := aD (kJ (x, 0, 9)) fun r1 => some r1
def aI2 (x : List Int) : Option Bool := bE (fun (L1 : Int → Option _) (z2 : Int) => bif decide (z2 < (x.length : Int)) then bif inb z2 x.length then aD (zR (aV x z2)) fun r3 => bif !r3 then some false else L1 (aG (z2 + 1)) else none else some (decide ((x.length : Int) ≤ 6))) 0
def aI4 (x : aY) : Option Bool := aD (uJ x.1) fun r1 => bif r1 then aD (kJ (x.2.1, 1, 99)) fun r2 => bif r2 then aD (aI6 x.2.2.1) fun r3 => bif r3 then aD (aI2 x.2.2.2) fun r4 => some r4 else some false else some false else some false
def aF2 (x : bC) : Option Bool := aD (kJ (x.1, 0, 60)) fun r1 => bif !r1 then some false else aD (aI7 (x.2.1, x.2.2.1)) fun r2 => bif !r2 then some false else aD (aFz x.2.2.2.1) fun r3 => bif !r3 then some false else bE (fun (L4 : (bC × Int) → Option _) (z5 : bC × Int) => bif decide (z5.2 < (x.2.2.2.2.length : Int)) then bif inb z5.2 x.2.2.2.2.length then aD (aI4 (aS x.2.2.2.2 z5.2)) fun r6 => bif !r6 then some false else bif decide (z5.2 > 0) then bif inb (aG (z5.2 - 1)) z5.1.2.2.2.2.length then let v7 : Bool := decide ((aS z5.1.2.2.2.2 (aG (z5.2 - 1))).1 ≥ (aS x.2.2.2.2 z5.2).1); bif v7 then some false else L4 (z5.1, aG (z5.2 + 1)) else none else L4 (z5.1, aG (z5.2 + 1)) else none else some true) (x, 0)
def slices_Clone_int (x : List Int) : Option (List Int) := bif Nat.beq x.length 0 then both (some []) (bif fits (([] : List Int).length + x.length) 8 then some (([] : List Int) ++ x) else none) else bif fits (([] : List Int).length + x.length) 8 then some (([] : List Int) ++ x) else none
def jD (x : List aN) : Option (List aN) := bif Nat.beq x.length 0 then both (some []) (bif fits (([] : List aN).length + x.length) 16 then some (([] : List aN) ++ x) else none) else bif fits (([] : List aN).length + x.length) 16 then some (([] : List aN) ++ x) else none
def jC (x : List aY) : Option (List aY) := bif Nat.beq x.length 0 then both (some []) (bif fits (([] : List aY).length + x.length) 48 then some (([] : List aY) ++ x) else none) else bif fits (([] : List aY).length + x.length) 48 then some (([] : List aY) ++ x) else none
def vY (x : bC) : Option bC := aD (slices_Clone_int x.2.2.1) fun r1 => aD (jD x.2.2.2.1) fun r2 => aD (jC x.2.2.2.2) fun r3 => bE (fun (L4 : (bC × bC × Int) → Option _) (z5 : bC × bC × Int) => bif decide (z5.2.2 < (r3.length : Int)) then bif inb z5.2.2 z5.1.2.2.2.2.length then aD (slices_Clone_int (aS z5.1.2.2.2.2 z5.2.2).2.2.2) fun r6 => bif inb z5.2.2 z5.1.2.2.2.2.length then let v7 : List aY := dP z5.1.2.2.2.2 z5.2.2 ((aS z5.1.2.2.2.2 z5.2.2).1, (aS z5.1.2.2.2.2 z5.2.2).2.1, (aS z5.1.2.2.2.2 z5.2.2).2.2.1, r6); L4 ((z5.1.1, z5.1.2.1, z5.1.2.2.1, z5.1.2.2.2.1, v7), z5.2.1, aG (z5.2.2 + 1)) else none else none else some z5.1) ((x.1, x.2.1, r1, r2, r3), (0, 0, [], [], []), 0)
def cmp_isNaN_int (x : Int) : Option Bool := some (x != x)
def cmp_Compare_int (x : aN) : Option Int := aD (cmp_isNaN_int x.1) fun r1 => aD (cmp_isNaN_int x.2) fun r2 => bif r1 then bif r2 then some 0 else some (-1) else bif r2 then some 1 else bif decide (x.1 < x.2) then some (-1) else bif decide (x.1 > x.2) then some 1 else some 0
def oW (x : aY × Int) : Option Int := aD (cmp_Compare_int (x.1.1, x.2)) fun r1 => some r1
def fE (x : List aY × Int) : Option (Int × Bool) := bE (fun (L1 : aN → Option _) (z2 : aN) => bif decide (z2.1 < z2.2) then bif decide (0 ≤ 1) then let v3 : Int := aG (bDd .u64 (aZ3 (aG (z2.1 + z2.2))) 1); bif inb v3 x.1.length then aD (oW ((aS x.1 v3), x.2)) fun r4 => bif decide (r4 < 0) then L1 (aG (v3 + 1), z2.2) else L1 (z2.1, v3) else none else none else bif decide (z2.1 < (x.1.length : Int)) then bif inb z2.1 x.1.length then aD (oW ((aS x.1 z2.1), x.2)) fun r5 => some (z2.1, r5 == 0) else none else some (z2.1, false)) (0, (x.1.length : Int))
def zQ (x : List aY × Int) : Option (Int × Bool) := aD (fE x) fun r1 => some r1
def slices_Index_string (x : List ByteArray × ByteArray) : Option Int := bE (fun (L1 : Int → Option _) (z2 : Int) => bif decide (z2 < (x.1.length : Int)) then bif inb z2 x.1.length then bif eqS x.2 (gP x.1 z2) then some z2 else L1 (aG (z2 + 1)) else none else some (-1)) 0
def iZ (x : ByteArray) : Option (aI × Bool) := aD (strings_Split (x, (⟨#[32]⟩ : ByteArray))) fun r1 => bif inb 0 r1.length then aD (slices_Index_string (([(⟨#[103, 101, 116]⟩ : ByteArray), (⟨#[112, 117, 116]⟩ : ByteArray), (⟨#[97, 100, 100]⟩ : ByteArray), (⟨#[110, 101, 101, 100]⟩ : ByteArray)] : List ByteArray), gP r1 0)) fun r2 => dA (bif (aG (1 + r2)) == 1 then some (.inl ((0, 0, 0), 1)) else some (.inl ((0, 0, 0), 2))) fun (z7 : aI × Int) => bif (aG (1 + r2)) == 0 then some ((0, 0, 0), false) else bif (r1.length : Int) != (aG (1 + z7.2)) then some ((0, 0, 0), false) else bif inb 1 r1.length then aD (strconv_Atoi (gP r1 1)) fun r8 => bif !(!r8.2) then some ((0, 0, 0), false) else bif z7.2 == 2 then bif inb 2 r1.length then aD (strconv_Atoi (gP r1 2)) fun r9 => bif !(!r9.2) then some ((0, 0, 0), false) else some ((aG (1 + r2), r8.1, r9.1), true) else none else some ((aG (1 + r2), r8.1, 0), true) else none else none
def aI3 (x : aI) : Option ((Int ⊕ (aN ⊕ (aN ⊕ (aN ⊕ Unit)))) × Bool) := aD (aI5 x.2.1) fun r1 => bif !r1 then some ((.inr (.inr (.inr (.inr ())))), false) else aD (zR x.2.2) fun r2 => bif !r2 then some ((.inr (.inr (.inr (.inr ())))), false) else bif x.1 == 1 then some ((.inl x.2.1), x.2.2 == 0) else bif x.1 == 2 then some ((.inr (.inl x.2)), true) else bif x.1 == 3 then some ((.inr (.inr (.inl x.2))), true) else bif x.1 == 4 then some ((.inr (.inr (.inr (.inl x.2)))), true) else some ((.inr (.inr (.inr (.inr ())))), false)
def wO (x : List aI) : Option ((List (Int ⊕ (aN ⊕ (aN ⊕ (aN ⊕ Unit))))) × Bool) := aD (kJ ((x.length : Int), 1, 6)) fun r1 => bif !r1 then some ([], false) else bif aHe (x.length : Int) 16 then bE (fun (L2 : ((List (Int ⊕ (aN ⊕ (aN ⊕ (aN ⊕ Unit))))) × Int) → Option _) (z3 : (List (Int ⊕ (aN ⊕ (aN ⊕ (aN ⊕ Unit))))) × Int) => bif decide (z3.2 < (x.length : Int)) then bif inb z3.2 x.length then aD (aI3 (aJ x z3.2)) fun r4 => bif !r4.2 then some ([], false) else bif fits (z3.1.length + ([r4.1] : List (Int ⊕ (aN ⊕ (aN ⊕ (aN ⊕ Unit))))).length) 16 then let v5 : List (Int ⊕ (aN ⊕ (aN ⊕ (aN ⊕ Unit)))) := z3.1 ++ ([r4.1] : List (Int ⊕ (aN ⊕ (aN ⊕ (aN ⊕ Unit))))); L2 (v5, aG (z3.2 + 1)) else none else none else some (z3.1, true)) ([], 0) else none
def aI8 (x : List aI) : Option Bool := aD (wO x) fun r1 => some r1.2
def lJ (x : Int) : Option ByteArray := aD (strconv_Itoa x) fun r1 => bif kM (⟨#[103, 101, 116, 32]⟩ : ByteArray) r1 then bif kM ((⟨#[103, 101, 116, 32]⟩ : ByteArray) ++ r1) (⟨#[59]⟩ : ByteArray) then let v2 : ByteArray := ((⟨#[103, 101, 116, 32]⟩ : ByteArray) ++ r1) ++ (⟨#[59]⟩ : ByteArray); some v2 else none else none
def wP (x : ByteArray × Int × Int) : Option ByteArray := bif kM x.1 (⟨#[32]⟩ : ByteArray) then aD (strconv_Itoa x.2.1) fun r1 => bif kM (x.1 ++ (⟨#[32]⟩ : ByteArray)) r1 then bif kM ((x.1 ++ (⟨#[32]⟩ : ByteArray)) ++ r1) (⟨#[32]⟩ : ByteArray) then let v2 : ByteArray := ((x.1 ++ (⟨#[32]⟩ : ByteArray)) ++ r1) ++ (⟨#[32]⟩ : ByteArray); aD (strconv_Itoa x.2.2) fun r3 => bif kM v2 r3 then bif kM (v2 ++ r3) (⟨#[59]⟩ : ByteArray) then some ((v2 ++ r3) ++ (⟨#[59]⟩ : ByteArray)) else none else none else none else none else none
def lI (x : aN) : Option ByteArray := aD (wP ((⟨#[112, 117, 116]⟩ : ByteArray), x)) fun r1 => some r1
def lK (x : aN) : Option ByteArray := aD (wP ((⟨#[97, 100, 100]⟩ : ByteArray), x)) fun r1 => some r1
def jX (x : aN) : Option ByteArray := aD (wP ((⟨#[110, 101, 101, 100]⟩ : ByteArray), x)) fun r1 => some r1
def zS := aCw wO lJ lI lK jX
def nO (x : ByteArray) : Option (List aI × Bool) := bif decide ((x.size : Int) > 80) then some ([], false) else bE (fun (L1 : (List aI × ByteArray) → Option _) (z2 : List aI × ByteArray) => bif !(eqS z2.2 emptyS) then aD (strings_Cut (z2.2, (⟨#[59]⟩ : ByteArray))) fun r3 => aD (iZ r3.1) fun r4 => bif !r3.2.2 then some ([], false) else bif !r4.2 then some ([], false) else bif fits (z2.1.length + ([r4.1] : List aI).length) 24 then L1 (z2.1 ++ ([r4.1] : List aI), r3.2.1) else none else aD (aI8 z2.1) fun r5 => bif !r5 then some ([], false) else aD (zS z2.1) fun r6 => bif !(eqS r6 x) then some ([], false) else some (z2.1, true)) ([], x)
def aA8 (x : Int) : Option Bool := aD (kJ (x, 0, 7)) fun r1 => some r1
def aI9 (x : bO) : Option Bool := aD (uJ x.1) fun r1 => bif !r1 then some false else aD (kJ (x.2.1, 1, 99)) fun r2 => bif !r2 then some false else bif x.2.2.1 == 1 then aD (nO x.2.2.2.1) fun r3 => bif r3.2 then bif x.2.2.2.2.1 == 0 then some (x.2.2.2.2.2 == 0) else some false else some false else bif x.2.2.1 == 2 then bif eqS x.2.2.2.1 emptyS then aD (aA8 x.2.2.2.2.1) fun r4 => bif r4 then aD (sJ x.2.2.2.2.2) fun r5 => some r5 else some false else some false else some false
def aCu (x : List aN) : Option (List (Int × Int)) := bE (fun (L1 : ((List (Int × Int)) × Int) → Option _) (z2 : (List (Int × Int)) × Int) => bif decide (z2.2 < (x.length : Int)) then bif inb z2.2 x.length then let v3 : List (Int × Int) := uU (.int .i64) (.int .i64) (bM x z2.2).1 (bM x z2.2).2 z2.1; L1 (v3, aG (z2.2 + 1)) else none else some z2.1) ([], 0)
def aF0 (x : fT × Int × Int) : Option (fT × Int) := aD (aI7 x.1) fun r11 => bif !r11 then some ((0, []), 9) else bif decide (8 ≤ x.1.2.length) then both (aD (slices_Clone_int (List.take 8 x.1.2)) fun r12 => aD (aA8 x.2.1) fun r13 => bif !r13 then some ((x.1.1, r12), 9) else aD (sJ x.2.2) fun r14 => bif !r14 then some ((x.1.1, r12), 9) else bif x.1.1 == 99 then some ((x.1.1, r12), 2) else bif inb x.2.1 8 then bif (aV (List.take 8 x.1.2) x.2.1) == x.2.2 then some ((x.1.1, r12), 3) else bif inb x.2.1 8 then aD (slices_Clone_int (dP (List.take 8 x.1.2) x.2.1 x.2.2)) fun r15 => some ((aG (x.1.1 + 1), r15), 0) else none else none) (aD (slices_Clone_int (List.take 8 x.1.2)) fun r16 => aD (aA8 x.2.1) fun r17 => bif !r17 then some ((x.1.1, r16), 9) else aD (sJ x.2.2) fun r18 => bif !r18 then some ((x.1.1, r16), 9) else bif x.1.1 == 99 then some ((x.1.1, r16), 2) else bif inb x.2.1 8 then bif (aV (List.take 8 x.1.2) x.2.1) == x.2.2 then some ((x.1.1, r16), 3) else bif inb x.2.1 8 then aD (slices_Clone_int (dP (List.take 8 x.1.2) x.2.1 x.2.2)) fun r19 => some ((aG (x.1.1 + 1), r19), 0) else none else none) else none
def kP (x : (List Int × List Bool × List Int) × Int × Int) : Option ((List Int × List Bool × List Int) ⊕ ((List Int × List Bool × List Int) × (Int ⊕ Unit))) := aD (zR x.2.2) fun r1 => bif !r1 then some (.inr (x.1, (.inl 2))) else bif inb x.2.1 32 then bif inb x.2.1 32 then some (.inl (dP x.1.1 x.2.1 x.2.2, dP x.1.2.1 x.2.1 true, x.1.2.2)) else none else none
def qZ (x : (List Int × List Bool × List Int) × (Int ⊕ (aN ⊕ (aN ⊕ (aN ⊕ Unit))))) : Option ((List Int × List Bool × List Int) ⊕ ((List Int × List Bool × List Int) × (Int ⊕ Unit))) := bif isL x.2 then bif inb (aGd 0 x.2) 32 then bif fits (x.1.2.2.length + ([aV x.1.1 (aGd 0 x.2)] : List Int).length) 8 then let v1 : List Int := x.1.2.2 ++ ([aV x.1.1 (aGd 0 x.2)] : List Int); some (.inl (x.1.1, x.1.2.1, v1)) else none else none else bif isL (rM (.inr (.inr (.inr ()))) x.2) then aD (kP (x.1, (aGd (0, 0) (rM (.inr (.inr (.inr ()))) x.2)))) fun y_ => match y_ with | .inl r2 => some (.inl r2) | .inr r3 => some (.inr r3) else let v4 : Bool := isL (rM (.inr (.inr ())) (rM (.inr (.inr (.inr ()))) x.2)); bif v4 then bif inb (aGd (0, 0) (rM (.inr (.inr ())) (rM (.inr (.inr (.inr ()))) x.2))).1 32 then let v5 : Int := aV x.1.1 (aGd (0, 0) (rM (.inr (.inr ())) (rM (.inr (.inr (.inr ()))) x.2))).1; let v6 : Int := aG (v5 + (aGd (0, 0) (rM (.inr (.inr ())) (rM (.inr (.inr (.inr ()))) x.2))).2); aD (kP (x.1, (aGd (0, 0) (rM (.inr (.inr ())) (rM (.inr (.inr (.inr ()))) x.2))).1, v6)) fun y_ => match y_ with | .inl r7 => some (.inl r7) | .inr r8 => some (.inr r8) else none else let v9 : Bool := isL (rM (.inr ()) (rM (.inr (.inr ())) (rM (.inr (.inr (.inr ()))) x.2))); bif v9 then bif inb (aGd (0, 0) (rM (.inr ()) (rM (.inr (.inr ())) (rM (.inr (.inr (.inr ()))) x.2)))).1 32 then let v10 : Int := aV x.1.1 (aGd (0, 0) (rM (.inr ()) (rM (.inr (.inr ())) (rM (.inr (.inr (.inr ()))) x.2)))).1; let v11 : Bool := decide (v10 < (aGd (0, 0) (rM (.inr ()) (rM (.inr (.inr ())) (rM (.inr (.inr (.inr ()))) x.2)))).2); bif v11 then some (.inr (x.1, (.inl 1))) else some (.inl x.1) else none else some (.inl x.1)
def aF1 := xS wO aA7 qZ
def mR (x : bC × bO) : Option bC := aD (aF2 x.1) fun r28 => bif !r28 then some (0, 0, [], [], []) else bif x.1.1 == 60 then some (0, 0, [], [], []) else aD (vY x.1) fun r29 => aD (zQ (r29.2.2.2.2, x.2.1)) fun r30 => dA (dA (aD (aI9 x.2) fun r31 => bif !r31 then some (.inl ((aG (r29.1 + 1), r29.2), x.2, (0, 0, [], [], []), true)) else bif r30.2 then bif inb r30.1 r29.2.2.2.2.length then let v32 : Bool := decide ((aS r29.2.2.2.2 r30.1).2.1 ≥ x.2.2.1); some (.inl ((aG (r29.1 + 1), r29.2), x.2, (0, 0, [], [], []), v32)) else none else some (.inl ((aG (r29.1 + 1), r29.2), x.2, (0, 0, [], [], []), false))) fun (z33 : bC × bO × bC × Bool) => bif z33.2.2.2 then some (.inr z33.1) else some (.inl (z33.1, z33.2.1, z33.2.2.1))) fun (z34 : bC × bO × bC) => aD (aCu z34.1.2.2.2.1) fun r35 => dA (bif z34.2.1.2.2.1 == 2 then aD (aF0 ((z34.1.2.1, z34.1.2.2.1), z34.2.1.2.2.2.2)) fun r36 => some (.inl ((z34.1.1, r36.1.1, r36.1.2, z34.1.2.2.2), z34.2.2, z34.2.1.1, z34.2.1.2.1, r36.2, [])) else bif z34.2.1.2.2.1 == 1 then aD (nO z34.2.1.2.2.2.1) fun r37 => aD (aF1 (r37.1, z34.1.2.2.2.1)) fun r38 => bE (fun (L39 : (bC × bC × aY × (List (Int × Int)) × Int) → Option _) (z40 : bC × bC × aY × (List (Int × Int)) × Int) => bif decide (z40.2.2.2.2 < (r38.2.2.length : Int)) then bif inb z40.2.2.2.2 r38.2.2.length then let v41 : List (Int × Int) := uU (.int .i64) (.int .i64) (bM r38.2.2 z40.2.2.2.2).1 (bM r38.2.2 z40.2.2.2.2).2 z40.2.2.2.1; L39 (z40.1, z40.2.1, z40.2.2.1, v41, aG (z40.2.2.2.2 + 1)) else none else aD (jO z40.2.2.2.1) fun r42 => some (.inl ((z40.1.1, z40.1.2.1, z40.1.2.2.1, r42.2, z40.1.2.2.2.2), z40.2.1, z40.2.2.1))) (z34.1, z34.2.2, (z34.2.1.1, z34.2.1.2.1, r38.1, r38.2.1), r35, 0) else aD (jO r35) fun r43 => some (.inl ((z34.1.1, z34.1.2.1, z34.1.2.2.1, r43.2, z34.1.2.2.2.2), z34.2.2, z34.2.1.1, z34.2.1.2.1, 0, []))) fun (z44 : bC × bC × aY) => bif r30.2 then bif inb r30.1 z44.1.2.2.2.2.length then some (z44.1.1, z44.1.2.1, z44.1.2.2.1, z44.1.2.2.2.1, dP z44.1.2.2.2.2 r30.1 z44.2.2) else none else aD (gJ (z44.1.2.2.2.2, r30.1, ([z44.2.2] : List aY))) fun r45 => some (z44.1.1, z44.1.2.1, z44.1.2.2.1, z44.1.2.2.2.1, r45)
def aAn (x : List Int × List Int) : Option Bool := bif (x.1.length : Int) != (x.2.length : Int) then some false else bE (fun (L1 : Int → Option _) (z2 : Int) => bif decide (z2 < (x.1.length : Int)) then bif inb z2 x.1.length then bif inb z2 x.2.length then bif (aV x.1 z2) != (aV x.2 z2) then some false else L1 (aG (z2 + 1)) else none else none else some true) 0
def aMh (x : fT × fT) : Option Bool := bif x.1.1 == x.2.1 then aD (aAn (x.1.2, x.2.2)) fun r1 => some r1 else some false
def aFd (x : List aN × List aN) : Option Bool := bif (x.1.length : Int) != (x.2.length : Int) then some false else bE (fun (L1 : Int → Option _) (z2 : Int) => bif decide (z2 < (x.1.length : Int)) then bif inb z2 x.1.length then bif inb z2 x.2.length then let v3 : Bool := !(((bM x.1 z2).1 == (bM x.2 z2).1) && (((bM x.1 z2).2 == (bM x.2 z2).2) && true)); bif v3 then some false else L1 (aG (z2 + 1)) else none else none else some true) 0
def aHw (x : List aY × List aY) : Option Bool := bif (x.1.length : Int) != (x.2.length : Int) then some false else bE (fun (L1 : Int → Option _) (z2 : Int) => bif decide (z2 < (x.1.length : Int)) then bif inb z2 x.1.length then bif inb z2 x.2.length then bif (aS x.1 z2).1 != (aS x.2 z2).1 then some false else bif inb z2 x.1.length then bif inb z2 x.2.length then bif (aS x.1 z2).2.1 != (aS x.2 z2).2.1 then some false else bif inb z2 x.1.length then bif inb z2 x.2.length then bif (aS x.1 z2).2.2.1 != (aS x.2 z2).2.2.1 then some false else bif inb z2 x.1.length then bif inb z2 x.2.length then aD (aAn ((aS x.1 z2).2.2.2, (aS x.2 z2).2.2.2)) fun r3 => bif !r3 then some false else L1 (aG (z2 + 1)) else none else none else none else none else none else none else none else none else some true) 0
def gI (x : bC × bC) : Option Bool := bif x.1.1 == x.2.1 then aD (aMh ((x.1.2.1, x.1.2.2.1), x.2.2.1, x.2.2.2.1)) fun r1 => bif r1 then aD (aFd (x.1.2.2.2.1, x.2.2.2.2.1)) fun r2 => bif r2 then aD (aHw (x.1.2.2.2.2, x.2.2.2.2.2)) fun r3 => some r3 else some false else some false else some false
def w_FnBooksOthers (x : List Int) : Option Bool := bif decide ((x.length : Int) > 1048576) then some true else aD (oU x) fun r1 => aD (lC r1) fun r2 => aD (mR r1) fun r3 => aD (gI (r3, r2)) fun r4 => bif !r4 then aD (gI (r3, r2)) fun r5 => some r5 else bif r3.2.1 == 0 then aD (gI (r3, r2)) fun r6 => some r6 else bE (fun (L7 : (bC × bO × bC × Int) → Option _) (z8 : bC × bO × bC × Int) => bif decide (z8.2.2.2 < (z8.1.2.2.2.2.length : Int)) then bif inb z8.2.2.2 z8.1.2.2.2.2.length then bif (aS z8.1.2.2.2.2 z8.2.2.2).1 == z8.2.1.1 then L7 (z8.1, z8.2.1, z8.2.2.1, aG (z8.2.2.2 + 1)) else bE (fun (L9 : (bC × bO × bC × Bool × Int) → Option _) (z10 : bC × bO × bC × Bool × Int) => let v11 : Bool := decide (z10.2.2.2.2 < (z10.1.2.2.2.2.length : Int)); bif v11 then bif z10.2.2.2.1 then L9 (z10.1, z10.2.1, z10.2.2.1, true, aG (z10.2.2.2.2 + 1)) else bif inb z10.2.2.2.2 z10.1.2.2.2.2.length then bif inb z8.2.2.2 z10.2.2.1.2.2.2.2.length then let v12 : Bool := (aS z10.1.2.2.2.2 z10.2.2.2.2).1 == (aS z10.2.2.1.2.2.2.2 z8.2.2.2).1; bif v12 then bif inb z10.2.2.2.2 z10.1.2.2.2.2.length then bif inb z8.2.2.2 z10.2.2.1.2.2.2.2.length then let v13 : Bool := (aS z10.1.2.2.2.2 z10.2.2.2.2).2.1 == (aS z10.2.2.1.2.2.2.2 z8.2.2.2).2.1; bif v13 then bif inb z10.2.2.2.2 z10.1.2.2.2.2.length then bif inb z8.2.2.2 z10.2.2.1.2.2.2.2.length then let v14 : Bool := (aS z10.1.2.2.2.2 z10.2.2.2.2).2.2.1 == (aS z10.2.2.1.2.2.2.2 z8.2.2.2).2.2.1; bif v14 then bif inb z10.2.2.2.2 z10.1.2.2.2.2.length then bif inb z8.2.2.2 z10.2.2.1.2.2.2.2.length then aD (aAn ((aS z10.1.2.2.2.2 z10.2.2.2.2).2.2.2, (aS z10.2.2.1.2.2.2.2 z8.2.2.2).2.2.2)) fun r15 => L9 (z10.1, z10.2.1, z10.2.2.1, r15, aG (z10.2.2.2.2 + 1)) else none else none else L9 (z10.1, z10.2.1, z10.2.2.1, false, aG (z10.2.2.2.2 + 1)) else none else none else L9 (z10.1, z10.2.1, z10.2.2.1, false, aG (z10.2.2.2.2 + 1)) else none else none else L9 (z10.1, z10.2.1, z10.2.2.1, false, aG (z10.2.2.2.2 + 1)) else none else none else bif !z10.2.2.2.1 then some false else L7 (z10.2.2.1, z10.2.1, z10.1, aG (z8.2.2.2 + 1))) (z8.2.2.1, z8.2.1, z8.1, false, 0) else none else let v16 : Bool := decide ((z8.2.2.1.2.2.2.2.length : Int) ≤ (aG ((z8.1.2.2.2.2.length : Int) + 1))); some v16) (r1.1, r1.2, r3, 0)
def w_FnBooksPast (x : List Int) : Option Bool := bif decide ((x.length : Int) > 1048576) then some true else aD (oU x) fun r1 => bE (fun (L2 : (bC × bO × Int) → Option _) (z3 : bC × bO × Int) => bif decide (z3.2.2 < (z3.1.2.2.2.2.length : Int)) then bif inb z3.2.2 z3.1.2.2.2.2.length then bif (aS z3.1.2.2.2.2 z3.2.2).1 == z3.2.1.1 then bif inb z3.2.2 z3.1.2.2.2.2.length then bif !(2 == 0) then let v4 : Int := aG ((aS z3.1.2.2.2.2 z3.2.2).2.1 - (Int.tmod (x.length : Int) 2)); L2 (z3.1, (z3.2.1.1, v4, z3.2.1.2.2), aG (z3.2.2 + 1)) else none else none else L2 (z3.1, z3.2.1, aG (z3.2.2 + 1)) else none else aD (lC (z3.1, z3.2.1)) fun r5 => aD (mR (z3.1, z3.2.1)) fun r6 => aD (gI (r6, r5)) fun r7 => bif !r7 then aD (gI (r6, r5)) fun r8 => some r8 else aD (rY z3.1) fun r9 => bif !r9 then aD (gI (r6, r5)) fun r10 => some r10 else bif decide (z3.1.1 ≥ 60) then aD (gI (r6, r5)) fun r11 => some r11 else bE (fun (L12 : (bO × bC × bC × Bool × Int) → Option _) (z13 : bO × bC × bC × Bool × Int) => let v14 : Bool := decide (z13.2.2.2.2 < (z13.2.1.2.2.2.2.length : Int)); bif v14 then bif z13.2.2.2.1 then L12 (z13.1, z13.2.1, z13.2.2.1, true, aG (z13.2.2.2.2 + 1)) else bif inb z13.2.2.2.2 z13.2.1.2.2.2.2.length then let v15 : Bool := (aS z13.2.1.2.2.2.2 z13.2.2.2.2).1 == z13.1.1; bif v15 then bif inb z13.2.2.2.2 z13.2.1.2.2.2.2.length then let v16 : Bool := decide ((aS z13.2.1.2.2.2.2 z13.2.2.2.2).2.1 ≥ z13.1.2.1); L12 (z13.1, z13.2.1, z13.2.2.1, v16, aG (z13.2.2.2.2 + 1)) else none else L12 (z13.1, z13.2.1, z13.2.2.1, false, aG (z13.2.2.2.2 + 1)) else none else bif !z13.2.2.2.1 then some true else aD (gI ((z13.2.1.1, z13.2.2.1.2), z13.2.1)) fun r17 => some r17) (z3.2.1, z3.1, r6, false, 0)) (r1.1, r1.2, 0)
def sU (x : List Int) : Option (List bO) := aD (aAq x) fun r1 => aD (aL (r1, 40)) fun r2 => bif r2.2 == 0 then aD (aL (r2.1, 2)) fun r3 => bif aHe (aG (60 + r3.2)) 56 then some (List.replicate (aG (60 + r3.2)).toNat (0, 0, 0, emptyS, 0, 0)) else none else aD (wY (r2.1, 20)) fun r4 => some r4.2
def aFg (x : cK) : Option (cK × List aI) := aD (aD7 x) fun r1 => aD (kY r1) fun r2 => aD (aL (r2.1.1, 12)) fun r3 => bif r3.2 == 0 then aD (aL (r3.1, (r2.2.length : Int))) fun r4 => aD (aL (r4.1, 2)) fun r5 => bif inb r5.2 ([0, 5] : List Int).length then bif inb r4.2 r2.2.length then let v6 : List aI := dP r2.2 r4.2 (aV ([0, 5] : List Int) r5.2, (aJ r2.2 r4.2).2); some (r5.1, v6) else none else none else bif r3.2 == 1 then aD (aL (r3.1, (r2.2.length : Int))) fun r7 => aD (aL (r7.1, 3)) fun r8 => bif inb r8.2 ([(-1), 32, 31] : List Int).length then bif inb r7.2 r2.2.length then let v9 : List aI := dP r2.2 r7.2 ((aJ r2.2 r7.2).1, aV ([(-1), 32, 31] : List Int) r8.2, (aJ r2.2 r7.2).2.2); some (r8.1, v9) else none else none else bif r3.2 == 2 then aD (aL (r3.1, (r2.2.length : Int))) fun r10 => aD (aL (r10.1, 4)) fun r11 => bif inb r11.2 ([(-10000), 10000, 9999, (-9999)] : List Int).length then let v12 : Int := aV ([(-10000), 10000, 9999, (-9999)] : List Int) r11.2; bif inb r10.2 r2.2.length then let v13 : List aI := dP r2.2 r10.2 ((aJ r2.2 r10.2).1, (aJ r2.2 r10.2).2.1, v12); some (r11.1, v13) else none else none else bif r3.2 == 3 then bE (fun (L14 : (cK × List aI) → Option _) (z15 : cK × List aI) => aD (aL (z15.1, 2)) fun r16 => let v17 : Bool := decide ((z15.2.length : Int) < (aG (6 + r16.2))); bif v17 then aD (aL (r16.1, 8)) fun r18 => bif fits (z15.2.length + ([(1, r18.2, 0)] : List aI).length) 24 then L14 (r18.1, z15.2 ++ ([(1, r18.2, 0)] : List aI)) else none else some (r16.1, z15.2)) (r3.1, r2.2) else bif r3.2 == 4 then some (r3.1, []) else some (r3.1, r2.2)
def qR (x : List Int) : Option (List aI) := aD (aAq x) fun r1 => aD (aFg r1) fun r2 => some r2.2
def aCv (x : Unit) : Option fT := bif decide (0 < 8) then bif !(3 == 0) then bif inb 0 8 then bif decide ((aG (0 + 1)) < 8) then bif !(3 == 0) then bif inb (aG (0 + 1)) 8 then let v1 : List Int := dP (dP (List.replicate 8 0) 0 (Int.tmod 0 3)) (aG (0 + 1)) (Int.tmod (aG (0 + 1)) 3); bif decide ((aG ((aG (0 + 1)) + 1)) < 8) then bif !(3 == 0) then bif inb (aG ((aG (0 + 1)) + 1)) 8 then let v2 : List Int := dP v1 (aG ((aG (0 + 1)) + 1)) (Int.tmod (aG ((aG (0 + 1)) + 1)) 3); let v3 : Bool := decide ((aG ((aG ((aG (0 + 1)) + 1)) + 1)) < 8); bif v3 then bif !(3 == 0) then let v4 : Int := Int.tmod (aG ((aG ((aG (0 + 1)) + 1)) + 1)) 3; bif inb (aG ((aG ((aG (0 + 1)) + 1)) + 1)) 8 then let v5 : List Int := dP v2 (aG ((aG ((aG (0 + 1)) + 1)) + 1)) v4; let v6 : Int := aG ((aG ((aG ((aG (0 + 1)) + 1)) + 1)) + 1); bif decide (v6 < 8) then bif !(3 == 0) then bif inb v6 8 then bif decide ((aG (v6 + 1)) < 8) then bif !(3 == 0) then bif inb (aG (v6 + 1)) 8 then let v7 : List Int := dP (dP v5 v6 (Int.tmod v6 3)) (aG (v6 + 1)) (Int.tmod (aG (v6 + 1)) 3); bif decide ((aG ((aG (v6 + 1)) + 1)) < 8) then bif !(3 == 0) then bif inb (aG ((aG (v6 + 1)) + 1)) 8 then let v8 : List Int := dP v7 (aG ((aG (v6 + 1)) + 1)) (Int.tmod (aG ((aG (v6 + 1)) + 1)) 3); let v9 : Bool := decide ((aG ((aG ((aG (v6 + 1)) + 1)) + 1)) < 8); bif v9 then bif !(3 == 0) then let v10 : Int := Int.tmod (aG ((aG ((aG (v6 + 1)) + 1)) + 1)) 3; bif inb (aG ((aG ((aG (v6 + 1)) + 1)) + 1)) 8 then let v11 : List Int := dP v8 (aG ((aG ((aG (v6 + 1)) + 1)) + 1)) v10; let v12 : Int := aG ((aG ((aG ((aG (v6 + 1)) + 1)) + 1)) + 1); bif decide (v12 < 8) then bif !(3 == 0) then bif inb v12 8 then none else none else none else aD (slices_Clone_int v11) fun r13 => some (1, r13) else none else none else aD (slices_Clone_int v8) fun r14 => some (1, r14) else none else none else aD (slices_Clone_int v7) fun r15 => some (1, r15) else none else none else aD (slices_Clone_int (dP v5 v6 (Int.tmod v6 3))) fun r16 => some (1, r16) else none else none else aD (slices_Clone_int v5) fun r17 => some (1, r17) else none else none else aD (slices_Clone_int v2) fun r18 => some (1, r18) else none else none else aD (slices_Clone_int v1) fun r19 => some (1, r19) else none else none else aD (slices_Clone_int (dP (List.replicate 8 0) 0 (Int.tmod 0 3))) fun r20 => some (1, r20) else none else none else aD (slices_Clone_int (List.replicate 8 0)) fun r21 => some (1, r21)
def vZ (x : Unit) : Option bC := aD (aCv ()) fun r1 => some (0, r1.1, r1.2, [], [])
def aF3 (x : List bO) : Option bC := bif decide ((x.length : Int) > 60) then some (0, 0, [], [], []) else aD (vZ ()) fun r1 => bE (fun (L2 : (bC × bC × Int) → Option _) (z3 : bC × bC × Int) => bif decide (z3.2.2 < (x.length : Int)) then bif inb z3.2.2 x.length then aD (mR (z3.2.1, (aIf x z3.2.2))) fun r4 => L2 (z3.1, r4, aG (z3.2.2 + 1)) else none else some z3.2.1) ((0, 0, [], [], []), r1, 0)
def w_FnBooksSwap (x : List Int × List Int) : Option Bool := bif decide ((x.1.length : Int) > 1048576) then some true else bif decide ((x.2.length : Int) > 1048576) then some true else aD (sU x.1) fun r1 => aD (qR x.1) fun r2 => aD (qR x.2) fun r3 => aD (iP r2) fun r4 => aD (iP r3) fun r5 => aD (rZ r1) fun r6 => aD (aF3 r1) fun r7 => aD (gI (r7, r6)) fun r8 => bif !r8 then aD (gI (r7, r6)) fun r9 => some r9 else bif decide ((aG ((r1.length : Int) + 2)) > 60) then aD (gI (r7, r6)) fun r10 => some r10 else aD (mF (0, 98, 1, r4, 0, 0)) fun r11 => bif !r11 then aD (gI (r7, r6)) fun r12 => some r12 else aD (mF (1, 98, 1, r5, 0, 0)) fun r13 => bif !r13 then aD (gI (r7, r6)) fun r14 => some r14 else bE (fun (L15 : (List aI × List aI × bO × bO × bC × Int) → Option _) (z16 : List aI × List aI × bO × bO × bC × Int) => bif decide (z16.2.2.2.2.2 < (z16.1.length : Int)) then bE (fun (L17 : (bC × bO × bO × List aI × List aI × Int) → Option _) (z18 : bC × bO × bO × List aI × List aI × Int) => let v19 : Bool := decide (z18.2.2.2.2.2 < (z18.2.2.2.1.length : Int)); bif v19 then bif inb z16.2.2.2.2.2 z18.2.2.2.2.1.length then bif inb z18.2.2.2.2.2 z18.2.2.2.1.length then let v20 : Bool := (aJ z18.2.2.2.2.1 z16.2.2.2.2.2).2.1 == (aJ z18.2.2.2.1 z18.2.2.2.2.2).2.1; bif v20 then some true else L17 (z18.1, z18.2.1, z18.2.2.1, z18.2.2.2.1, z18.2.2.2.2.1, aG (z18.2.2.2.2.2 + 1)) else none else none else L15 (z18.2.2.2.2.1, z18.2.2.2.1, z18.2.2.1, z18.2.1, z18.1, aG (z16.2.2.2.2.2 + 1))) (z16.2.2.2.2.1, z16.2.2.2.1, z16.2.2.1, z16.2.1, z16.1, 0) else aD (mR (z16.2.2.2.2.1, z16.2.2.1)) fun r21 => aD (mR (r21, z16.2.2.2.1)) fun r22 => aD (mR (z16.2.2.2.2.1, z16.2.2.2.1)) fun r23 => aD (mR (r23, z16.2.2.1)) fun r24 => aD (gI (r22, r24)) fun r25 => some r25) (r2, r3, (0, 98, 1, r4, 0, 0), (1, 98, 1, r5, 0, 0), r7, 0)
end Ab
end
section
namespace Go.Proofs
open Go.Shelf
def Tryz.laysCut_ren : Go.Shelf.Ren := ⟨fun | 145 => 78 | 220 => 102 | 219 => 122 | 217 => 145 | 225 => 146 | 224 => 147 | 267 => 148 | 266 => 174 | 314 => 175 | n => n, fun | 9 => 9 | 4 => 4 | 59 => 110 | 3 => 3 | 5 => 5 | 46 => 153 | 146 => 243 | 51 => 227 | n => n, fun | 1 => 0 | n => n⟩
theorem Tryz.laysCut : Go.Proofs.Lays.n145 Tryz.prog Tryz.laysCut_ren := {
 mixed := by kernel_rfl
 f145 := Tryz.func78.trans (congrArg some (by kernel_rfl))
 f217 := Tryz.func145.trans (congrArg some (by kernel_rfl))
 f219 := Tryz.func122.trans (congrArg some (by kernel_rfl))
 f220 := Tryz.func102.trans (congrArg some (by kernel_rfl))
 f224 := Tryz.func147.trans (congrArg some (by kernel_rfl))
 f225 := Tryz.func146.trans (congrArg some (by kernel_rfl))
 f266 := Tryz.func174.trans (congrArg some (by kernel_rfl))
 f267 := Tryz.func148.trans (congrArg some (by kernel_rfl))
 f314 := Tryz.func175.trans (congrArg some (by kernel_rfl))
 t3 := Tryz.underlying3
 a3 := Tryz.isAgg3
 z3 := Tryz.sizeOf3
 v3 := Tryz.zeroValue3
 t4 := Tryz.underlying4
 a4 := Tryz.isAgg4
 z4 := Tryz.sizeOf4
 v4 := Tryz.zeroValue4
 t5 := Tryz.underlying5
 a5 := Tryz.isAgg5
 z5 := Tryz.sizeOf5
 v5 := Tryz.zeroValue5
 t9 := Tryz.underlying9
 a9 := Tryz.isAgg9
 z9 := Tryz.sizeOf9
 v9 := Tryz.zeroValue9
 t46 := Tryz.underlying153
 a46 := Tryz.isAgg153
 z46 := Tryz.sizeOf153
 v46 := Tryz.zeroValue153
 t51 := Tryz.underlying227
 a51 := Tryz.isAgg227
 z51 := Tryz.sizeOf227
 v51 := Tryz.zeroValue227
 t59 := Tryz.underlying110
 a59 := Tryz.isAgg110
 z59 := Tryz.sizeOf110
 v59 := Tryz.zeroValue110
 t146 := Tryz.underlying243
 a146 := Tryz.isAgg243
 z146 := Tryz.sizeOf243
 v146 := Tryz.zeroValue243
 g1 := by kernel_rfl }
def Tryz.laysSplit_ren : Go.Shelf.Ren := ⟨fun | 146 => 103 | 221 => 123 | 268 => 149 | 138 => 150 | 143 => 151 | 195 => 176 | 197 => 177 | 218 => 178 | 219 => 122 | 260 => 195 | 217 => 145 | 225 => 146 | 224 => 147 | 267 => 148 | 266 => 174 | 314 => 175 | n => n, fun | 9 => 9 | 31 => 85 | 3 => 3 | 4 => 4 | 0 => 0 | 105 => 246 | 21 => 21 | 5 => 5 | 46 => 153 | 119 => 290 | 139 => 293 | 138 => 292 | 146 => 243 | 51 => 227 | n => n, fun | 1 => 0 | 3 => 3 | 4 => 4 | n => n⟩
theorem Tryz.laysSplit : Go.Proofs.Lays.n146 Tryz.prog Tryz.laysSplit_ren := {
 mixed := by kernel_rfl
 f138 := Tryz.func150.trans (congrArg some (by kernel_rfl))
 f143 := Tryz.func151.trans (congrArg some (by kernel_rfl))
 f146 := Tryz.func103.trans (congrArg some (by kernel_rfl))
 f195 := Tryz.func176.trans (congrArg some (by kernel_rfl))
 f197 := Tryz.func177.trans (congrArg some (by kernel_rfl))
 f217 := Tryz.func145.trans (congrArg some (by kernel_rfl))
 f218 := Tryz.func178.trans (congrArg some (by kernel_rfl))
 f219 := Tryz.func122.trans (congrArg some (by kernel_rfl))
 f221 := Tryz.func123.trans (congrArg some (by kernel_rfl))
 f224 := Tryz.func147.trans (congrArg some (by kernel_rfl))
 f225 := Tryz.func146.trans (congrArg some (by kernel_rfl))
 f260 := Tryz.func195.trans (congrArg some (by kernel_rfl))
 f266 := Tryz.func174.trans (congrArg some (by kernel_rfl))
 f267 := Tryz.func148.trans (congrArg some (by kernel_rfl))
 f268 := Tryz.func149.trans (congrArg some (by kernel_rfl))
 f314 := Tryz.func175.trans (congrArg some (by kernel_rfl))
 t0 := Tryz.underlying0
 a0 := Tryz.isAgg0
 z0 := Tryz.sizeOf0
 v0 := Tryz.zeroValue0
 t3 := Tryz.underlying3
 a3 := Tryz.isAgg3
 z3 := Tryz.sizeOf3
 v3 := Tryz.zeroValue3
 t4 := Tryz.underlying4
 a4 := Tryz.isAgg4
 z4 := Tryz.sizeOf4
 v4 := Tryz.zeroValue4
 t5 := Tryz.underlying5
 a5 := Tryz.isAgg5
 z5 := Tryz.sizeOf5
 v5 := Tryz.zeroValue5
 t9 := Tryz.underlying9
 a9 := Tryz.isAgg9
 z9 := Tryz.sizeOf9
 v9 := Tryz.zeroValue9
 t21 := Tryz.underlying21
 a21 := Tryz.isAgg21
 z21 := Tryz.sizeOf21
 v21 := Tryz.zeroValue21
 t31 := Tryz.underlying85
 a31 := Tryz.isAgg85
 z31 := Tryz.sizeOf85
 v31 := Tryz.zeroValue85
 t46 := Tryz.underlying153
 a46 := Tryz.isAgg153
 z46 := Tryz.sizeOf153
 v46 := Tryz.zeroValue153
 t51 := Tryz.underlying227
 a51 := Tryz.isAgg227
 z51 := Tryz.sizeOf227
 v51 := Tryz.zeroValue227
 t105 := Tryz.underlying246
 a105 := Tryz.isAgg246
 z105 := Tryz.sizeOf246
 v105 := Tryz.zeroValue246
 t119 := Tryz.underlying290
 a119 := Tryz.isAgg290
 z119 := Tryz.sizeOf290
 t138 := Tryz.underlying292
 a138 := Tryz.isAgg292
 z138 := Tryz.sizeOf292
 v138 := Tryz.zeroValue292
 t139 := Tryz.underlying293
 a139 := Tryz.isAgg293
 z139 := Tryz.sizeOf293
 v139 := Tryz.zeroValue293
 t146 := Tryz.underlying243
 a146 := Tryz.isAgg243
 z146 := Tryz.sizeOf243
 v146 := Tryz.zeroValue243
 g1 := by kernel_rfl
 g3 := by kernel_rfl
 g4 := by kernel_rfl }
def Tryz.laysAtoi_ren : Go.Shelf.Ren := ⟨fun | 172 => 105 | 244 => 124 | 245 => 125 | 247 => 152 | 279 => 153 | 280 => 154 | 281 => 155 | 282 => 156 | 287 => 179 | 316 => 180 | 171 => 182 | 205 => 181 | 321 => 196 | 322 => 197 | 243 => 198 | 246 => 213 | 283 => 231 | 284 => 232 | 285 => 233 | 286 => 234 | 129 => 168 | 317 => 272 | 318 => 273 | 319 => 274 | 320 => 275 | 337 => 290 | 338 => 291 | n => n, fun | 9 => 9 | 3 => 3 | 75 => 157 | 76 => 158 | 4 => 4 | 5 => 5 | 167 => 210 | 37 => 22 | 0 => 0 | 85 => 211 | 2 => 2 | 168 => 213 | 53 => 229 | 175 => 248 | 46 => 153 | 210 => 252 | 127 => 189 | 145 => 269 | 143 => 267 | 21 => 21 | 171 => 309 | 173 => 311 | 212 => 345 | 51 => 227 | 20 => 20 | 213 => 346 | 232 => 364 | 233 => 365 | 80 => 163 | n => n, fun | 15 => 1 | 16 => 2 | 17 => 5 | 18 => 6 | 19 => 7 | n => n⟩
theorem Tryz.laysAtoi : Go.Proofs.LaysC.n172 Tryz.prog Tryz.laysAtoi_ren := {
 mixed := by kernel_rfl
 f129 := Tryz.func168.trans (congrArg some (by kernel_rfl))
 f171 := Tryz.func182.trans (congrArg some (by kernel_rfl))
 f172 := Tryz.func105.trans (congrArg some (by kernel_rfl))
 f205 := Tryz.func181.trans (congrArg some (by kernel_rfl))
 f243 := Tryz.func198.trans (congrArg some (by kernel_rfl))
 f244 := Tryz.func124.trans (congrArg some (by kernel_rfl))
 f245 := Tryz.func125.trans (congrArg some (by kernel_rfl))
 f246 := Tryz.func213.trans (congrArg some (by kernel_rfl))
 f247 := Tryz.func152.trans (congrArg some (by kernel_rfl))
 f279 := Tryz.func153.trans (congrArg some (by kernel_rfl))
 f280 := Tryz.func154.trans (congrArg some (by kernel_rfl))
 f281 := Tryz.func155.trans (congrArg some (by kernel_rfl))
 f282 := Tryz.func156.trans (congrArg some (by kernel_rfl))
 f283 := Tryz.func231.trans (congrArg some (by kernel_rfl))
 f284 := Tryz.func232.trans (congrArg some (by kernel_rfl))
 f285 := Tryz.func233.trans (congrArg some (by kernel_rfl))
 f286 := Tryz.func234.trans (congrArg some (by kernel_rfl))
 f287 := Tryz.func179.trans (congrArg some (by kernel_rfl))
 f316 := Tryz.func180.trans (congrArg some (by kernel_rfl))
 f317 := Tryz.func272.trans (congrArg some (by kernel_rfl))
 f318 := Tryz.func273.trans (congrArg some (by kernel_rfl))
 f319 := Tryz.func274.trans (congrArg some (by kernel_rfl))
 f320 := Tryz.func275.trans (congrArg some (by kernel_rfl))
 f321 := Tryz.func196.trans (congrArg some (by kernel_rfl))
 f322 := Tryz.func197.trans (congrArg some (by kernel_rfl))
 f337 := Tryz.func290.trans (congrArg some (by kernel_rfl))
 f338 := Tryz.func291.trans (congrArg some (by kernel_rfl))
 t0 := Tryz.underlying0
 a0 := Tryz.isAgg0
 z0 := Tryz.sizeOf0
 v0 := Tryz.zeroValue0
 t2 := Tryz.underlying2
 a2 := Tryz.isAgg2
 z2 := Tryz.sizeOf2
 v2 := Tryz.zeroValue2
 t3 := Tryz.underlying3
 a3 := Tryz.isAgg3
 z3 := Tryz.sizeOf3
 v3 := Tryz.zeroValue3
 t4 := Tryz.underlying4
 a4 := Tryz.isAgg4
 z4 := Tryz.sizeOf4
 v4 := Tryz.zeroValue4
 t5 := Tryz.underlying5
 a5 := Tryz.isAgg5
 z5 := Tryz.sizeOf5
 v5 := Tryz.zeroValue5
 t9 := Tryz.underlying9
 a9 := Tryz.isAgg9
 z9 := Tryz.sizeOf9
 v9 := Tryz.zeroValue9
 t20 := Tryz.underlying20
 a20 := Tryz.isAgg20
 z20 := Tryz.sizeOf20
 v20 := Tryz.zeroValue20
 t21 := Tryz.underlying21
 a21 := Tryz.isAgg21
 z21 := Tryz.sizeOf21
 v21 := Tryz.zeroValue21
 t37 := Tryz.underlying22
 a37 := Tryz.isAgg22
 z37 := Tryz.sizeOf22
 v37 := Tryz.zeroValue22
 t46 := Tryz.underlying153
 a46 := Tryz.isAgg153
 z46 := Tryz.sizeOf153
 v46 := Tryz.zeroValue153
 t51 := Tryz.underlying227
 a51 := Tryz.isAgg227
 z51 := Tryz.sizeOf227
 v51 := Tryz.zeroValue227
 t53 := Tryz.underlying229
 a53 := Tryz.isAgg229
 z53 := Tryz.sizeOf229
 v53 := Tryz.zeroValue229
 t75 := Tryz.underlying157
 a75 := Tryz.isAgg157
 z75 := Tryz.sizeOf157
 v75 := Tryz.zeroValue157
 t76 := Tryz.underlying158
 a76 := Tryz.isAgg158
 z76 := Tryz.sizeOf158
 v76 := Tryz.zeroValue158
 t85 := Tryz.underlying211
 a85 := Tryz.isAgg211
 z85 := Tryz.sizeOf211
 v85 := Tryz.zeroValue211
 t127 := Tryz.underlying189
 a127 := Tryz.isAgg189
 z127 := Tryz.sizeOf189
 v127 := Tryz.zeroValue189
 t143 := Tryz.underlying267
 a143 := Tryz.isAgg267
 z143 := Tryz.sizeOf267
 v143 := Tryz.zeroValue267
 t145 := Tryz.underlying269
 a145 := Tryz.isAgg269
 z145 := Tryz.sizeOf269
 v145 := Tryz.zeroValue269
 t167 := Tryz.underlying210
 a167 := Tryz.isAgg210
 z167 := Tryz.sizeOf210
 v167 := Tryz.zeroValue210
 t168 := Tryz.underlying213
 a168 := Tryz.isAgg213
 z168 := Tryz.sizeOf213
 v168 := Tryz.zeroValue213
 t171 := Tryz.underlying309
 a171 := Tryz.isAgg309
 z171 := Tryz.sizeOf309
 v171 := Tryz.zeroValue309
 t173 := Tryz.underlying311
 a173 := Tryz.isAgg311
 z173 := Tryz.sizeOf311
 v173 := Tryz.zeroValue311
 t175 := Tryz.underlying248
 a175 := Tryz.isAgg248
 z175 := Tryz.sizeOf248
 v175 := Tryz.zeroValue248
 t210 := Tryz.underlying252
 a210 := Tryz.isAgg252
 z210 := Tryz.sizeOf252
 v210 := Tryz.zeroValue252
 t212 := Tryz.underlying345
 a212 := Tryz.isAgg345
 z212 := Tryz.sizeOf345
 v212 := Tryz.zeroValue345
 t213 := Tryz.underlying346
 a213 := Tryz.isAgg346
 z213 := Tryz.sizeOf346
 t232 := Tryz.underlying364
 a232 := Tryz.isAgg364
 z232 := Tryz.sizeOf364
 v232 := Tryz.zeroValue364
 t233 := Tryz.underlying365
 a233 := Tryz.isAgg365
 z233 := Tryz.sizeOf365
 v233 := Tryz.zeroValue365
 g15 := by kernel_rfl
 g16 := by kernel_rfl
 g17 := by kernel_rfl
 g18 := by kernel_rfl
 g19 := by kernel_rfl
 t80 := Tryz.underlying163
 a80 := Tryz.isAgg163
 z80 := Tryz.sizeOf163
 v80 := Tryz.zeroValue163
 i0 := by kernel_rfl
 i2 := by kernel_rfl
 i3 := by kernel_rfl
 i4 := by kernel_rfl
 i5 := by kernel_rfl
 i9 := by kernel_rfl
 i20 := by kernel_rfl
 i21 := by kernel_rfl
 i37 := by kernel_rfl
 i46 := by kernel_rfl
 i51 := by kernel_rfl
 i53 := by kernel_rfl
 i75 := by kernel_rfl
 i76 := by kernel_rfl
 i80 := by kernel_rfl
 i85 := by kernel_rfl
 i127 := by kernel_rfl
 i143 := by kernel_rfl
 i145 := by kernel_rfl
 i167 := by kernel_rfl
 i168 := by kernel_rfl
 i171 := by kernel_rfl
 i173 := by kernel_rfl
 i175 := by kernel_rfl
 i210 := by kernel_rfl
 i212 := by kernel_rfl
 i232 := by kernel_rfl
 i233 := by kernel_rfl
 m15 := by kernel_rfl
 m16 := by kernel_rfl
 m17 := by kernel_rfl
 m18 := by kernel_rfl
 m19 := by kernel_rfl
 c0 := by kernel_rfl
 c2 := by kernel_rfl
 c3 := by kernel_rfl
 c4 := by kernel_rfl
 c5 := by kernel_rfl
 c9 := by kernel_rfl
 c20 := by kernel_rfl
 c21 := by kernel_rfl
 c37 := by kernel_rfl
 c46 := by kernel_rfl
 c51 := by kernel_rfl
 c53 := by kernel_rfl
 c75 := by kernel_rfl
 c76 := by kernel_rfl
 c80 := by kernel_rfl
 c85 := by kernel_rfl
 c127 := by kernel_rfl
 c143 := by kernel_rfl
 c145 := by kernel_rfl
 c167 := by kernel_rfl
 c168 := by kernel_rfl
 c171 := by kernel_rfl
 c173 := by kernel_rfl
 c175 := by kernel_rfl
 c210 := by kernel_rfl
 c212 := by kernel_rfl
 c213 := by kernel_rfl
 c232 := by kernel_rfl
 c233 := by kernel_rfl }
def Tryz.laysItoa_ren : Go.Shelf.Ren := ⟨fun | 171 => 182 | 243 => 198 | 246 => 213 | 283 => 231 | 284 => 232 | 285 => 233 | 286 => 234 | 129 => 168 | 317 => 272 | 318 => 273 | 319 => 274 | 320 => 275 | 337 => 290 | 338 => 291 | n => n, fun | 3 => 3 | 9 => 9 | 2 => 2 | 4 => 4 | 171 => 309 | 0 => 0 | 53 => 229 | 37 => 22 | 5 => 5 | 173 => 311 | 212 => 345 | 51 => 227 | 20 => 20 | 213 => 346 | 46 => 153 | 232 => 364 | 233 => 365 | n => n, fun | 17 => 5 | 18 => 6 | 19 => 7 | n => n⟩
theorem Tryz.laysItoa : Go.Proofs.LaysM.n171 Tryz.prog Tryz.laysItoa_ren := {
 mixed := by kernel_rfl
 f129 := Tryz.func168.trans (congrArg some (by kernel_rfl))
 f171 := Tryz.func182.trans (congrArg some (by kernel_rfl))
 f243 := Tryz.func198.trans (congrArg some (by kernel_rfl))
 f246 := Tryz.func213.trans (congrArg some (by kernel_rfl))
 f283 := Tryz.func231.trans (congrArg some (by kernel_rfl))
 f284 := Tryz.func232.trans (congrArg some (by kernel_rfl))
 f285 := Tryz.func233.trans (congrArg some (by kernel_rfl))
 f286 := Tryz.func234.trans (congrArg some (by kernel_rfl))
 f317 := Tryz.func272.trans (congrArg some (by kernel_rfl))
 f318 := Tryz.func273.trans (congrArg some (by kernel_rfl))
 f319 := Tryz.func274.trans (congrArg some (by kernel_rfl))
 f320 := Tryz.func275.trans (congrArg some (by kernel_rfl))
 f337 := Tryz.func290.trans (congrArg some (by kernel_rfl))
 f338 := Tryz.func291.trans (congrArg some (by kernel_rfl))
 t0 := Tryz.underlying0
 a0 := Tryz.isAgg0
 z0 := Tryz.sizeOf0
 v0 := Tryz.zeroValue0
 t2 := Tryz.underlying2
 a2 := Tryz.isAgg2
 z2 := Tryz.sizeOf2
 v2 := Tryz.zeroValue2
 t3 := Tryz.underlying3
 a3 := Tryz.isAgg3
 z3 := Tryz.sizeOf3
 v3 := Tryz.zeroValue3
 t4 := Tryz.underlying4
 a4 := Tryz.isAgg4
 z4 := Tryz.sizeOf4
 v4 := Tryz.zeroValue4
 t5 := Tryz.underlying5
 a5 := Tryz.isAgg5
 z5 := Tryz.sizeOf5
 v5 := Tryz.zeroValue5
 t9 := Tryz.underlying9
 a9 := Tryz.isAgg9
 z9 := Tryz.sizeOf9
 v9 := Tryz.zeroValue9
 t20 := Tryz.underlying20
 a20 := Tryz.isAgg20
 z20 := Tryz.sizeOf20
 v20 := Tryz.zeroValue20
 t37 := Tryz.underlying22
 a37 := Tryz.isAgg22
 z37 := Tryz.sizeOf22
 v37 := Tryz.zeroValue22
 t46 := Tryz.underlying153
 a46 := Tryz.isAgg153
 z46 := Tryz.sizeOf153
 v46 := Tryz.zeroValue153
 t51 := Tryz.underlying227
 a51 := Tryz.isAgg227
 z51 := Tryz.sizeOf227
 v51 := Tryz.zeroValue227
 t53 := Tryz.underlying229
 a53 := Tryz.isAgg229
 z53 := Tryz.sizeOf229
 v53 := Tryz.zeroValue229
 t171 := Tryz.underlying309
 a171 := Tryz.isAgg309
 z171 := Tryz.sizeOf309
 v171 := Tryz.zeroValue309
 t173 := Tryz.underlying311
 a173 := Tryz.isAgg311
 z173 := Tryz.sizeOf311
 v173 := Tryz.zeroValue311
 t212 := Tryz.underlying345
 a212 := Tryz.isAgg345
 z212 := Tryz.sizeOf345
 v212 := Tryz.zeroValue345
 t213 := Tryz.underlying346
 a213 := Tryz.isAgg346
 z213 := Tryz.sizeOf346
 t232 := Tryz.underlying364
 a232 := Tryz.isAgg364
 z232 := Tryz.sizeOf364
 v232 := Tryz.zeroValue364
 t233 := Tryz.underlying365
 a233 := Tryz.isAgg365
 z233 := Tryz.sizeOf365
 v233 := Tryz.zeroValue365
 g17 := by kernel_rfl
 g18 := by kernel_rfl
 g19 := by kernel_rfl
 i0 := by kernel_rfl
 i2 := by kernel_rfl
 i3 := by kernel_rfl
 i4 := by kernel_rfl
 i5 := by kernel_rfl
 i9 := by kernel_rfl
 i20 := by kernel_rfl
 i37 := by kernel_rfl
 i46 := by kernel_rfl
 i51 := by kernel_rfl
 i53 := by kernel_rfl
 i171 := by kernel_rfl
 i173 := by kernel_rfl
 i212 := by kernel_rfl
 i232 := by kernel_rfl
 i233 := by kernel_rfl
 m17 := by kernel_rfl
 m18 := by kernel_rfl
 m19 := by kernel_rfl }
def Tryz.laysStr_ren : Go.Shelf.Ren := ⟨fun | 169 => 107 | n => n, fun | 70 => 160 | 9 => 9 | 0 => 0 | 72 => 162 | 37 => 22 | 127 => 189 | 3 => 3 | 5 => 5 | n => n, fun | n => n⟩
theorem Tryz.laysStr : Go.Proofs.Lays.n169 Tryz.prog Tryz.laysStr_ren := {
 mixed := by kernel_rfl
 f169 := Tryz.func107.trans (congrArg some (by kernel_rfl))
 t0 := Tryz.underlying0
 a0 := Tryz.isAgg0
 z0 := Tryz.sizeOf0
 v0 := Tryz.zeroValue0
 t3 := Tryz.underlying3
 a3 := Tryz.isAgg3
 z3 := Tryz.sizeOf3
 v3 := Tryz.zeroValue3
 t9 := Tryz.underlying9
 a9 := Tryz.isAgg9
 z9 := Tryz.sizeOf9
 v9 := Tryz.zeroValue9
 t37 := Tryz.underlying22
 a37 := Tryz.isAgg22
 z37 := Tryz.sizeOf22
 v37 := Tryz.zeroValue22
 t70 := Tryz.underlying160
 a70 := Tryz.isAgg160
 z70 := Tryz.sizeOf160
 v70 := Tryz.zeroValue160
 t72 := Tryz.underlying162
 a72 := Tryz.isAgg162
 z72 := Tryz.sizeOf162
 v72 := Tryz.zeroValue162
 t127 := Tryz.underlying189
 a127 := Tryz.isAgg189
 z127 := Tryz.sizeOf189
 v127 := Tryz.zeroValue189 }
def Tryz.keysA_ren : Go.Shelf.Ren := ⟨fun | 7 => 87 | 10 => 114 | n => n, fun | 23 => 70 | 26 => 3 | 3 => 3 | 28 => 129 | 0 => 0 | 27 => 128 | 33 => 99 | 4 => 4 | n => n, fun | n => n⟩
theorem Tryz.keysA : Go.Proofs.SlLaysZI.n7 Tryz.prog Tryz.keysA_ren := {
 mixed := by kernel_rfl
 f7 := ⟨Tryz.f87.name, by decide, Tryz.func87.trans (congrArg some (by kernel_rfl))⟩
 f10 := ⟨Tryz.f114.name, by decide, Tryz.func114.trans (congrArg some (by kernel_rfl))⟩
 t0 := Tryz.underlying0
 a0 := Tryz.isAgg0
 z0 := Tryz.sizeOf0
 v0 := Tryz.zeroValue0
 t4 := Tryz.underlying4
 a4 := Tryz.isAgg4
 z4 := Tryz.sizeOf4
 v4 := Tryz.zeroValue4
 t23 := Tryz.underlying70
 a23 := Tryz.isAgg70
 z23 := Tryz.sizeOf70
 v23 := Tryz.zeroValue70
 t26 := Tryz.underlying3
 a26 := Tryz.isAgg3
 z26 := Tryz.sizeOf3
 v26 := Tryz.zeroValue3
 t27 := Tryz.underlying128
 a27 := Tryz.isAgg128
 z27 := Tryz.sizeOf128
 v27 := Tryz.zeroValue128
 t28 := Tryz.underlying129
 a28 := Tryz.isAgg129
 z28 := Tryz.sizeOf129
 v28 := Tryz.zeroValue129
 t33 := Tryz.underlying99
 a33 := Tryz.isAgg99
 z33 := Tryz.sizeOf99
 v33 := Tryz.zeroValue99 }
def Tryz.sortedA_ren : Go.Shelf.Ren := ⟨fun | 6 => 86 | 8 => 112 | 9 => 113 | 11 => 127 | 13 => 129 | 12 => 128 | 23 => 167 | 24 => 168 | 14 => 158 | 15 => 159 | 16 => 160 | 17 => 161 | 18 => 162 | 19 => 163 | 20 => 164 | 21 => 165 | 22 => 166 | 25 => 183 | 26 => 184 | 27 => 185 | 28 => 186 | 29 => 187 | 30 => 101 | 31 => 199 | n => n, fun | 26 => 3 | 28 => 129 | 24 => 23 | 0 => 0 | 3 => 3 | 37 => 153 | 48 => 227 | 50 => 229 | 4 => 4 | 40 => 220 | 39 => 219 | 45 => 67 | 5 => 5 | 9 => 9 | 51 => 254 | 55 => 258 | 57 => 270 | 58 => 271 | 33 => 99 | n => n, fun | n => n⟩
theorem Tryz.sortedA : Go.Proofs.SlLaysZI.n6 Tryz.prog Tryz.sortedA_ren := {
 mixed := by kernel_rfl
 f6 := ⟨Tryz.f86.name, by decide, Tryz.func86.trans (congrArg some (by kernel_rfl))⟩
 f8 := ⟨Tryz.f112.name, by decide, Tryz.func112.trans (congrArg some (by kernel_rfl))⟩
 f11 := ⟨Tryz.f127.name, by decide, Tryz.func127.trans (congrArg some (by kernel_rfl))⟩
 t0 := Tryz.underlying0
 a0 := Tryz.isAgg0
 z0 := Tryz.sizeOf0
 v0 := Tryz.zeroValue0
 t24 := Tryz.underlying23
 a24 := Tryz.isAgg23
 z24 := Tryz.sizeOf23
 v24 := Tryz.zeroValue23
 t26 := Tryz.underlying3
 a26 := Tryz.isAgg3
 z26 := Tryz.sizeOf3
 v26 := Tryz.zeroValue3
 t28 := Tryz.underlying129
 a28 := Tryz.isAgg129
 z28 := Tryz.sizeOf129
 v28 := Tryz.zeroValue129
 i26 := by kernel_rfl }
def Tryz.sortA_ren : Go.Shelf.Ren := ⟨fun | 5 => 113 | 8 => 129 | 7 => 128 | 19 => 167 | 20 => 168 | 10 => 158 | 11 => 159 | 12 => 160 | 13 => 161 | 14 => 162 | 15 => 163 | 16 => 164 | 17 => 165 | 18 => 166 | 30 => 183 | 31 => 184 | 32 => 185 | 33 => 186 | 34 => 187 | 35 => 101 | 40 => 199 | n => n, fun | 23 => 23 | 25 => 3 | 3 => 3 | 32 => 153 | 22 => 23 | 0 => 0 | 44 => 227 | 46 => 229 | 4 => 4 | 36 => 220 | 35 => 219 | 41 => 67 | 5 => 5 | 9 => 9 | 53 => 254 | 57 => 258 | 63 => 270 | 64 => 271 | n => n, fun | n => n⟩
theorem Tryz.sortA : Go.Proofs.SlLaysM.n5 Tryz.prog Tryz.sortA_ren := {
 mixed := by kernel_rfl
 f5 := ⟨Tryz.f113.name, by decide, Tryz.func113.trans (congrArg some (by kernel_rfl))⟩
 f7 := ⟨Tryz.f128.name, by decide, Tryz.func128.trans (congrArg some (by kernel_rfl))⟩
 f8 := Tryz.func129.trans (congrArg some (by kernel_rfl))
 f10 := ⟨Tryz.f158.name, by decide, Tryz.func158.trans (congrArg some (by kernel_rfl))⟩
 f11 := ⟨Tryz.f159.name, by decide, Tryz.func159.trans (congrArg some (by kernel_rfl))⟩
 f12 := ⟨Tryz.f160.name, by decide, Tryz.func160.trans (congrArg some (by kernel_rfl))⟩
 f13 := ⟨Tryz.f161.name, by decide, Tryz.func161.trans (congrArg some (by kernel_rfl))⟩
 f14 := ⟨Tryz.f162.name, by decide, Tryz.func162.trans (congrArg some (by kernel_rfl))⟩
 f15 := ⟨Tryz.f163.name, by decide, Tryz.func163.trans (congrArg some (by kernel_rfl))⟩
 f16 := ⟨Tryz.f164.name, by decide, Tryz.func164.trans (congrArg some (by kernel_rfl))⟩
 f17 := ⟨Tryz.f165.name, by decide, Tryz.func165.trans (congrArg some (by kernel_rfl))⟩
 f18 := ⟨Tryz.f166.name, by decide, Tryz.func166.trans (congrArg some (by kernel_rfl))⟩
 f19 := Tryz.func167.trans (congrArg some (by kernel_rfl))
 f20 := Tryz.func168.trans (congrArg some (by kernel_rfl))
 f30 := ⟨Tryz.f183.name, by decide, Tryz.func183.trans (congrArg some (by kernel_rfl))⟩
 f31 := Tryz.func184.trans (congrArg some (by kernel_rfl))
 f32 := Tryz.func185.trans (congrArg some (by kernel_rfl))
 f33 := ⟨Tryz.f186.name, by decide, Tryz.func186.trans (congrArg some (by kernel_rfl))⟩
 f34 := ⟨Tryz.f187.name, by decide, Tryz.func187.trans (congrArg some (by kernel_rfl))⟩
 f35 := ⟨Tryz.f101.name, by decide, Tryz.func101.trans (congrArg some (by kernel_rfl))⟩
 f40 := ⟨Tryz.f199.name, by decide, Tryz.func199.trans (congrArg some (by kernel_rfl))⟩
 t0 := Tryz.underlying0
 a0 := Tryz.isAgg0
 z0 := Tryz.sizeOf0
 v0 := Tryz.zeroValue0
 t3 := Tryz.underlying3
 a3 := Tryz.isAgg3
 z3 := Tryz.sizeOf3
 v3 := Tryz.zeroValue3
 t4 := Tryz.underlying4
 a4 := Tryz.isAgg4
 z4 := Tryz.sizeOf4
 v4 := Tryz.zeroValue4
 t5 := Tryz.underlying5
 a5 := Tryz.isAgg5
 z5 := Tryz.sizeOf5
 v5 := Tryz.zeroValue5
 t9 := Tryz.underlying9
 a9 := Tryz.isAgg9
 z9 := Tryz.sizeOf9
 v9 := Tryz.zeroValue9
 t22 := Tryz.underlying23
 a22 := Tryz.isAgg23
 z22 := Tryz.sizeOf23
 v22 := Tryz.zeroValue23
 t23 := Tryz.underlying23
 a23 := Tryz.isAgg23
 z23 := Tryz.sizeOf23
 v23 := Tryz.zeroValue23
 t25 := Tryz.underlying3
 a25 := Tryz.isAgg3
 z25 := Tryz.sizeOf3
 v25 := Tryz.zeroValue3
 t32 := Tryz.underlying153
 a32 := Tryz.isAgg153
 z32 := Tryz.sizeOf153
 v32 := Tryz.zeroValue153
 t35 := Tryz.underlying219
 a35 := Tryz.isAgg219
 z35 := Tryz.sizeOf219
 v35 := Tryz.zeroValue219
 t36 := Tryz.underlying220
 a36 := Tryz.isAgg220
 z36 := Tryz.sizeOf220
 v36 := Tryz.zeroValue220
 t41 := Tryz.underlying67
 a41 := Tryz.isAgg67
 z41 := Tryz.sizeOf67
 v41 := Tryz.zeroValue67
 t44 := Tryz.underlying227
 a44 := Tryz.isAgg227
 z44 := Tryz.sizeOf227
 v44 := Tryz.zeroValue227
 t46 := Tryz.underlying229
 a46 := Tryz.isAgg229
 z46 := Tryz.sizeOf229
 v46 := Tryz.zeroValue229
 t53 := Tryz.underlying254
 a53 := Tryz.isAgg254
 z53 := Tryz.sizeOf254
 v53 := Tryz.zeroValue254
 t57 := Tryz.underlying258
 a57 := Tryz.isAgg258
 z57 := Tryz.sizeOf258
 v57 := Tryz.zeroValue258
 t63 := Tryz.underlying270
 a63 := Tryz.isAgg270
 z63 := Tryz.sizeOf270
 v63 := Tryz.zeroValue270
 t64 := Tryz.underlying271
 a64 := Tryz.isAgg271
 z64 := Tryz.sizeOf271
 v64 := Tryz.zeroValue271 }
end Go.Proofs
end
section
namespace Go.Proofs
open Go.RowKit Go.Shelf
theorem Tryz.cut_c (s sep : ByteArray) (m : Int) (w : World) (hs : s.size < 4294967281) (hm : w.cell? ⟨0, 0, none⟩ = some (.int .i64 m)) :
  Calls Tryz.prog 78 #[.string s, .string sep] w fun e w' => e = .returned (.tuple #[.string ⟨(Lib.cut s.data.toList sep.data.toList).1.toArray⟩, .string ⟨(Lib.cut s.data.toList sep.data.toList).2.1.toArray⟩, .bool (Lib.cut s.data.toList sep.data.toList).2.2]) ∧ ∃ n, w' = w.drewN n :=
 Any.strings_Cut Tryz.laysCut s sep m w hs hm
theorem Tryz.split_c (s sep : ByteArray) (m : Int) (w : World) (hs : s.size < 4294967281) (hm : w.cell? ⟨0, 0, none⟩ = some (.int .i64 m)) (h1 : 1 ≤ sep.size) :
  Calls Tryz.prog 103 #[.string s, .string sep] w fun e w' => e = .returned (.slice (some ⟨w.heap.size, 0, none⟩) (Lib.countB s sep + 1) (Lib.countB s sep + 1)) ∧ w' = w.alloc (.cells ((Lib.splitB sep 0 (Lib.countB s sep) s).map Value.string).toArray 9) :=
 Any.strings_Split Tryz.laysSplit (by kernel_rfl) s sep m w hs hm h1
theorem Tryz.atoi_ok (s : ByteArray) (hmax : s.size ≤ 9223372036854775806) (v : Int) (h : Lib.atoiAll s.data.toList = .ok v) (w : World) :
  Calls Tryz.prog 105 #[.string s] w fun e w' => e = .returned (.tuple #[.int .i64 v, .nilIface]) ∧ (w' = w ∨ ∃ e t, w' = Lib.bytesWorld w e t) := by
 refine (Any.strconv_Atoi_ok Tryz.laysAtoi s hmax v h w).mono ?_
 rintro e w' ⟨he, hw⟩
 exact ⟨he, hw.imp id fun ⟨t, ht⟩ => ⟨_, t, ht⟩⟩
theorem Tryz.atoi_syntax (s : ByteArray) (hlim : s.size ≤ 281474976710656) (h : Lib.atoiAll s.data.toList = Lib.atoiAll []) (ev : Value) (w : World) (hv : w.cell? ⟨1, 0, none⟩ = some ev) (hev : ev = .nilIface ∨ ∃ te pe, ev = .iface te pe) :
  Calls Tryz.prog 105 #[.string s] w fun e w' => ∃ N t, e = .returned (.tuple #[.int .i64 0, .iface t (.pointer (some ⟨N, 0, none⟩))]) ∧ Below w.heap.size w w' := by
 refine (Any.strconv_Atoi_syntax Tryz.laysAtoi s hlim h ev w hv hev).mono ?_
 rintro e w' ⟨N, he, _, _, hb⟩
 exact ⟨N, _, he, hb⟩
theorem Tryz.atoi_range (s : ByteArray) (hlim : s.size ≤ 281474976710656) (h : Lib.atoiAll s.data.toList = .range) (ev : Value) (w : World) (hv : w.cell? ⟨2, 0, none⟩ = some ev) (hev : ev = .nilIface ∨ ∃ te pe, ev = .iface te pe) :
  Calls Tryz.prog 105 #[.string s] w fun e w' => ∃ N t, e = .returned (.tuple #[.int .i64 (Lib.atoiSat s.data.toList), .iface t (.pointer (some ⟨N, 0, none⟩))]) ∧ Below w.heap.size w w' := by
 refine (Any.strconv_Atoi_range Tryz.laysAtoi s hlim h ev w hv hev).mono ?_
 rintro e w' ⟨N, he, _, _, hb⟩
 exact ⟨N, _, he, hb⟩
end Go.Proofs
namespace Ab
open Go Go.Proofs
abbrev S1 : Sh := .sc .str
theorem aZ4 {h : Hp} {ρ : Nat → Loc} {w : World} {pr : dU} {a b : ByteArray} {vs : List Value} (q : Rp h ρ w pr (.cons (.val .str a) (.cons (.val .str b) .nil)) vs) : vs = [.string a, .string b] := by
 obtain ⟨v, d, rfl, q1, v2, d2, rfl, q2, q3⟩ := q
 have q3 : d2 = [] := q3
 rw [qJ q1, qJ q2, q3]
theorem bGp {h : Hp} {ρ : Nat → Loc} {w : World} {pr : dU} {a : ByteArray} {vs : List Value} (q : Rp h ρ w pr (.cons (.val .str a) .nil) vs) : vs = [.string a] := by
 obtain ⟨v, d, rfl, q1, q3⟩ := q
 have q3 : d = [] := q3
 rw [qJ q1, q3]
theorem aNz : FnOK Tryz.prog 78 ⟨.cons S1 (.cons S1 .nil), .tup (.cons S1 (.cons S1 (.cons (.sc .bool) .nil))), strings_Cut, []⟩ := by
 refine FnOK.plain rfl (fn_ent Tryz.func78 (by kernel_rfl) (by kernel_rfl)) fun C ρ args w (x : ByteArray × ByteArray) y hy hG M q => ?_
 have ha : args = #[.string x.1, .string x.2] := by apply Array.ext'; exact aZ4 q
 subst ha
 obtain ⟨m, hm⟩ := (hG.world M).1.c0
 have hy : strings_Cut x = some y := hy
 unfold strings_Cut at hy
 by_cases hs : x.1.size < 4294967281
 ·simp only [hs, decide_true, cond_true] at hy
  obtain rfl := Option.some.inj hy
  refine (Tryz.cut_c x.1 x.2 m w hs hm).mono ?_
  rintro e w' ⟨rfl, n, rfl⟩
  have hb : RowKit.Below w.heap.size w (w.drewN n) := ⟨rfl, rfl, rfl, Nat.le_refl _, fun _ _ => rfl⟩
  exact ⟨_, rfl, _, ρ, C.pr, _, .tup (.cons (.val .str _) (.cons (.val .str _) (.cons (.val .bool _) .nil))), _, [], [], M.world hb, rfl, rfl, ⟨_, rfl, _, _, rfl, ⟨rfl, rfl⟩, _, _, rfl, ⟨rfl, rfl⟩, _, _, rfl, ⟨rfl, rfl⟩, rfl⟩, rfl⟩
 simp [hs] at hy
theorem aL3 : FnOK Tryz.prog 105 ⟨.cons S1 .nil, .tup (.cons (.sc (.int .i64)) (.cons (.sc .ern) .nil)), strconv_Atoi, []⟩ := by
 refine FnOK.plain rfl (fn_ent Tryz.func105 (by kernel_rfl) (by kernel_rfl)) fun C ρ args w (x : ByteArray) y hy hG M q => ?_
 have ha : args = #[.string x] := by apply Array.ext'; exact bGp q
 subst ha
 have hg := (hG.world M).1
 have hy : strconv_Atoi x = some y := hy
 unfold strconv_Atoi at hy
 by_cases hs : x.size ≤ 281474976710656
 ·simp only [hs, decide_true, cond_true] at hy
  split at hy
  ·rename_i v hv
   obtain rfl := Option.some.inj hy
   refine (Tryz.atoi_ok x (by omega) v hv w).mono ?_
   rintro e w' ⟨rfl, hw⟩
   have hb : RowKit.Below w.heap.size w w' := by
    rcases hw with rfl | ⟨_, t, rfl⟩
    ·exact RowKit.Below.refl _ _
    ·exact Lib.bytesWorld_below _ _ _
   exact ⟨_, rfl, _, ρ, C.pr, _, .tup (.cons (.val (.int .i64) v) (.cons (.val .ern false) .nil)), _, [], [], M.world hb, rfl, rfl, ⟨_, rfl, _, _, rfl, ⟨rfl, rfl⟩, _, _, rfl, ⟨rfl, .inl ⟨rfl, rfl⟩⟩, rfl⟩, rfl⟩
  ·rename_i hv
   obtain rfl := Option.some.inj hy
   obtain ⟨ev, h1, h2⟩ := hg.c2
   refine (Tryz.atoi_range x hs hv ev w h1 h2).mono ?_
   rintro e w' ⟨N, t, rfl, hb⟩
   exact ⟨_, rfl, _, ρ, C.pr, _, .tup (.cons (.val (.int .i64) (Lib.atoiSat x.data.toList)) (.cons (.val .ern true) .nil)), _, [], [], M.world hb, rfl, rfl, ⟨_, rfl, _, _, rfl, ⟨rfl, rfl⟩, _, _, rfl, ⟨rfl, .inr ⟨rfl, _, _, rfl⟩⟩, rfl⟩, rfl⟩
  rename_i n1 n2
  have hv : Lib.atoiAll x.data.toList = Lib.atoiAll [] := by
   cases h : Lib.atoiAll x.data.toList <;> first | rfl | (exfalso; simp_all)
  obtain rfl := Option.some.inj hy
  obtain ⟨ev, h1, h2⟩ := hg.c1
  refine (Tryz.atoi_syntax x hs hv ev w h1 h2).mono ?_
  rintro e w' ⟨N, t, rfl, hb⟩
  exact ⟨_, rfl, _, ρ, C.pr, _, .tup (.cons (.val (.int .i64) 0) (.cons (.val .ern true) .nil)), _, [], [], M.world hb, rfl, rfl, ⟨_, rfl, _, _, rfl, ⟨rfl, rfl⟩, _, _, rfl, ⟨rfl, .inr ⟨rfl, _, _, rfl⟩⟩, rfl⟩, rfl⟩
 simp [hs] at hy
theorem aJ6 : FnOK Tryz.prog 103 ⟨.cons S1 (.cons S1 .nil), .sc (.sl .str), strings_Split, []⟩ := by
 refine FnOK.plain rfl (fn_ent Tryz.func103 (by kernel_rfl) (by kernel_rfl)) fun C ρ args w (x : ByteArray × ByteArray) y hy hG M q => ?_
 have ha : args = #[.string x.1, .string x.2] := by apply Array.ext'; exact aZ4 q
 subst ha
 obtain ⟨m, hm⟩ := (hG.world M).1.c0
 have hy : strings_Split x = some y := hy
 unfold strings_Split at hy
 by_cases hs : (x.1.size < 4294967281 ∧ 1 ≤ x.2.size) ∧ (Lib.splitB x.2 0 (Lib.countB x.1 x.2) x.1).length ≤ 1000000
 ·have : (decide (x.1.size < 4294967281) && decide (1 ≤ x.2.size) && decide ((Lib.splitB x.2 0 (Lib.countB x.1 x.2) x.1).length ≤ 1000000)) = true := by simp [hs]
  rw [this] at hy
  simp only [cond_true] at hy
  obtain rfl := Option.some.inj hy
  refine (Tryz.split_c x.1 x.2 m w hs.1.1 hm hs.1.2).mono ?_
  rintro e w' ⟨rfl, rfl⟩
  have hlen : (Lib.splitB x.2 0 (Lib.countB x.1 x.2) x.1).length = Lib.countB x.1 x.2 + 1 := Lib.splitB_all x.2 hs.1.2 0 _ x.1 rfl
  generalize Lib.splitB x.2 0 (Lib.countB x.1 x.2) x.1 = L at hlen hs ⊢
  have hrows : Ab.Rows w C.pr .str L ((L.map Value.string).toArray).toList := by
   intro i s hi
   simp only [Ty.n, Nat.mul_one]
   have : (L.map Value.string)[i]? = some (.string s) := by simp [hi]
   show _ = _
   apply List.ext_getElem?
   intro j
   cases j with
   | zero => simp [hi]
   | succ j => simp; omega
  have A := M.addChunk (k := 7) (e := 9) (r := .str) (xs := L) (arr := (L.map Value.string).toArray) rfl (by decide) (by simp [Ty.n]) (by simp only [maxLen]; omega) hrows (by simp [Value.oneCell'])
  obtain ⟨ρ', M', q', _⟩ := A
  rw [hlen] at q'
  exact ⟨_, rfl, _, ρ', C.pr, _, .hd 7, _, [], [7], M', rfl, rfl, q', rfl⟩
 exfalso
 revert hy
 cases hb : (decide (x.1.size < 4294967281) && decide (1 ≤ x.2.size) && decide ((Lib.splitB x.2 0 (Lib.countB x.1 x.2) x.1).length ≤ 1000000)) with
 | true => exact absurd (by simpa using hb) hs
 | false => intro hy; cases hy
end Ab
end
section
namespace Go.Proofs
open Go.RowKit Go.Maps Go.Sort Go.Shelf
theorem Tryz.sortsA (m : Nat) : AnyZI.SortsIn Tryz.prog Tryz.sortedA_ren Fence.wide m :=
 ⟨fun blk off cap ss W hH hblk hsz => callsIn_wide.2 (AnyM.slices_Sort_int Tryz.sortA blk off cap ss W hH hblk hsz),
  fun p cap W => callsIn_wide.2 (AnyM.slices_Sort_int_none Tryz.sortA p cap W)⟩
def Tryz.sortedKeys (es : List (Int × Int)) : List Int := (es.map (·.1)).mergeSort leI
def Tryz.RU : Value → Option (DataW Unit × List MemPlace) := fun _ => some (.nil, [])
theorem Tryz.map_owns {b clock : Nat} {ms : Array MapEntry} {es : List (Int × Int)} {w : World} (hb : w.heap[b]? = some (.map ms clock)) (hst : Go.MapKept.Stamped ms clock) (hk : ms.toList.map (·.key) = es.map fun e => Value.int .i64 e.1)
  (hwf : ∀ e ∈ es, (Lit.int .i64 e.1).wf = true) (hsz : es.length ≤ 1000000) :
  ∃ D, w.ownsMap Tryz.prog 3 Tryz.RU b es.length D ∧ (intKeys D).Perm (es.map (·.1)) ∧ size D = es.length := by
 have hu : Tryz.prog.underlying 3 = some (.int .i64) := by kernel_rfl
 have hl : ms.size = es.length := by
  have := congrArg List.length hk
  simpa using this
 have hrd : ∀ x ∈ ms.toList, ∃ a, (Lit.int .i64 a).wf = true ∧ x.key = .int .i64 a ∧ Go.WideElems.rd Tryz.prog 3 Tryz.RU x = some (.int .i64 a, .nil) := by
  intro x hx
  have : x.key ∈ es.map fun e => Value.int .i64 e.1 := by rw [← hk]; exact List.mem_map.2 ⟨x, hx, rfl⟩
  obtain ⟨e, he, hxe⟩ := List.mem_map.1 this
  refine ⟨e.1, hwf e he, hxe.symm, ?_⟩
  have hko : keyOf Tryz.prog 3 x.key = some (.int .i64 e.1) := by rw [← hxe]; simp [keyOf, hu, mapKey, hwf e he]
  simp [Go.WideElems.rd, hko, Tryz.RU]
 have hmap : ∀ (l : List MapEntry) (es : List (Int × Int)), l.map (·.key) = (es.map fun e => Value.int .i64 e.1) → (∀ x ∈ l, ∃ a, x.key = .int .i64 a ∧ Go.WideElems.rd Tryz.prog 3 Tryz.RU x = some (.int .i64 a, .nil)) →
   (l.map (Go.WideElems.rg Tryz.prog 3 Tryz.RU)).map (fun p => _root_.Go.intOf p.1) = es.map (·.1) := by
  intro l
  induction l with
  | nil => intro es h _; cases es with
   | nil => rfl
   | cons _ _ => cases h
  | cons x l ih =>
   intro es h hx
   cases es with
   | nil => cases h
   | cons e es =>
    simp only [List.map_cons, List.cons.injEq] at h ⊢
    obtain ⟨a, h1, h2⟩ := hx x (by simp)
    refine ⟨?_, ih es h.2 (fun y hy => hx y (List.mem_cons_of_mem _ hy))⟩
    rw [h.1] at h1
    simp only [Value.int.injEq, true_and] at h1
    simp [Go.WideElems.rg, h2, _root_.Go.intOf, h1]
 refine ⟨_, ⟨ms, clock, hb, ⟨by rw [hl]; simp only [maxLen]; omega, hst, fun x hx => ?_⟩, by omega, rfl⟩, ?_, ?_⟩
 ·obtain ⟨a, _, _, h⟩ := hrd x hx
  exact ⟨_, h⟩
 ·show (((ms.toList.map (Go.WideElems.rg Tryz.prog 3 Tryz.RU)).foldr DataW.insert []).map fun p => _root_.Go.intOf p.1).Perm _
  rw [← hmap ms.toList es hk (fun x hx => by obtain ⟨a, _, h1, h2⟩ := hrd x hx; exact ⟨a, h1, h2⟩)]
  exact (Go.WideShapes.sorted_perm _).map _
 show ((ms.toList.map (Go.WideElems.rg Tryz.prog 3 Tryz.RU)).foldr DataW.insert []).length = _
 rw [(Go.WideShapes.sorted_perm _).length_eq]
 simp [hl]
theorem Tryz.keys_c (mb : Option Nat) (w : World) : Calls Tryz.prog 87 #[.map mb] w fun e w' => e = .returned (.func (.func 114) #[] #[.pointer (some ⟨w.heap.size, 0, none⟩)]) ∧ w' = w.alloc (.cells #[.map mb] 70) :=
 (callsIn_wide (n := 5)).1 (AnyZI.keys_in Tryz.keysA Fence.wide 5 trivial rfl mb w)
theorem Tryz.sorted_c {b clock : Nat} {ms : Array MapEntry} {es : List (Int × Int)} {w : World} (hb : w.heap[b]? = some (.map ms clock)) (hst : Go.MapKept.Stamped ms clock) (hk : ms.toList.map (·.key) = es.map fun e => Value.int .i64 e.1)
  (hwf : ∀ e ∈ es, (Lit.int .i64 e.1).wf = true) (hsz : es.length ≤ 1000000) :
  Calls Tryz.prog 86 #[.func (.func 114) #[] #[.pointer (some ⟨w.heap.size, 0, none⟩)]] (w.alloc (.cells #[.map (some b)] 70)) fun e w' => ∃ v, e = .returned v ∧
   w'.ownsRow w.heap.size 3 1 v (Tryz.sortedKeys es).length ((Tryz.sortedKeys es).map encZ) ∧ Below w.heap.size w w' := by
 obtain ⟨D, hown, hperm, hsize⟩ := Tryz.map_owns hb hst hk hwf hsz
 have hbl := hown.lt
 have hseq : SeqGives Fence.wide 2 Tryz.prog 114 #[.pointer (some ⟨w.heap.size, 0, none⟩)] encZ (fun ss => ss.Perm (intKeys D)) (size D) (w.alloc (.cells #[.map (some b)] 70)) :=
  AnyZI.keys_gives (ρ := Tryz.keysA_ren) { Tryz.keysA with } Fence.wide _ trivial rfl (by omega) w.heap.size b _ D _ (by simp) (by simp) (by
   obtain ⟨es, clock, hb, Ft, hs, hD⟩ := hown
   exact ⟨es, clock, (Below.heap_alloc _ _ b hbl).trans hb, Ft, hs, hD⟩)
 have cS := AnyZI.sorted_in Tryz.sortedA Fence.wide 5 trivial trivial trivial trivial rfl (by omega) (Tryz.sortsA _) (enters_of Tryz.func113 (by kernel_rfl) rfl) 114 #[.pointer (some ⟨w.heap.size, 0, none⟩)] trivial (enters_of Tryz.func114 (by kernel_rfl) rfl) _ _ (by rw [hsize]; simp only [maxLen]; omega) (by rw [hsize]; omega) _ hseq
 change CallsIn _ _ Tryz.prog 86 _ _ _ at cS
 refine ((callsIn_wide (n := 5)).1 cS).mono ?_
 rintro e w' ⟨v, ss, rfl, hS, hrow, hnil, hbw⟩
 refine ⟨v, rfl, ?_, ((Below.refl _ w).alloc (Nat.le_refl _) _).trans (hbw.mono (by simp))⟩
 have h1 : (ss.mergeSort fun x y => decide (x ≤ y)) = Tryz.sortedKeys es := mergeSort_of_perm_i (hS.trans hperm)
 have h2 : ss.length = (Tryz.sortedKeys es).length := by rw [← h1]; simp
 rw [h1, h2] at hrow
 exact ownsRow_base_a hrow (by simp)
end Go.Proofs
end
noncomputable section
namespace Ab
open Go Go.Proofs
def T38 : List (Nat × TI) := [(3, { k := .int .i64, n := 1, z := [.d (.val (.int .i64) (0 : Int))] }), (4, { k := .bool, n := 1, z := [.d (.val .bool false)] }), (23, { k := .slice, n := 1, el := 3, er := (.int .i64), eb := 8, z := [.s 3 (.int .i64)] }),
 (26, { k := .slice, n := 1, el := 73, er := cP2, eb := 16, z := [.s 73 cP2] }), (70, { k := .map, n := 1, er := (.int .i64), ev := (.int .i64), z := [.d .dead] }), (73, { k := .struct, n := 2, fs := [(0, 1), (1, 1)], fg := [false, false], eq := [.int .i64, .int .i64], z := [.d (.val (.int .i64) (0 : Int)), .d (.val (.int .i64) (0 : Int))] })]
theorem aXq : TTok Tryz.prog (lk T38) := aMt (by kernel_rfl)
theorem vX : (Tryz.prog).follows .mixedOrders = true := by kernel_rfl
def E38 : Env := { tt := lk T38, fs := fun _ => [] }
theorem aR1 : zV Tryz.prog E38 := ⟨fun _ _ h => (by cases h), fun _ _ h => (by cases h)⟩
abbrev ins38 : Sh := .cons (.mp II II) .nil
abbrev aRf : Sh := .sc (.sl cP2)
def c38 : Code := mD Tryz.f38
def R2 : Array Oper := bHp (aDk (aDk (vE (vE c38))))
def B38 : Code := vE (aDk (vE (vE c38)))
def Y38 : Code := vE (vE (vE c38))
theorem bH9 : c38 = .seq (aDk c38) (.seq (aDk (vE c38)) (.seq (.seq (.region 2 R2 false) B38) Y38)) := by kernel_rfl
theorem bFn : R2.toList = [fM R2 0] ++ (fM R2 1 :: fM R2 2 :: [fM R2 3, fM R2 4]) := by kernel_rfl
def kN : Xt → St → Option St := fun e σ => match e with
 | .normal => some σ
 | _ => none
def st1 (x : List (Int × Int)) : St := { sl := [(2, .hd 128), (1000000, .mp 1000000), (0, .mp 1000000)], hp := [(128, some (.chunk 73 cP2 [])), (1000000, some (.map II II x))] }
def st2 (x : List (Int × Int)) : St := { sl := [(3, .hd 192), (2, .hd 128), (1000000, .mp 1000000), (0, .mp 1000000)], hp := [(192, some (.chunk 73 cP2 [])), (128, some (.chunk 73 cP2 [])), (1000000, some (.map II II x))] }
def st3 (x : List (Int × Int)) : St := { st2 x with sl := (6, .mp 1000000) :: (st2 x).sl }
def st4 (x : List (Int × Int)) (ks : List Int) : St := (((st3 x).put 512 (.chunk 3 II ks)).set 7 .dead).set 8 (.hd 512)
def bD4 (σ : St) : Option (Sh.out ins38.io aRf).T :=
 match (Sh.out ins38.io aRf).get σ (.cons (.tup (.cons (σ.slot 0) .nil)) (.cons (σ.slot 2) .nil)) [] with
 | some (y, vis, bor) => bif eB bor vis then some y else none
 | none => none
def kE : Xt → St → Option (Sh.out ins38.io aRf).T := fun e σ => match e with
 | .normal | .ret => bD4 σ
 | _ => none
def H38 : List (Nat × Hint) := [(3, ⟨[9], [0, 3, 8, 10], .cons (.mp II II) (.cons (.own 73 cP2) (.cons (.own 3 II) (.cons (.sc II) .nil)))⟩)]
def aX4 (x : List (Int × Int) × List Int) : Option (Sh.out ins38.io aRf).T :=
 aLs E38 R2 (fun _ _ => none) [fM R2 3, fM R2 4] (st4 x.1 x.2) fun σ => ex E38 H38 B38 _ σ fun e σ => match e with
  | .normal => ex E38 H38 Y38 _ σ kE
  | e => kE e σ
theorem bBb : aX4 = aJ4 := by kernel_rfl
theorem ex1 (x : List (Int × Int)) : ex E38 [] (aDk c38) St (yN 0 ins38 x) kN = some (st1 x) := by kernel_rfl
theorem ex2 (x : List (Int × Int)) : ex E38 [] (aDk (vE c38)) St (st1 x) kN = some (st2 x) := by kernel_rfl
theorem ex3 (x : List (Int × Int)) : aLs E38 R2 (fun _ _ => none) [fM R2 0] (st2 x) some = some (st3 x) := by kernel_rfl
end Ab
end
section
namespace Ab
open Go Go.Proofs
variable {P : Program} {C : Cx} {σ : St} {ρ : Nat → Loc} {pr : dU} {w : World} {a : Act} {g : Nat → Value} {n : Nat}
theorem bGy {t : Nat} (h : t < 900000) : a.eval (.tmp t) = fa g a t := by simp only [fa, h, if_true]; rfl
theorem Mo.setPut (M : Mo C σ ρ pr (fa g a) w) (hn : n ≤ 900000) (ha : a.tmps.size = n) {d : Nat} (hd : d < n) (sv : SV) (v : Value) (q : Rp σ.obj ρ w pr sv [v]) : Mo C (σ.set d sv) ρ pr (fa g (a.put (some d) v)) w := by
 rw [aE2 hn ha (d := some d) (fun i hi => by cases hi; exact hd)]
 exact M.setd (some d) sv v q
theorem aR2 {w : World} {pr : dU} : ∀ {es : List (Int × Int)} {ms : List MapEntry}, Ents w pr II II es ms → ms.map (·.key) = es.map fun e => Value.int .i64 e.1
 | [], [], _ => rfl
 | e :: es, m :: ms, h => by
  obtain ⟨⟨cs, h1, h2⟩, _⟩ := h.1
  have h1 : cs = [.int .i64 e.1] := h1
  subst h1
  have h2 : m.key = .int .i64 e.1 := h2
  simp only [List.map_cons, h2, aR2 (es := es) h.2]
 | [], _ :: _, h => h.elim
 | _ :: _, [], h => h.elim
theorem bIc : Tryz.f38.body = some c38 := by kernel_rfl
theorem aIu : FnOK Tryz.prog 38 ⟨ins38, aRf, jO, []⟩ where
 ent := fn_ent Tryz.func38 (by kernel_rfl) (by kernel_rfl)
 calls := by
  intro C ρ gx args w x y hgx hy hG M q
  have hgx : gx = [] := List.eq_nil_of_length_eq_zero hgx
  subst hgx
  change List (Int × Int) at x
  have hy : jO x = some y := hy
  unfold jO at hy
  cases hb : ((x.all fun e => (Lit.int .i64 e.1).wf) && decide (x.length ≤ 1000000)) with
  | false => rw [hb] at hy; cases hy
  | true =>
  rw [hb] at hy
  simp only [cond_true] at hy
  simp only [Bool.and_eq_true, decide_eq_true_eq, List.all_eq_true] at hb
  rw [← bBb] at hy
  obtain ⟨Ms, hl⟩ := aH6 (ins := ins38) (nx := 0) (gx := []) rfl (by decide) (by decide) rfl M q (Tryz.f38.ntmps - args.size)
  rw [List.nil_append] at hl
  have has : args.size = 1 := by
   have h1 : ins38.len = 1 := rfl
   rw [h1] at hl
   simpa using hl
  have hnt : Tryz.f38.ntmps = 28 := by kernel_rfl
  obtain ⟨a0v, ha0⟩ : ∃ v, args = #[v] := by
   have : args.toList.length = 1 := by simpa using has
   obtain ⟨v, hv⟩ := List.length_eq_one_iff.1 this
   exact ⟨v, by apply Array.ext'; simpa using hv⟩
  subst ha0
  generalize hact : jM #[a0v] (Tryz.f38.ntmps - #[a0v].size) = act0 at Ms
  have hsz0 : act0.tmps.size = 28 := by rw [← hact, hnt]; simp [jM]
  have hdf0 : act0.defers = [] := by rw [← hact]; rfl
  have h00 : act0.tmps[0]? = some a0v := by rw [← hact]; simp [jM]
  generalize hgg : lZ ([] ++ #[a0v].toList) = g at Ms
  refine calls_of_wp Tryz.func38 bIc ?_
  have he : ({ tmps := #[a0v] ++ Array.replicate (Tryz.f38.ntmps - #[a0v].size) undef, defers := [] } : Act) = act0 := hact
  rw [he]
  have hdsts : ∀ i ∈ Code.dsts c38, i < 28 := by
   have : (Code.dsts c38).all (fun i => Nat.blt i 28) = true := by kernel_rfl
   exact fun i hi => Nat.le_of_ble_eq_true (List.all_eq_true.1 this i hi)
  have hd1 : ∀ i ∈ Code.dsts (aDk c38), i < 28 ∧ i ≠ 0 := by
   have : (Code.dsts (aDk c38)).all (fun i => Nat.blt i 28 && !Nat.beq i 0) = true := by kernel_rfl
   intro i hi
   have := List.all_eq_true.1 this i hi
   simp only [Bool.and_eq_true, Bool.not_eq_true'] at this
   exact ⟨Nat.le_of_ble_eq_true this.1, fun e => by rw [e] at this; cases this.2⟩
  have hd2 : ∀ i ∈ Code.dsts (aDk (vE c38)), i < 28 ∧ i ≠ 0 := by
   have : (Code.dsts (aDk (vE c38))).all (fun i => Nat.blt i 28 && !Nat.beq i 0) = true := by kernel_rfl
   intro i hi
   have := List.all_eq_true.1 this i hi
   simp only [Bool.and_eq_true, Bool.not_eq_true'] at this
   exact ⟨Nat.le_of_ble_eq_true this.1, fun e => by rw [e] at this; cases this.2⟩
  have hd3 : ∀ i ∈ Code.dsts B38, i < 28 ∧ i ≠ 0 := by
   have : (Code.dsts B38).all (fun i => Nat.blt i 28 && !Nat.beq i 0) = true := by kernel_rfl
   intro i hi
   have := List.all_eq_true.1 this i hi
   simp only [Bool.and_eq_true, Bool.not_eq_true'] at this
   exact ⟨Nat.le_of_ble_eq_true this.1, fun e => by rw [e] at this; cases this.2⟩
  have hd4 : ∀ i ∈ Code.dsts Y38, i < 28 ∧ i ≠ 0 := by
   have : (Code.dsts Y38).all (fun i => Nat.blt i 28 && !Nat.beq i 0) = true := by kernel_rfl
   intro i hi
   have := List.all_eq_true.1 this i hi
   simp only [Bool.and_eq_true, Bool.not_eq_true'] at this
   exact ⟨Nat.le_of_ble_eq_true this.1, fun e => by rw [e] at this; cases this.2⟩
  have hdo : ∀ o ∈ R2.toList, ∀ i, o.dst = some i → i < 28 ∧ i ≠ 0 := by
   have : R2.toList.all (fun o => match o.dst with | some i => Nat.blt i 28 && !Nat.beq i 0 | none => true) = true := by kernel_rfl
   intro o ho i hi
   have := List.all_eq_true.1 this o ho
   rw [hi] at this
   simp only [Bool.and_eq_true, Bool.not_eq_true'] at this
   exact ⟨Nat.le_of_ble_eq_true this.1, fun e => by rw [e] at this; cases this.2⟩
  rw [bH9]
  refine wp_seq (wp_mono (nP (E := E38) (n := 28) (df := []) aXq aR1 vX (by decide) (aDk c38) (ex1 x) hG Ms hsz0 hdf0 (fun i hi => (hd1 i hi).1)) ?_)
  rintro e a1 w1 ⟨xx, σ1, ρ1, pr1, hx, hk, M1, ha1, hdf1, ho1⟩
  cases hx with
  | exit i => cases hk
  | ret => cases hk
  | panic v u q _ => cases hk
  | normal =>
  obtain rfl : σ1 = st1 x := Option.some.inj hk
  refine wp_seq (wp_mono (nP (E := E38) (n := 28) (df := []) aXq aR1 vX (by decide) (aDk (vE c38)) (ex2 x) hG M1 ha1 hdf1 (fun i hi => (hd2 i hi).1)) ?_)
  rintro e a2 w2 ⟨xx, σ2, ρ2, pr2, hx, hk, M2, ha2, hdf2, ho2⟩
  cases hx with
  | exit i => cases hk
  | ret => cases hk
  | panic v u q _ => cases hk
  | normal =>
  obtain rfl : σ2 = st2 x := Option.some.inj hk
  have h02 : a2.tmps[0]? = some a0v := by
   rw [ho2 0 (fun h => (hd2 0 h).2 rfl), ho1 0 (fun h => (hd1 0 h).2 rfl), h00]
  refine wp_seq (wp_seq (wp_region_list ?_))
  rw [bFn]
  refine aG1 _ (zT (E := E38) (n := 28) (kp := fun _ _ => none) (k := some) (r := st3 x) aXq aR1 hG (by decide) [fM R2 0] (ex3 x) M2 ha2 (fun o ho i hi => (hdo o (by rw [bFn]; exact List.mem_append_left _ ho) i hi).1) ?_ (fun _ _ _ _ _ _ _ h => by cases h))
  intro a3 w3 σ3 ρ3 pr3 hk M3 ha3 hdf3 ho3
  obtain rfl : σ3 = st3 x := Option.some.inj hk
  have h03 : a3.tmps[0]? = some a0v := by
   rw [ho3 0 (fun h => ?_), h02]
   have : jI 0 (dstsOf [fM R2 0]) = false := by kernel_rfl
   exact eY.1 this h
  have hmp : (st3 x).obj 1000000 = some (.map II II x) := rfl
  obtain ⟨ms, clock, hms, hst, hents⟩ := M3.hp 1000000 _ hmp
  have hev6 : a3.eval (.tmp 6) = .map (some (ρ3 1000000).blk) := by
   have q6 := dZ M3 (.tmp 6)
   have : (st3 x).ev (.tmp 6) = .mp 1000000 := rfl
   rw [this] at q6
   have := q6.2
   simpa using this
  show wpList Tryz.prog R2 _ (fM R2 1 :: fM R2 2 :: [fM R2 3, fM R2 4]) a3 w3
  have o1g : (fM R2 1).guard = none := by kernel_rfl
  have o1o : (fM R2 1).op = .call { callee := .value (.func 87), args := #[.tmp 6], argTypes := #[70] } := by kernel_rfl
  have o1d : (fM R2 1).dst = some 7 := by kernel_rfl
  have o2g : (fM R2 2).guard = none := by kernel_rfl
  have o2o : (fM R2 2).op = .call { callee := .value (.func 86), args := #[.tmp 7], argTypes := #[129] } := by kernel_rfl
  have o2d : (fM R2 2).dst = some 8 := by kernel_rfl
  refine aKu o1g o1o (fn_ent Tryz.func87 (by kernel_rfl) (by kernel_rfl)) ?_
  have e1 : (#[Operand.tmp 6].map a3.eval) = #[.map (some (ρ3 1000000).blk)] := by simp [hev6]
  rw [e1]
  refine (Tryz.keys_c _ w3).mono ?_
  rintro e w4 ⟨rfl, rfl⟩
  refine ⟨_, rfl, ?_⟩
  rw [o1d]
  generalize hfv : Value.func (.func 114) #[] #[.pointer (some ⟨w3.heap.size, 0, none⟩)] = fv
  have hb4 : RowKit.Below w3.heap.size w3 (w3.alloc (.cells #[.map (some (ρ3 1000000).blk)] 70)) := (RowKit.Below.refl _ _).alloc (Nat.le_refl _) _
  refine aKu o2g o2o (fn_ent Tryz.func86 (by kernel_rfl) (by kernel_rfl)) ?_
  have hev7 : (a3.put (some 7) fv).eval (.tmp 7) = fv := by
   rw [bGy (g := g) (by decide), aE2 (n := 28) (by decide) ha3 (d := some 7) (fun i hi => by cases hi; decide)]
   simp [fd]
  have e2 : (#[Operand.tmp 7].map (a3.put (some 7) fv).eval) = #[fv] := by simp [hev7]
  rw [e2, ← hfv]
  have hwf : ∀ e ∈ x, (Lit.int .i64 e.1).wf = true := hb.1
  refine (Tryz.sorted_c hms hst (aR2 hents) hwf hb.2).mono ?_
  rintro e w5 ⟨v5, rfl, hrow, hbel⟩
  refine ⟨_, rfl, ?_⟩
  rw [o2d]
  have hks : Tryz.sortedKeys x = sortedKeys x := rfl
  rw [hks] at hrow
  generalize sortedKeys x = ks at hrow hy
  have hobj : ((st3 x).put 512 (.chunk 3 II ks)).obj 512 = some (.chunk 3 II ks) := rfl
  have A := M3.add (k := 512) (o := .chunk 3 II ks) (ρ' := fun j => if j = 512 then ⟨v5, match v5.ownBlock with | some b => b | none => 0⟩ else ρ3 j) (w' := w5) rfl (fun j e => by simp [e]) hbel
   (fun _ => ⟨by decide, by simp only [if_true]; intro b hb; rw [hb], ks.map (Value.int .i64), by
     simp only [if_true]
     exact ⟨hrow.1, hrow.2.imp id fun ⟨g, cap, cur, h1, _, h3⟩ => ⟨g, cap, cur, h1, Nat.zero_le _, h3⟩⟩, fun i z hi => by
     simp only [Ty.n, Nat.mul_one]
     show _ = _
     apply List.ext_getElem?
     intro j
     cases j with
     | zero => simp [hi]
     | succ j => simp; omega, by simp [Value.oneCell']⟩)
   (fun b hb => by
    simp only [own, hobj, if_true] at hb
    rcases hrow.2 with ⟨rfl, _⟩ | ⟨g, cap, cur, rfl, h1, _⟩
    ·cases hb
    ·simp only [Value.ownBlock, Option.some.injEq] at hb; omega)
  have M4 : Mo C (st4 x ks) _ pr3 (fa g ((a3.put (some 7) fv).put (some 8) v5)) w5 :=
   (A.1.setPut (n := 28) (by decide) ha3 (by decide) .dead fv ⟨_, rfl⟩).setPut (n := 28) (by decide) ((mG _ _ _).trans ha3) (by decide) (.hd 512) v5 ⟨⟨_, hobj, rfl⟩, by simp⟩
  rw [hfv]
  have hsz4 : ((a3.put (some 7) fv).put (some 8) v5).tmps.size = 28 := (mG _ _ _).trans ((mG _ _ _).trans ha3)
  have h04 : ((a3.put (some 7) fv).put (some 8) v5).tmps[0]? = some a0v := by
   rw [qF _ _ _ 0 (by decide), qF _ _ _ 0 (by decide), h03]
  have hdf4 : ((a3.put (some 7) fv).put (some 8) v5).defers = [] := by
   rw [gX, gX, hdf3, hdf2]
  generalize (a3.put (some 7) fv).put (some 8) v5 = a4 at M4 hsz4 h04 hdf4 ⊢
  have hy : aX4 (x, ks) = some y := hy
  unfold aX4 at hy
  refine zT (E := E38) (n := 28) aXq aR1 hG (by decide) [fM R2 3, fM R2 4] hy M4 hsz4 (fun o ho i hi => (hdo o (by rw [bFn]; exact List.mem_append_right _ (List.mem_cons_of_mem _ (List.mem_cons_of_mem _ ho))) i hi).1) ?_ (fun _ _ _ _ _ _ _ h => by cases h)
  intro a5 w6 σ5 ρ5 pr5 hk M5 ha5 hdf5 ho5
  have h05 : a5.tmps[0]? = some a0v := by
   rw [ho5 0 (fun h => ?_), h04]
   have : jI 0 (dstsOf [fM R2 3, fM R2 4]) = false := by kernel_rfl
   exact eY.1 this h
  have fin : ∀ {σ' : St} {ρ' : Nat → Loc} {pr' : dU} {a' : Act} {w' : World}, bD4 σ' = some y → Mo C σ' ρ' pr' (fa g a') w' → a'.tmps.size = 28 → a'.defers = [] → a'.tmps[0]? = some a0v →
    a'.defers = [] ∧ ∃ v, (results Tryz.f38 a'.tmps).run Tryz.prog w' = .ok v w' ∧ Told ins38 aRf ([] ++ #[a0v].toList) C bDf y (.returned v) w' := by
   intro σ' ρ' pr' a' w' ho M' ha' hd h0
   refine ⟨hd, ?_⟩
   unfold bD4 at ho
   split at ho
   ·rename_i y' vis bor hg
    cases hdj : eB bor vis with
    | false => rw [hdj] at ho; cases ho
    | true =>
     rw [hdj] at ho
     obtain rfl := Option.some.inj ho
     have hrs : Tryz.f38.results.toList = [.tmp 2] := by kernel_rfl
     obtain ⟨u, h1, h2⟩ := aVp (E := E38) (fn := Tryz.f38) (v := σ'.slot 2) aXq M' (by rw [hrs]; rfl)
     refine ⟨u, h1, u, rfl, σ', ρ', pr', _, _, σ'.slot 2, vis, bor, M', hg, hdj, ⟨a0v, [], rfl, ?_, rfl⟩, h2⟩
     have := qL M' 0
     have e : fa g a' 0 = a0v := by simp [fa, h0]
     rwa [e] at this
   ·cases ho
  refine wp_mono (nP (E := E38) (n := 28) (df := []) aXq aR1 vX (by decide) B38 hk hG M5 ha5 (hdf5.trans hdf4) (fun i hi => (hd3 i hi).1)) ?_
  rintro e a6 w7 ⟨xx, σ6, ρ6, pr6, hx, hk6, M6, ha6, hdf6, ho6⟩
  have h06 : a6.tmps[0]? = some a0v := by rw [ho6 0 (fun h => (hd3 0 h).2 rfl), h05]
  cases hx with
  | exit i => cases hk6
  | ret => exact fin hk6 M6 ha6 hdf6 h06
  | panic v u q _ => cases hk6
  | normal =>
  refine wp_mono (nP (E := E38) (n := 28) (df := []) aXq aR1 vX (by decide) Y38 hk6 hG M6 ha6 hdf6 (fun i hi => (hd4 i hi).1)) ?_
  rintro e a7 w8 ⟨xx, σ7, ρ7, pr7, hx, hk7, M7, ha7, hdf7, ho7⟩
  have h07 : a7.tmps[0]? = some a0v := by rw [ho7 0 (fun h => (hd4 0 h).2 rfl), h06]
  cases hx with
  | exit i => cases hk7
  | ret => exact fin hk7 M7 ha7 hdf7 h07
  | panic v u q _ => cases hk7
  | normal => exact fin hk7 M7 ha7 hdf7 h07
end Ab
end
noncomputable section
set_option maxRecDepth 100000
namespace Ab
open Go Go.Proofs
def T37 : List (Nat × TI) := [
 (3, { k := .int .i64, n := 1, z := [.d (.val (.int .i64) (0 : Int))] }),
 (4, { k := .bool, n := 1, z := [.d (.val .bool false)] }),
 (20, { k := .iface, n := 1, er := bCc, z := [.d .nli] }),
 (23, { k := .slice, n := 1, el := 3, er := (.int .i64), eb := 8, z := [.s 3 (.int .i64)] }),
 (26, { k := .slice, n := 1, el := 73, er := cP2, eb := 16, z := [.s 73 cP2] }),
 (43, { k := .slice, n := 1, el := 49, er := cS3, eb := 24, z := [.s 49 cS3] }),
 (49, { k := .struct, n := 3, fs := [(0, 1), (1, 1), (2, 1)], fg := [false, false, false], eq := [.int .i64, .int .i64, .int .i64], z := [.d (.val (.int .i64) (0 : Int)), .d (.val (.int .i64) (0 : Int)), .d (.val (.int .i64) (0 : Int))] }),
 (73, { k := .struct, n := 2, fs := [(0, 1), (1, 1)], fg := [false, false], eq := [.int .i64, .int .i64], z := [.d (.val (.int .i64) (0 : Int)), .d (.val (.int .i64) (0 : Int))] }),
 (114, { k := .slice, n := 1, el := 125, er := aJn, eb := 16, z := [.s 125 aJn] }),
 (118, { k := .struct, n := 1, fs := [(0, 1)], fg := [false], eq := [.int .i64], z := [.d (.val (.int .i64) (0 : Int))], rw := (.cons (.int .i64) .nil) }),
 (120, { k := .arr 32, n := 32, el := 3, er := (.int .i64), z := [.a (.int .i64) 32] }),
 (121, { k := .arr 32, n := 32, el := 4, er := .bool, z := [.a .bool 32] }),
 (123, { k := .struct, n := 65, fs := [(0, 32), (32, 32), (64, 1)], fg := [true, true, false], eq := [], z := [.a (.int .i64) 32, .a .bool 32, .s 3 (.int .i64)] }),
 (125, { k := .iface, n := 1, er := aJn, z := [.d .nli] })]
abbrev Y0 : Sh := (.seg (.int .i64) 32 (.seg .bool 32 (.cons (.own 3 (.int .i64)) .nil)))
abbrev Y1 : Sh := (.cons (.ptr (.cons (.sc (.int .i64)) .nil)) (.cons (.ptr (.cons (.own 3 (.int .i64)) .nil)) (.cons (.ptr (.cons (.own 73 cP2) .nil)) (.cons (.own 125 aJn) (.cons (.ref false 0) (.cons (.ref false 1) (.cons (.ref false 3) (.cons (.ptr Y0) (.cons (.sc (.int .i64)) .nil)))))))))
abbrev Y2 : Sh := (.cons (.ptr Y0) (.cons (.ptr (.cons (.own 73 cP2) .nil)) (.cons (.ptr (.cons (.own 3 (.int .i64)) .nil)) (.cons (.ptr (.cons (.sc (.int .i64)) .nil)) (.cons (.ref false 2) (.cons (.ref false 4) (.cons (.ref false 6) (.cons (.own 125 aJn) (.cons (.sc (.int .i64)) .nil)))))))))
abbrev Y3 : Sh := (.cons (.ptr (.cons (.sc (.int .i64)) .nil)) (.cons (.ptr (.cons (.own 3 (.int .i64)) .nil)) (.cons (.ptr (.cons (.own 73 cP2) .nil)) (.cons (.ref false 0) (.cons (.ref false 1) (.cons (.ref false 3) (.cons (.ptr Y0) (.cons (.agg (.seg .bool 32 .nil)) (.cons (.sc (.int .i64)) .nil)))))))))
theorem aXr : TTok Tryz.prog (lk T37) := aMt (by kernel_rfl)
abbrev ins82 : Sh := .cons (.sc (.sl cS3)) .nil
abbrev aVq : Sh := .tup (.cons (.own 125 aJn) (.cons (.sc .bool) .nil))
abbrev ins83 : Sh := .cons (.sc (.sl cP2)) .nil
abbrev bDg : Sh := .sc .bool
abbrev ins85 : Sh := .cons (.ptr Y0) (.cons (.sc aJn) .nil)
abbrev ins37 : Sh := .cons (.sc (.sl cS3)) (.cons (.sc (.sl cP2)) .nil)
abbrev aGk : Sh := .tup (.cons (.sc II) (.cons (.sc (.sl II)) (.cons (.sc (.sl cP2)) .nil)))
abbrev O37 : Type := (Sh.out ins37.io aGk).T
abbrev D82 : Type := ins82.T → Option (Sh.out ins82.io aVq).T
abbrev D83 : Type := ins83.T → Option (Sh.out ins83.io bDg).T
abbrev D85 : Type := ins85.T → Option ((Sh.out ins85.io (.tup .nil)).T ⊕ (Sh.out ins85.io (.sc bCc)).T)
def E37 (F82 : D82) (F83 : D83) (F85 : D85) : Env := { tt := lk T37, fs := aMg [(82, [⟨ins82, aVq, F82, []⟩]), (83, [⟨ins83, bDg, F83, []⟩])], fp := bB3 [(85, [⟨ins85, .tup .nil, .sc bCc, F85, []⟩])] }
def E84 : Env := { tt := lk T37, fs := fun _ => [] }
theorem bI0 : zV Tryz.prog E84 := ⟨fun _ _ h => (by cases h), fun _ _ h => (by cases h)⟩
def c37 : Code := mD Tryz.f37
def c84 : Code := mD Tryz.f84
def A0 : Code := aDk c37
def A1 : Code := aDk (vE c37)
def A2 : Code := aDk (vE (vE c37))
def R4 : Array Oper := bHp (aDk (vE (vE (vE c37))))
def C37 : Code := vE (vE (vE (vE c37)))
def R84 : Array Oper := bHp (aDk c84)
def B84 : Code := vE c84
theorem bIa : c37 = .seq A0 (.seq A1 (.seq A2 (.seq (.region 4 R4 false) C37))) := by kernel_rfl
theorem bH8 : c84 = .seq (.region 0 R84 false) B84 := by kernel_rfl
abbrev sD : Sh := .cons (.ptr (.cons (.sc II) .nil)) (.cons (.ptr (.cons (.own 3 II) .nil)) (.cons (.ptr (.cons (.own 73 cP2) .nil)) (.cons (.sc bCc) .nil)))
def vD : List Nat := [1000004, 1000005, 1000006, 1000007]
def nD : List Nat := names 60000000 sD.cnt
def stD (x : sD.T) : St := { sl := [(0, (sD.put nD x nD).v.at 0), (1, (sD.put nD x nD).v.at 1), (2, (sD.put nD x nD).v.at 2), (3, (sD.put nD x nD).v.at 3),
 (1000004, (sD.put nD x nD).v.at 0), (1000005, (sD.put nD x nD).v.at 1), (1000006, (sD.put nD x nD).v.at 2)], hp := jN (sD.put nD x nD).os }
def aJf (σ : St) : St := { sl := [(4, σ.slot 1000004), (5, σ.slot 1000005), (6, σ.slot 1000006)], hp := σ.hp }
def kD : Xt → St → Option O37 := fun e σ => match e with
 | .normal | .ret => uT E84 ins37.io aGk Tryz.f37.results.toList (aJf σ)
 | _ => none
def bJj (x : sD.T) : Option O37 := ex E84 [] B84 O37 (stD x) kD
theorem bF2 : bJj = nN := by kernel_rfl
def bIy : SV := .val bCc (.inr () : Int ⊕ Unit)
def deferred (σ : St) (v : SV) : Option O37 := match sD.get (σ.set 1000007 v) (aEe (σ.set 1000007 v) vD) [] with
 | some (x, vis, bor) => bif eB bor vis then nN x else none
 | none => none
def kC : Xt → St → Option O37 := fun e σ => match e with
 | .normal | .ret => deferred σ bIy
 | .panic v => deferred σ v
 | .exit _ => none
def r4 (σ : St) : St := (((σ.set 1000004 (σ.slot 4)).set 1000005 (σ.slot 5)).set 1000006 (σ.slot 6)).set 28 .dead
def H37 : List (Nat × Hint) := [(7, ⟨[29, 30], [4, 5, 6, 7, 1000004, 1000005, 1000006, 9, 31], Y1⟩), (12, ⟨[43], [9, 1000006, 1000005, 1000004, 6, 5, 4, 42, 44], Y2⟩), (17, ⟨[], [4, 5, 6, 1000004, 1000005, 1000006, 9, 52, 53], Y3⟩)]
def kA (F82 : D82) (F83 : D83) (F85 : D85) : Xt → St → Option O37 := fun e σ => match e with
 | .normal => ex (E37 F82 F83 F85) H37 C37 O37 (r4 σ) kC
 | .ret => uT (E37 F82 F83 F85) ins37.io aGk Tryz.f37.results.toList σ
 | _ => none
def kA2 (F82 : D82) (F83 : D83) (F85 : D85) : Xt → St → Option O37 := fun e σ => match e with
 | .normal => ex (E37 F82 F83 F85) [] A2 O37 σ (kA F82 F83 F85)
 | _ => none
def kA1 (F82 : D82) (F83 : D83) (F85 : D85) : Xt → St → Option O37 := fun e σ => match e with
 | .normal => ex (E37 F82 F83 F85) [] A1 O37 σ (kA2 F82 F83 F85)
 | _ => none
def bHe (F82 : D82) (F83 : D83) (F85 : D85) (x : ins37.T) : Option O37 := ex (E37 F82 F83 F85) [] A0 O37 (yN 0 ins37 x) (kA1 F82 F83 F85)
theorem bDe (F82 : D82) (F83 : D83) (F85 : D85) : bHe F82 F83 F85 = xS F82 F83 F85 := by kernel_rfl
end Ab
end
section
set_option maxRecDepth 100000
namespace Ab
open Go Go.Proofs
variable {P : Program} {C : Cx} {σ : St} {ρ : Nat → Loc} {pr : dU} {w : World} {a : Act} {f : Nat → Value} {g : Nat → Value} {n : Nat}
theorem Mo.reslot {sl : List (Nat × SV)} {f' : Nat → Value} (M : Mo C σ ρ pr f w) (h : ∀ i u, lk sl i = some u → Rp σ.obj ρ w pr u [f' i]) : Mo C ⟨sl, σ.hp⟩ ρ pr f' w :=
 { sl := h, hp := M.hp, inj := M.inj, prot := M.prot, os := M.os, tape := M.tape, output := M.output, size := M.size, heap := M.heap, prC := M.prC, prN := M.prN, ownC := M.ownC }
theorem bIb : Tryz.f84.body = some c84 := by kernel_rfl
theorem aZ2 : R84 = #[fM R84 0, fM R84 1] := by kernel_rfl
theorem bHx : (fM R84 0).guard = none := by kernel_rfl
theorem bEi : (fM R84 0).dst = some 6 := by kernel_rfl
theorem bIx : (fM R84 0).op = .call { callee := .builtin .recover, args := #[], argTypes := #[] } := by kernel_rfl
theorem bHv : (fM R84 1).guard = none := by kernel_rfl
theorem bHw : (fM R84 1).dst = some 3 := by kernel_rfl
theorem bIw : (fM R84 1).op = .assign (.tmp 6) := by kernel_rfl
theorem d84 : ∀ i ∈ Code.dsts B84, i < 17 := by
 have : (Code.dsts B84).all (fun i => Nat.blt i 17) = true := by kernel_rfl
 exact fun i hi => Nat.le_of_ble_eq_true (List.all_eq_true.1 this i hi)
theorem bIo (x : sD.T) (i : Nat) (u : SV) (h : lk (stD x).sl i = some u) : (i = 0 ∧ u = (sD.put nD x nD).v.at 0) ∨ (i = 1 ∧ u = (sD.put nD x nD).v.at 1) ∨ (i = 2 ∧ u = (sD.put nD x nD).v.at 2) ∨ (i = 3 ∧ u = (sD.put nD x nD).v.at 3) ∨
  (i = 1000004 ∧ u = (sD.put nD x nD).v.at 0) ∨ (i = 1000005 ∧ u = (sD.put nD x nD).v.at 1) ∨ (i = 1000006 ∧ u = (sD.put nD x nD).v.at 2) := by
 simp only [stD, fG] at h
 repeat' split at h
 all_goals first | (cases h; simp_all; done) | (simp [lk] at h)
theorem aM6 {ops : Array Oper} {Q : Exit → Act → List Frame → World → Prop} {i : Nat} {rest : List Nat} {o : Oper} {cs : List Frame} {a : Act} {w : World} {v : Value} {cs' : List Frame} (h : ops[i]? = some o) (hw : Region.wanted o (yielded ops a.tmps) = true) (hr : (execOp a.eval o).run P w = .ok .recover w)
  (hv : (recoverD cs = some (v, cs')) ∨ (recoverD cs = none ∧ v = .nilIface ∧ cs' = cs)) (k : wpOpsS P ops Q rest (a.put o.dst v) cs' w) : wpOpsS P ops Q (i :: rest) a cs w := by
 rw [wpOpsS]
 simp only [h, hw, if_true, hr]
 rcases hv with hv | ⟨hv, rfl, rfl⟩
 ·rw [hv]; exact k
 rw [hv]; exact k
theorem bH7 {y : O37} {v : SV} {u : Value} {U : FrameMode} (hU : (U = .returning ∧ u = .nilIface) ∨ U = .panicking [{ v := u, recovered := false }]) (hG : Gl Tryz.prog C)
  (M : Mo C (σ.set 1000007 v) ρ pr f w) (hu : f 1000007 = u) (hy : deferred σ v = some y) :
  CallsD Tryz.prog 84 #[f 1000004, f 1000005, f 1000006] U w fun e u' w' => e = .returned (.tuple #[]) ∧ settle u' = .returning ∧ ∃ σ2 ρ2 pr2 f2, uT E84 ins37.io aGk Tryz.f37.results.toList (aJf σ2) = some y ∧
   Mo C σ2 ρ2 pr2 f2 w' ∧ f2 1000004 = f 1000004 ∧ f2 1000005 = f 1000005 ∧ f2 1000006 = f 1000006 := by
 unfold deferred at hy
 split at hy
 case h_2 => cases hy
 rename_i x vis bor hget
 cases hdj : eB bor vis with
 | false => rw [hdj] at hy; cases hy
 | true =>
 rw [hdj] at hy
 have hy : nN x = some y := hy
 rw [← bF2] at hy
 obtain ⟨ρ1, pr1, M1, hp1⟩ := aCx (σ0 := {sl := [], hp := []}) (cs := []) (vs := vD) (ns := nD) M hget hdj (aA3 _ _) (uG _ _) (fun i h => by cases h)
 have s0 := M1.sl 1000004 ((sD.put nD x nD).v.at 0) rfl
 have s1 := M1.sl 1000005 ((sD.put nD x nD).v.at 1) rfl
 have s2 := M1.sl 1000006 ((sD.put nD x nD).v.at 2) rfl
 have s3 := M1.sl 1000007 ((sD.put nD x nD).v.at 3) rfl
 refine callsD_of_wpS Tryz.func84 bIb fun c₀ cs hc => ?_
 have hnt : Tryz.f84.ntmps = 17 := by kernel_rfl
 rw [hnt, bH8]
 refine wpS_seq (wpS_region ?_)
 generalize ha0 : ({ tmps := #[f 1000004, f 1000005, f 1000006] ++ Array.replicate (17 - #[f 1000004, f 1000005, f 1000006].size) undef, defers := [] } : Act) = a0
 have hsz : a0.tmps.size = 17 := by rw [← ha0]; simp
 have hl0 : a0.eval (.tmp 0) = f 1000004 := by rw [← ha0]; simp [Act.eval]
 have hl1 : a0.eval (.tmp 1) = f 1000005 := by rw [← ha0]; simp [Act.eval]
 have hl2 : a0.eval (.tmp 2) = f 1000006 := by rw [← ha0]; simp [Act.eval]
 have hd0 : a0.defers = [] := by rw [← ha0]
 have hrg : List.range R84.size = [0, 1] := by rw [aZ2]; rfl
 have hx0 : R84[0]? = some (fM R84 0) := by rw [aZ2]; rfl
 have hx1 : R84[1]? = some (fM R84 1) := by rw [aZ2]; rfl
 rw [hrg]
 have e0 : (execOp a0.eval (fM R84 0)).run Tryz.prog w = .ok .recover w := by
  unfold execOp
  simp only [bIx, resolve]
  rfl
 have e1 : (execOp (a0.put (some 6) u).eval (fM R84 1)).run Tryz.prog w = .ok (.value u) w := by
  unfold execOp
  simp only [bIw, Sem.run_pure]
  congr 2
  rw [← ha0]
  simp [Act.eval, Act.put]
 have fin : ∀ cs' u', cs' = { c₀ with mode := u' } :: cs → settle u' = .returning →
   wpOpsS Tryz.prog R84 (Exit.thenS (B84.wpS Tryz.prog (bodyPostS Tryz.prog Tryz.f84 c₀ cs fun e u' w' => e = .returned (.tuple #[]) ∧ settle u' = .returning ∧ ∃ σ2 ρ2 pr2 f2, uT E84 ins37.io aGk Tryz.f37.results.toList (aJf σ2) = some y ∧
    Mo C σ2 ρ2 pr2 f2 w' ∧ f2 1000004 = f 1000004 ∧ f2 1000005 = f 1000005 ∧ f2 1000006 = f 1000006))
    (bodyPostS Tryz.prog Tryz.f84 c₀ cs fun e u' w' => e = .returned (.tuple #[]) ∧ settle u' = .returning ∧ ∃ σ2 ρ2 pr2 f2, uT E84 ins37.io aGk Tryz.f37.results.toList (aJf σ2) = some y ∧
    Mo C σ2 ρ2 pr2 f2 w' ∧ f2 1000004 = f 1000004 ∧ f2 1000005 = f 1000005 ∧ f2 1000006 = f 1000006)) [1] (a0.put (some 6) u) cs' w := by
  intro cs' u' hcs hset
  have hw1 : Region.wanted (fM R84 1) (yielded R84 (a0.put (some 6) u).tmps) = true := by simp [Region.wanted, bHv]
  simp only [wpOpsS, hx1, hw1, if_true, e1, Oper.upon_value, bHw]
  show B84.wpS Tryz.prog _ _ _ _
  have M2 : Mo C (stD x) ρ1 pr1 (fa f ((a0.put (some 6) u).put (some 3) u)) w := by
   refine M1.reslot (sl := (stD x).sl) (fun i z hz => ?_)
   have z0 : fa f ((a0.put (some 6) u).put (some 3) u) 0 = f 1000004 := by rw [← ha0]; simp [fa, Act.put]
   have z1 : fa f ((a0.put (some 6) u).put (some 3) u) 1 = f 1000005 := by rw [← ha0]; simp [fa, Act.put]
   have z2 : fa f ((a0.put (some 6) u).put (some 3) u) 2 = f 1000006 := by rw [← ha0]; simp [fa, Act.put]
   have z3 : fa f ((a0.put (some 6) u).put (some 3) u) 3 = f 1000007 := by rw [← ha0, hu]; simp [fa, Act.put]
   have z4 : fa f ((a0.put (some 6) u).put (some 3) u) 1000004 = f 1000004 := rfl
   have z5 : fa f ((a0.put (some 6) u).put (some 3) u) 1000005 = f 1000005 := rfl
   have z6 : fa f ((a0.put (some 6) u).put (some 3) u) 1000006 = f 1000006 := rfl
   rcases bIo x i z hz with ⟨rfl, rfl⟩ | ⟨rfl, rfl⟩ | ⟨rfl, rfl⟩ | ⟨rfl, rfl⟩ | ⟨rfl, rfl⟩ | ⟨rfl, rfl⟩ | ⟨rfl, rfl⟩
   ·rw [z0]; exact s0
   ·rw [z1]; exact s1
   ·rw [z2]; exact s2
   ·rw [z3]; exact s3
   ·rw [z4]; exact s0
   ·rw [z5]; exact s1
   ·rw [z6]; exact s2
  have hsz2 : ((a0.put (some 6) u).put (some 3) u).tmps.size = 17 := (mG _ _ _).trans ((mG _ _ _).trans hsz)
  have hdf2 : ((a0.put (some 6) u).put (some 3) u).defers = [] := by rw [gX, gX, hd0]
  refine wpS_of_wp (wp_mono (nP (E := E84) (n := 17) (df := []) aXr bI0 vX (by decide) B84 hy hG M2 hsz2 hdf2 d84) ?_)
  have endk : ∀ {σ2 : St} {ρ2 : Nat → Loc} {pr2 : dU} {a2 : Act} {w2 : World}, uT E84 ins37.io aGk Tryz.f37.results.toList (aJf σ2) = some y → Mo C σ2 ρ2 pr2 (fa f a2) w2 → a2.defers = [] →
    a2.defers = [] ∧ ∃ u', cs' = { c₀ with mode := u' } :: cs ∧ ∃ v, (results Tryz.f84 a2.tmps).run Tryz.prog w2 = .ok v w2 ∧ ((.returned v : Ending) = .returned (.tuple #[]) ∧ settle u' = .returning ∧ ∃ σ2 ρ2 pr2 f2, uT E84 ins37.io aGk Tryz.f37.results.toList (aJf σ2) = some y ∧
    Mo C σ2 ρ2 pr2 f2 w2 ∧ f2 1000004 = f 1000004 ∧ f2 1000005 = f 1000005 ∧ f2 1000006 = f 1000006) := by
   intro σ2 ρ2 pr2 a2 w2 hk M3 hd
   refine ⟨hd, u', hcs, .tuple #[], ?_, rfl, hset, σ2, ρ2, pr2, _, hk, M3, rfl, rfl, rfl⟩
   have : Tryz.f84.results = #[] := by kernel_rfl
   simp [results, this]
  rintro e a2 w2 ⟨xx, σ2, ρ2, pr2, hx, hk, M3, ha2, hdf2, ho2⟩
  cases hx with
  | normal => exact endk hk M3 hdf2
  | exit i => cases hk
  | ret => exact endk hk M3 hdf2
  | panic v u q _ => cases hk
 have hw0 : Region.wanted (fM R84 0) (yielded R84 a0.tmps) = true := by simp [Region.wanted, bHx]
 rcases hU with ⟨rfl, rfl⟩ | rfl
 ·refine aM6 (v := .nilIface) (cs' := c₀ :: cs) hx0 hw0 e0 (.inr ⟨by simp [recoverD, hc], rfl, rfl⟩) ?_
  rw [bEi]
  exact fin (c₀ :: cs) .returning (by rw [← hc]) rfl
 refine aM6 (v := u) (cs' := { c₀ with mode := .panicking [{ v := u, recovered := true }] } :: cs) hx0 hw0 e0 (.inl (by simp [recoverD, hc])) ?_
 rw [bEi]
 exact fin _ (.panicking [{ v := u, recovered := true }]) rfl rfl
end Ab
end
section
set_option maxRecDepth 100000
namespace Ab
open Go Go.Proofs
section
variable {P : Program} {ops : Array Oper} {Q : Exit → Act → World → Prop} {a : Act} {w : World}
theorem aSo {o : Oper} {rest : List Oper} {v : Value} (hg : o.guard = none) (hr : (execOp a.eval o).run P w = .ok (.value v) w) (h : wpList P ops Q rest (a.put o.dst v) w) : wpList P ops Q (o :: rest) a w := by
 simp only [wpList]
 have hw : Region.wanted o (yielded ops a.tmps) = true := by simp [Region.wanted, hg]
 rw [if_pos hw]
 refine .inl ?_
 unfold Oper.wp
 rw [hr, Oper.upon_value]
 exact h
theorem aSp {o : Oper} {rest : List Oper} {d : Deferred} (hg : o.guard = none) (hr : (execOp a.eval o).run P w = .ok (.defer d) w) (h : wpList P ops Q rest ({ a with defers := d :: a.defers }.put o.dst undef) w) : wpList P ops Q (o :: rest) a w := by
 simp only [wpList]
 have hw : Region.wanted o (yielded ops a.tmps) = true := by simp [Region.wanted, hg]
 rw [if_pos hw]
 refine .inl ?_
 unfold Oper.wp
 rw [hr, Oper.upon_defer]
 exact h
end
theorem bId : Tryz.f37.body = some c37 := by kernel_rfl
theorem bJe : R4.toList = [fM R4 0, fM R4 1] := by kernel_rfl
theorem bIs : (fM R4 0).guard = none := by kernel_rfl
theorem bIt : (fM R4 0).dst = some 28 := by kernel_rfl
theorem bJm : (fM R4 0).op = .makeFunc (.func 84) #[] #[.tmp 4, .tmp 5, .tmp 6] := by kernel_rfl
theorem bIq : (fM R4 1).guard = none := by kernel_rfl
theorem bIr : (fM R4 1).dst = none := by kernel_rfl
theorem bJl : (fM R4 1).op = .defer { callee := .value (.tmp 28), args := #[], argTypes := #[] } := by kernel_rfl
theorem dA0 : ∀ i ∈ Code.dsts A0, i < 71 := by
 have : (Code.dsts A0).all (fun i => Nat.blt i 71) = true := by kernel_rfl
 exact fun i hi => Nat.le_of_ble_eq_true (List.all_eq_true.1 this i hi)
theorem dA1 : ∀ i ∈ Code.dsts A1, i < 71 := by
 have : (Code.dsts A1).all (fun i => Nat.blt i 71) = true := by kernel_rfl
 exact fun i hi => Nat.le_of_ble_eq_true (List.all_eq_true.1 this i hi)
theorem dA2 : ∀ i ∈ Code.dsts A2, i < 71 := by
 have : (Code.dsts A2).all (fun i => Nat.blt i 71) = true := by kernel_rfl
 exact fun i hi => Nat.le_of_ble_eq_true (List.all_eq_true.1 this i hi)
theorem bI1 : ∀ i ∈ Code.dsts C37, i < 71 ∧ i ≠ 4 ∧ i ≠ 5 ∧ i ≠ 6 := by
 have : (Code.dsts C37).all (fun i => Nat.blt i 71 && (!Nat.beq i 4 && (!Nat.beq i 5 && !Nat.beq i 6))) = true := by kernel_rfl
 intro i hi
 have := List.all_eq_true.1 this i hi
 simp only [Bool.and_eq_true, Bool.not_eq_true'] at this
 exact ⟨Nat.le_of_ble_eq_true this.1, (fun e => by rw [e] at this; cases this.2.1), (fun e => by rw [e] at this; cases this.2.2.1), (fun e => by rw [e] at this; cases this.2.2.2)⟩
theorem aWj {F82 : D82} {F83 : D83} {F85 : D85} (h82 : FnOK Tryz.prog 82 ⟨ins82, aVq, F82, []⟩) (h83 : FnOK Tryz.prog 83 ⟨ins83, bDg, F83, []⟩) (h85 : FnOKP Tryz.prog 85 ⟨ins85, .tup .nil, .sc bCc, F85, []⟩) :
  FnOK Tryz.prog 37 ⟨ins37, aGk, xS F82 F83 F85, []⟩ where
 ent := fn_ent Tryz.func37 (by kernel_rfl) (by kernel_rfl)
 calls := by
  intro C ρ gx args w x y hgx hy hG M q
  have hgx : gx = [] := List.eq_nil_of_length_eq_zero hgx
  subst hgx
  have hy : xS F82 F83 F85 x = some y := hy
  rw [← bDe] at hy
  unfold bHe at hy
  have henv : zV Tryz.prog (E37 F82 F83 F85) := EnvL.okP (EnvL.cons (OneL.one h82) (EnvL.cons (OneL.one h83) EnvL.nil)) (EnvP.cons (OneP.cons h85 OneP.nil) EnvP.nil)
  obtain ⟨Ms, hl⟩ := aH6 (ins := ins37) (nx := 0) (gx := []) rfl (by decide) (by decide) rfl M q (Tryz.f37.ntmps - args.size)
  have has : args.size = 2 := by
   have h1 : ins37.len = 2 := rfl
   rw [h1] at hl
   simpa using hl
  have hnt : Tryz.f37.ntmps = 71 := by kernel_rfl
  generalize hact : jM args (Tryz.f37.ntmps - args.size) = act0 at Ms
  have hsz0 : act0.tmps.size = 71 := by rw [← hact, hnt]; simp [jM, has]
  have hdf0 : act0.defers = [] := by rw [← hact]; rfl
  refine calls_of_wp_defers Tryz.func37 bId ?_
  have he : ({ tmps := args ++ Array.replicate (Tryz.f37.ntmps - args.size) undef, defers := [] } : Act) = act0 := hact
  rw [he, bIa]
  refine wp_seq (wp_mono (nP (E := E37 F82 F83 F85) (n := 71) (df := []) aXr henv vX (by decide) A0 hy hG Ms hsz0 hdf0 dA0) ?_)
  rintro e a1 w1 ⟨xx, σ1, ρ1, pr1, hx, hk1, M1, ha1, hdf1, ho1⟩
  cases hx with
  | exit i => cases hk1
  | ret => cases hk1
  | panic v u q _ => cases hk1
  | normal =>
  refine wp_seq (wp_mono (nP (E := E37 F82 F83 F85) (n := 71) (df := []) aXr henv vX (by decide) A1 hk1 hG M1 ha1 hdf1 dA1) ?_)
  rintro e a2 w2 ⟨xx, σ2, ρ2, pr2, hx, hk2, M2, ha2, hdf2, ho2⟩
  cases hx with
  | exit i => cases hk2
  | ret => cases hk2
  | panic v u q _ => cases hk2
  | normal =>
  have hk2 : ex (E37 F82 F83 F85) [] A2 O37 σ2 (kA F82 F83 F85) = some y := hk2
  refine wp_seq (wp_mono (nP (E := E37 F82 F83 F85) (n := 71) (df := []) aXr henv vX (by decide) A2 hk2 hG M2 ha2 hdf2 dA2) ?_)
  rintro e a3 w3 ⟨xx, σ3, ρ3, pr3, hx, hk3, M3, ha3, hdf3, ho3⟩
  cases hx with
  | exit i => cases hk3
  | panic v u q _ => cases hk3
  | ret =>
   show Leaves Tryz.prog Tryz.f37 a3.tmps _ a3.defers .returning w3
   rw [hdf3]
   exact aDw (E := E37 F82 F83 F85) aXr M3 rfl hl hk3
  | normal =>
  refine wp_seq (wp_region_list ?_)
  rw [bJe]
  generalize hv4 : a3.eval (.tmp 4) = v4
  generalize hv5 : a3.eval (.tmp 5) = v5
  generalize hv6 : a3.eval (.tmp 6) = v6
  generalize hfv : Value.func (.func 84) #[] #[v4, v5, v6] = fv
  have e0 : (execOp a3.eval (fM R4 0)).run Tryz.prog w3 = .ok (.value fv) w3 := by
   unfold execOp
   have hmf : ∀ (fn : Fn) (first cap : Array Value) (w : World), (Instr.makeFunc fn first cap).run Tryz.prog w = .ok (.func fn first cap) w := fun _ _ _ _ => rfl
   simp only [bJm, Sem.run_bind, hmf, Result.andThen, Sem.run_pure]
   rw [← hfv, ← hv4, ← hv5, ← hv6]
   simp
  refine aSo bIs e0 ?_
  rw [bIt]
  have e1 : (execOp (a3.put (some 28) fv).eval (fM R4 1)).run Tryz.prog w3 = .ok (.defer { target := .fn (.func 84) #[v4, v5, v6], args := #[] }) w3 := by
   unfold execOp
   simp only [bJl, resolve]
   have : (a3.put (some 28) fv).eval (.tmp 28) = fv := by simp [Act.eval, Act.put, ha3]
   rw [this, ← hfv]
   simp only [Deferred.ofValue, Sem.run_bind, Sem.run_pure, Result.andThen]
   simp
  refine aSp bIq e1 ?_
  rw [bIr]
  generalize hd : ({ target := .fn (.func 84) #[v4, v5, v6], args := #[] } : Deferred) = d
  generalize ha4e : ({ a3.put (some 28) fv with defers := d :: (a3.put (some 28) fv).defers } : Act).put none undef = a4
  have ht4 : a4.tmps = (a3.put (some 28) fv).tmps := by rw [← ha4e]; rfl
  have hd4 : a4.defers = [d] := by rw [← ha4e]; show d :: (a3.put (some 28) fv).defers = [d]; rw [gX, hdf3]
  have hs4 : a4.tmps.size = 71 := by rw [ht4]; exact (mG _ _ _).trans ha3
  let g' : Nat → Value := fun i => if i = 1000004 then v4 else if i = 1000005 then v5 else if i = 1000006 then v6 else lZ ([] ++ args.toList) i
  have q4 := qL M3 4
  have q5 := qL M3 5
  have q6 := qL M3 6
  have f4 : fa (lZ ([] ++ args.toList)) a3 4 = v4 := hv4
  have f5 : fa (lZ ([] ++ args.toList)) a3 5 = v5 := hv5
  have f6 : fa (lZ ([] ++ args.toList)) a3 6 = v6 := hv6
  rw [f4] at q4
  rw [f5] at q5
  rw [f6] at q6
  have M4 : Mo C (r4 σ3) ρ3 pr3 (fa g' a4) w3 := by
   refine M3.reslot (sl := (r4 σ3).sl) (fun i u hu => ?_)
   have hsl : (r4 σ3).sl = (28, .dead) :: (1000006, σ3.slot 6) :: (1000005, σ3.slot 5) :: (1000004, σ3.slot 4) :: σ3.sl := rfl
   rw [hsl] at hu
   simp only [fG] at hu
   split at hu
   ·cases hu; exact ⟨_, rfl⟩
   rename_i h28
   split at hu
   ·rename_i e; cases hu; rw [← e]; exact q6
   rename_i h6
   split at hu
   ·rename_i e; cases hu; rw [← e]; exact q5
   rename_i h5
   split at hu
   ·rename_i e; cases hu; rw [← e]; exact q4
   rename_i h4
   have e : fa g' a4 i = fa (lZ ([] ++ args.toList)) a3 i := by
    simp only [fa, g']
    split
    ·rw [ht4]
     simp only [Array.getD_eq_getD_getElem?]
     rw [qF _ _ _ i (by simpa using h28)]
    ·rw [if_neg (fun h => h4 h.symm), if_neg (fun h => h5 h.symm), if_neg (fun h => h6 h.symm)]
   rw [e]
   exact M3.sl i u hu
  have hk3 : ex (E37 F82 F83 F85) H37 C37 O37 (r4 σ3) kC = some y := hk3
  refine wp_mono (nP (E := E37 F82 F83 F85) (n := 71) (df := [d]) aXr henv vX (by decide) C37 hk3 hG M4 hs4 hd4 (fun i hi => (bI1 i hi).1)) ?_
  rintro e a5 w5 ⟨xx, σ5, ρ5, pr5, hx, hk5, M5, ha5, hdf5, ho5⟩
  have hkeep : ∀ i, i = 4 ∨ i = 5 ∨ i = 6 → a5.tmps.getD i undef = a3.tmps.getD i undef := fun i hi => by
   simp only [Array.getD_eq_getD_getElem?]
   rw [ho5 i (fun h => by have := (bI1 i h).2; omega), ht4, qF _ _ _ i (by rcases hi with rfl | rfl | rfl <;> decide)]
  have fin : ∀ {v : SV} {u : Value} {U : FrameMode}, ((U = .returning ∧ u = .nilIface) ∨ U = .panicking [{ v := u, recovered := false }]) → Rp σ5.obj ρ5 w5 pr5 v [u] → deferred σ5 v = some y →
    Leaves Tryz.prog Tryz.f37 a5.tmps (fun e w' => ∃ v, e = .returned v ∧ ∃ σe ρe pre fe gs rv vis bor, Mo C σe ρe pre fe w' ∧
     (Sh.out ins37.io aGk).get σe (.cons (.tup gs) (.cons rv .nil)) [] = some (y, vis, bor) ∧ eB bor vis = true ∧
     Rp σe.obj ρe w' pre gs ([] ++ args.toList) ∧ Rp σe.obj ρe w' pre rv [v]) [d] U w5 := by
   intro v u U hU qv hy5
   rw [← hd]
   have M6 := M5.set 1000007 v u qv
   have c := bH7 hU hG M6 (by simp) hy5
   have g4 : (if 1000004 = 1000007 then u else fa g' a5 1000004) = v4 := rfl
   have g5 : (if 1000005 = 1000007 then u else fa g' a5 1000005) = v5 := rfl
   have g6 : (if 1000006 = 1000007 then u else fa g' a5 1000006) = v6 := rfl
   rw [g4, g5, g6] at c
   refine leaves_cons (f := 84) (args := #[v4, v5, v6]) (by rcases hU with ⟨rfl, _⟩ | rfl <;> simp) ?_ (c.mono ?_)
   ·show (callFunc 84 (#[] ++ #[v4, v5, v6])).run Tryz.prog w5 = _
    rw [Array.empty_append]
    exact fn_ent Tryz.func84 (by kernel_rfl) (by kernel_rfl) _ _
   ·rintro e u' w6 ⟨rfl, hset, σ7, ρ7, pr7, f7, hk7, M7, h4, h5, h6⟩
    show Leaves Tryz.prog Tryz.f37 a5.tmps _ [] (settle u') w6
    rw [hset]
    have s4 := qL M7 1000004
    have s5 := qL M7 1000005
    have s6 := qL M7 1000006
    rw [h4] at s4
    rw [h5] at s5
    rw [h6] at s6
    have k4 : fa (lZ ([] ++ args.toList)) a5 4 = v4 := (hkeep 4 (by simp)).trans hv4
    have k5 : fa (lZ ([] ++ args.toList)) a5 5 = v5 := (hkeep 5 (by simp)).trans hv5
    have k6 : fa (lZ ([] ++ args.toList)) a5 6 = v6 := (hkeep 6 (by simp)).trans hv6
    have M8 : Mo C (aJf σ7) ρ7 pr7 (fa (lZ ([] ++ args.toList)) a5) w6 := by
     refine M7.reslot (sl := (aJf σ7).sl) (fun i z hz => ?_)
     have hsl : (aJf σ7).sl = [(4, σ7.slot 1000004), (5, σ7.slot 1000005), (6, σ7.slot 1000006)] := rfl
     rw [hsl] at hz
     simp only [fG] at hz
     split at hz
     ·rename_i e; cases hz; rw [← e, k4]; exact s4
     split at hz
     ·rename_i e; cases hz; rw [← e, k5]; exact s5
     split at hz
     ·rename_i e; cases hz; rw [← e, k6]; exact s6
     simp [lk] at hz
    exact aDw (E := E84) aXr M8 rfl hl hk7
  have qn : Rp σ5.obj ρ5 w5 pr5 bIy [.nilIface] := ⟨rfl, fun _ => rfl, .inl rfl⟩
  cases hx with
  | exit i => cases hk5
  | ret =>
   show Leaves Tryz.prog Tryz.f37 a5.tmps _ a5.defers .returning w5
   rw [hdf5]
   exact fin (.inl ⟨rfl, rfl⟩) qn hk5
  | normal =>
   show Leaves Tryz.prog Tryz.f37 a5.tmps _ a5.defers .returning w5
   rw [hdf5]
   exact fin (.inl ⟨rfl, rfl⟩) qn hk5
  | panic v u q _ =>
   show Leaves Tryz.prog Tryz.f37 a5.tmps _ a5.defers (.panicking [{ v := u, recovered := false }]) w5
   rw [hdf5]
   exact fin (.inr rfl) q hk5
end Ab
end
