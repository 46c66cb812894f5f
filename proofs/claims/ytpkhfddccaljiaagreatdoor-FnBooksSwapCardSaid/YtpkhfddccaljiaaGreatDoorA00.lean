/-
A part of the proof: pure functions told of the program, and laws about them.
-/
import GoSem.Core.View
import GoSem.Core.Region
import Derived.Orders
import Derived.Below
import Derived.Laws.MakeOwn
import Derived.Laws.OwnMore
import Derived.Laws.Rows
import Derived.Laws.Cells
import Derived.Laws.Slices
import Derived.Laws.BytesString
import Derived.MapKept
set_option linter.all false
noncomputable section
namespace Ab
open Go
inductive Ty where
 | int (k : IntKind) | bool | str | sl (r : Ty) | nil | cons (a b : Ty)
 | noi
 | alt (t : Nat) (g : Bool) (r rest : Ty)
 | ern
def kEq : IntKind → IntKind → Bool
 | .i8, .i8 => true | .i16, .i16 => true | .i32, .i32 => true | .i64, .i64 => true
 | .u8, .u8 => true | .u16, .u16 => true | .u32, .u32 => true | .u64, .u64 => true
 | _, _ => false
theorem aEz {a b : IntKind} (h : kEq a b = true) : a = b := by cases a <;> cases b <;> first | rfl | cases h
def bEq : Bool → Bool → Bool
 | true, b => b
 | false, b => !b
def Ty.eq : Ty → Ty → Bool
 | .int k, .int k' => kEq k k'
 | .bool, .bool => true
 | .str, .str => true
 | .sl r, .sl r' => r.eq r'
 | .nil, .nil => true
 | .cons a b, .cons a' b' => a.eq a' && b.eq b'
 | .noi, .noi => true
 | .alt t g r s, .alt t' g' r' s' => Nat.beq t t' && bEq g g' && r.eq r' && s.eq s'
 | .ern, .ern => true
 | _, _ => false
theorem aUm {a b : Bool} (h : bEq a b = true) : a = b := by cases a <;> cases b <;> first | rfl | cases h
theorem Ty.eq_eq {a b : Ty} (h : a.eq b = true) : a = b := by
 induction a generalizing b with
 | int k => cases b <;> first | (cases h; done) | (rw [aEz (show kEq k _ = true from h)])
 | sl r ih => cases b <;> first | (cases h; done) | (rw [ih (show r.eq _ = true from h)])
 | cons a c iha ihc =>
  cases b <;> first | (cases h; done) | skip
  have h := (Bool.and_eq_true _ _).mp (show (a.eq _ && c.eq _) = true from h)
  rw [iha h.1, ihc h.2]
 | alt t g r s ihr ihs =>
  cases b <;> first | (cases h; done) | skip
  have h := (Bool.and_eq_true _ _).mp (show (Nat.beq t _ && bEq g _ && r.eq _ && s.eq _) = true from h)
  have h1 := (Bool.and_eq_true _ _).mp h.1
  have h2 := (Bool.and_eq_true _ _).mp h1.1
  rw [Nat.eq_of_beq_eq_true h2.1, aUm h2.2, ihr h1.2, ihs h.2]
 | _ => cases b <;> first | rfl | cases h
@[reducible] def jT (ua ub : Bool) (A B : Type) : Type := match ua, ub with
 | true, _ => B
 | false, true => A
 | false, false => A × B
def bEx : (ua ub : Bool) → {A B : Type} → A → jT ua ub A B → A
 | true, _, _, _, d, _ => d
 | false, true, _, _, _, x => x
 | false, false, _, _, _, x => x.1
def bEw : (ua ub : Bool) → {A B : Type} → B → jT ua ub A B → B
 | true, _, _, _, _, x => x
 | false, true, _, _, d, _ => d
 | false, false, _, _, _, x => x.2
def jMk : (ua ub : Bool) → {A B : Type} → A → B → jT ua ub A B
 | true, _, _, _, _, b => b
 | false, true, _, _, a, _ => a
 | false, false, _, _, a, b => (a, b)
theorem aUc {ua ub : Bool} {A B : Type} {d : A} (a : A) (b : B) (h : ua = true → d = a) : bEx ua ub d (jMk ua ub a b) = a := by
 cases ua <;> cases ub <;> simp_all [bEx, jMk]
theorem aUb {ua ub : Bool} {A B : Type} {d : B} (a : A) (b : B) (h : ub = true → d = b) : bEw ua ub d (jMk ua ub a b) = b := by
 cases ua <;> cases ub <;> simp_all [bEw, jMk]
def Ty.isNil : Ty → Bool
 | .nil => true
 | _ => false
@[reducible] def Ty.T : Ty → Type
 | .int _ => Int
 | .bool => Bool
 | .str => ByteArray
 | .sl r => List r.T
 | .nil => Unit
 | .cons a b => jT false b.isNil a.T b.T
 | .noi => Unit
 | .alt _ _ r s => r.T ⊕ s.T
 | .ern => Bool
def Ty.isI : Ty → Bool
 | .noi | .alt _ _ _ _ | .ern => true
 | _ => false
def Ty.n : Ty → Nat
 | .nil => 0
 | .cons a b => a.n + b.n
 | _ => 1
def Ty.z : (t : Ty) → t.T
 | .int _ => (0 : Int)
 | .bool => false
 | .str => (⟨#[]⟩ : ByteArray)
 | .sl _ => []
 | .nil => ()
 | .cons a b => jMk false b.isNil a.z b.z
 | .noi => ()
 | .alt _ _ _ s => .inr s.z
 | .ern => false
def Ty.fst (a b : Ty) (x : (Ty.cons a b).T) : a.T := bEx false b.isNil a.z x
def Ty.snd (a b : Ty) (x : (Ty.cons a b).T) : b.T := bEw false b.isNil b.z x
def Ty.mk (a b : Ty) (x : a.T) (y : b.T) : (Ty.cons a b).T := jMk false b.isNil x y
theorem Ty.isNil_eq : ∀ {b : Ty}, b.isNil = true → b = .nil
 | .nil, _ => rfl
theorem Ty.fst_mk (a b : Ty) (x : a.T) (y : b.T) : Ty.fst a b (Ty.mk a b x y) = x := aUc x y (fun h => by cases h)
theorem Ty.snd_mk (a b : Ty) (x : a.T) (y : b.T) : Ty.snd a b (Ty.mk a b x y) = y :=
 aUb x y (fun h => by have := Ty.isNil_eq h; subst this; rfl)
def Ty.one : Ty → Bool
 | .nil | .cons _ _ => false
 | _ => true
def Ty.wf : Ty → Bool
 | .cons a b => a.one && b.wf
 | _ => true
def Ty.cast (t t' : Ty) (x : t.T) : Option t'.T :=
 if h : t.eq t' = true then some ((Ty.eq_eq h) ▸ x) else none
def Ty.castM (kt vt kt' vt' : Ty) (es : List (kt.T × vt.T)) : Option (List (kt'.T × vt'.T)) :=
 if h : kt.eq kt' = true then if h2 : vt.eq vt' = true then some ((Ty.eq_eq h) ▸ (Ty.eq_eq h2) ▸ es) else none else none
def inb (i : Int) (n : Nat) : Bool := decide (0 ≤ i ∧ i < (n : Int))
def iG (r : Ty) (xs : List r.T) (i : Int) : r.T := xs.getD i.toNat r.z
def dP {α : Type} (xs : List α) (i : Int) (x : α) : List α := xs.set i.toNat x
def iH (s : ByteArray) (i : Int) : Int := ((s.data.getD i.toNat 0).toNat : Int)
def eH (lo hi : Int) (n : Nat) : Bool := decide (0 ≤ lo ∧ lo ≤ hi ∧ hi ≤ (n : Int))
def cut {α : Type} (xs : List α) (lo hi : Int) : List α := (xs.drop lo.toNat).take (hi.toNat - lo.toNat)
def aHn (s : ByteArray) (lo hi : Int) : ByteArray := s.extract lo.toNat hi.toNat
def fits (n bytes : Nat) : Bool := decide (n * bytes ≤ 140737488355328 ∧ n ≤ 4611686018427387904)
def aHe (n : Int) (bytes : Nat) : Bool := decide (0 ≤ n ∧ (bytes : Int) * n ≤ 281474976710656 ∧ n ≤ 9223372036854775807)
def eqS (a b : ByteArray) : Bool := a.toList == b.toList
def kM (a b : ByteArray) : Bool := decide (a.size + b.size ≤ 9223372036854775807)
def bytesOf (xs : List Int) : ByteArray := ⟨(xs.map fun n => UInt8.ofNat n.toNat).toArray⟩
def bJp (k : IntKind) (a b : Int) : Int := k.wrap (BitVec.ofInt k.bits a &&& BitVec.ofInt k.bits b).toNat
def orI (k : IntKind) (a b : Int) : Int := k.wrap (BitVec.ofInt k.bits a ||| BitVec.ofInt k.bits b).toNat
def bCf (k : IntKind) (a b : Int) : Int := k.wrap (BitVec.ofInt k.bits a ^^^ BitVec.ofInt k.bits b).toNat
def bJi (k : IntKind) (a b : Int) : Int := k.wrap (a * 2 ^ min b.toNat k.bits)
def bDd (k : IntKind) (a b : Int) : Int := a.fdiv (2 ^ min b.toNat k.bits)
def rounds {X R : Type} (Φ : (X → Option R) → X → Option R) : Nat → X → Option R
 | 0, _ => none
 | n + 1, x => Φ (rounds Φ n) x
def bAd (X R : Type) : {f : ((X → Option R) → X → Option R) → X → Option R // f = fun Φ x => rounds Φ 9223372036854775808 x} := Classical.choice ⟨⟨_, rfl⟩⟩
def bAr (S R : Type) : {f : Option S → (S → Option R) → Option R // f = fun m k => m.bind k} := Classical.choice ⟨⟨_, rfl⟩⟩
open Classical in
def bAq (R : Type) : {f : Option R → Option R → Option R // f = fun a b => if a = b then a else none} := Classical.choice ⟨⟨_, rfl⟩⟩
def bAf (X R : Type) : {f : Option (X ⊕ R) → (X → Option R) → Option R // f = fun m b => m.bind fun y => match y with | .inl x => b x | .inr r => some r} := Classical.choice ⟨⟨_, rfl⟩⟩
def bE {X R : Type} (Φ : (X → Option R) → X → Option R) (x : X) : Option R := (bAd X R).1 Φ x
def aD {S R : Type} (m : Option S) (k : S → Option R) : Option R := (bAr S R).1 m k
def dA {X R : Type} (m : Option (X ⊕ R)) (b : X → Option R) : Option R := (bAf X R).1 m b
def both {R : Type} (a b : Option R) : Option R := (bAq R).1 a b
theorem aW0 {X R : Type} (Φ : (X → Option R) → X → Option R) (x : X) : bE Φ x = rounds Φ 9223372036854775808 x := congrFun (congrFun (bAd X R).2 Φ) x
theorem oG {S R : Type} (m : Option S) (k : S → Option R) : aD m k = m.bind k := congrFun (congrFun (bAr S R).2 m) k
theorem aRq {X R : Type} (m : Option (X ⊕ R)) (b : X → Option R) : dA m b = m.bind fun y => match y with | .inl x => b x | .inr r => some r := congrFun (congrFun (bAf X R).2 m) b
open Classical in
theorem aMo {R : Type} (a b : Option R) : both a b = if a = b then a else none := congrFun (congrFun (bAq R).2 a) b
def Ty.same : (t : Ty) → t.T → t.T → Bool
 | .int _, a, b => decide (a = b)
 | .bool, a, b => bEq a b
 | .str, a, b => eqS a b
 | .cons a b, x, y => a.same (Ty.fst a b x) (Ty.fst a b y) && b.same (Ty.snd a b x) (Ty.snd a b y)
 | .nil, _, _ => true
 | _, _, _ => false
def aEy (kt vt : Ty) (k : kt.T) : List (kt.T × vt.T) → Option vt.T
 | [] => none
 | e :: l => bif kt.same e.1 k then some e.2 else aEy kt vt k l
def uU (kt vt : Ty) (k : kt.T) (v : vt.T) : List (kt.T × vt.T) → List (kt.T × vt.T)
 | [] => [(k, v)]
 | e :: l => bif kt.same e.1 k then (e.1, v) :: l else e :: uU kt vt k v l
def aC0 (kt vt : Ty) (k : kt.T) (es : List (kt.T × vt.T)) : vt.T := match aEy kt vt k es with
 | some v => v
 | none => vt.z
def aZt (kt vt : Ty) (k : kt.T) (es : List (kt.T × vt.T)) : Bool := match aEy kt vt k es with
 | some _ => true
 | none => false
inductive SV where
 | dead
 | val (t : Ty) (x : t.T)
 | nsl
 | nilp
 | hd (k : Nat)
 | ptr (k off : Nat)
 | elp (k : Nat) (i : Int) (off : Nat)
 | rop (t : Ty) (x : t.T)
 | agg (s : SV) | tup (s : SV)
 | nil | cons (a b : SV)
 | nli
 | fn (f : Nat) (s : SV)
 | mb (neg b : Bool)
 | arp (k n : Nat)
 | any
 | rap (r : Ty) (n : Nat) (xs : List r.T)
 | seg (r : Ty) (n : Nat) (xs : List r.T) (s : SV)
 | sgp (k o m n : Nat) (i : Int) (off : Nat)
 | mp (k : Nat)
inductive Obj where
 | map (kt vt : Ty) (es : List (kt.T × vt.T))
 | var (s : SV)
 | chunk (e : Nat) (r : Ty) (xs : List r.T)
 | ro (r : Ty) (xs : List r.T)
def Obj.isSl : Obj → Bool
 | .chunk _ _ _ | .ro _ _ => true
 | _ => false
def lk {α : Type} : List (Nat × α) → Nat → Option α
 | [], _ => none
 | p :: l, j => bif Nat.beq p.1 j then some p.2 else lk l j
structure St where
 sl : List (Nat × SV)
 hp : List (Nat × Option Obj)
def St.slot (σ : St) (i : Nat) : SV := match lk σ.sl i with | some v => v | none => .dead
def St.obj (σ : St) (k : Nat) : Option Obj := match lk σ.hp k with | some o => o | none => none
def St.set (σ : St) (i : Nat) (v : SV) : St := { σ with sl := (i, v) :: σ.sl }
def St.put (σ : St) (k : Nat) (o : Obj) : St := { σ with hp := (k, some o) :: σ.hp }
def St.setd (σ : St) (d : Option Nat) (v : SV) : St := match d with | some i => σ.set i v | none => σ
def SV.kill (k : Nat) : SV → SV
 | .hd j => bif Nat.beq j k then .dead else .hd j
 | .ptr j o => bif Nat.beq j k then .dead else .ptr j o
 | .elp j i o => bif Nat.beq j k then .dead else .elp j i o
 | .agg s => .agg (s.kill k)
 | .tup s => .tup (s.kill k)
 | .cons a b => .cons (a.kill k) (b.kill k)
 | .fn f s => .fn f (s.kill k)
 | .arp j n => bif Nat.beq j k then .dead else .arp j n
 | .seg r n xs s => .seg r n xs (s.kill k)
 | .sgp j o m n i off => bif Nat.beq j k then .dead else .sgp j o m n i off
 | .mp j => bif Nat.beq j k then .dead else .mp j
 | v => v
def Obj.kill (k : Nat) : Obj → Obj
 | .var s => .var (s.kill k)
 | o => o
def aHg (k : Nat) : List (Nat × SV) → List (Nat × SV)
 | [] => []
 | p :: l => (p.1, p.2.kill k) :: aHg k l
def aKg (k : Nat) : List (Nat × Option Obj) → List (Nat × Option Obj)
 | [] => []
 | p :: l => (match p.2 with | some o => (p.1, bif Nat.beq p.1 k then none else some (o.kill k)) | none => p) :: aKg k l
def St.kill (σ : St) (k : Nat) : St := { sl := aHg k σ.sl, hp := aKg k σ.hp }
def St.free (σ : St) (k : Nat) : Bool := match σ.obj k with | some _ => false | none => true
def St.stale (σ : St) (k : Nat) : St := match σ.obj k with
 | some o => { sl := aHg k σ.sl, hp := (k, some o) :: aKg k σ.hp }
 | none => σ
def St.rows (σ : St) (k : Nat) (r : Ty) : Option (List r.T) := match σ.obj k with
 | some (.chunk _ r' xs) => (Ty.cast (.sl r') (.sl r) xs)
 | some (.ro r' xs) => (Ty.cast (.sl r') (.sl r) xs)
 | _ => none
def St.freeze (σ : St) (k : Nat) : St := match σ.obj k with
 | some (.chunk _ r xs) => σ.put k (.ro r xs)
 | _ => σ
def St.freezes (σ : St) : List Nat → St
 | [] => σ
 | k :: l => (σ.freeze k).freezes l
def Ty.svs : (t : Ty) → t.T → SV
 | .nil, _ => .nil
 | .cons a b, x => .cons (.val a (Ty.fst a b x)) (b.svs (Ty.snd a b x))
 | .int k, x => .cons (.val (.int k) x) .nil
 | .bool, x => .cons (.val .bool x) .nil
 | .str, x => .cons (.val .str x) .nil
 | .sl r, x => .cons (.val (.sl r) x) .nil
 | .noi, x => .cons (.val .noi x) .nil
 | .alt t g r s, x => .cons (.val (.alt t g r s) x) .nil
 | .ern, x => .cons (.val .ern x) .nil
def Ty.nilI : (t : Ty) → Option t.T
 | .noi => some ()
 | .alt _ _ _ s => match s.nilI with | some y => some (.inr y) | none => none
 | .ern => some false
 | _ => none
def SV.data (σ : St) (t : Ty) : SV → Option (t.T × List Nat)
 | .val t' x => (Ty.cast t' t x).bind fun y => some (y, [])
 | .hd k => match t with
  | .sl r => (σ.rows k r).bind fun xs => some (xs, [k])
  | _ => none
 | .nsl => match t with
  | .sl _ => some ([], [])
  | _ => none
 | .nli => match t.nilI with
  | some y => some (y, [])
  | none => none
 | _ => none
def SV.row (σ : St) : (t : Ty) → SV → Option (t.T × List Nat)
 | .nil, .nil => some ((), [])
 | .cons a b, .cons c s => (c.data σ a).bind fun p => (SV.row σ b s).bind fun q => some (Ty.mk a b p.1 q.1, p.2 ++ q.2)
 | .int k, .cons c .nil => c.data σ (.int k)
 | .bool, .cons c .nil => c.data σ .bool
 | .str, .cons c .nil => c.data σ .str
 | .sl r, .cons c .nil => c.data σ (.sl r)
 | .noi, .cons c .nil => c.data σ .noi
 | .alt t g r s, .cons c .nil => c.data σ (.alt t g r s)
 | .ern, .cons c .nil => c.data σ .ern
 | _, _ => none
def SV.cells : SV → Option SV
 | .agg s => some s
 | .dead | .tup _ | .nil | .cons _ _ | .elp _ _ _ | .mb _ _ | .arp _ _ | .rap _ _ _ | .seg _ _ _ _ | .sgp _ _ _ _ _ _ | .any => none
 | v => some (.cons v .nil)
def SV.len : SV → Nat
 | .cons _ s => s.len + 1
 | .seg r n _ s => n * r.n + s.len
 | _ => 0
def SV.lst : SV → Bool
 | .nil => true
 | .cons _ s => s.lst
 | .seg _ _ _ s => s.lst
 | _ => false
def SV.take : SV → Nat → SV
 | _, 0 => .nil
 | .cons a s, n + 1 => .cons a (s.take n)
 | .seg r m xs s, n + 1 => bif Nat.ble (m * r.n) (n + 1) then .seg r m xs (s.take (n + 1 - m * r.n)) else .any
 | .any, _ => .any
 | _, _ => .nil
def SV.drop : SV → Nat → SV
 | s, 0 => s
 | .cons _ s, n + 1 => s.drop n
 | .seg r m _ s, n + 1 => bif Nat.ble (m * r.n) (n + 1) then s.drop (n + 1 - m * r.n) else .any
 | .any, _ => .any
 | _, _ => .nil
def SV.over : SV → Nat → SV → SV
 | .cons a s, 0, t => match t with
  | .cons b t => .cons b (s.over 0 t)
  | .nil => .cons a s
  | _ => .any
 | .cons a s, n + 1, t => .cons a (s.over n t)
 | .seg r m xs s, 0, t => match t with
  | .seg r' m' ys t => bif r.eq r' && Nat.beq m m' then .seg r' m' ys (s.over 0 t) else .any
  | .nil => .seg r m xs s
  | _ => .any
 | .seg r m xs s, n + 1, t => bif Nat.ble (m * r.n) (n + 1) then .seg r m xs (s.over (n + 1 - m * r.n) t) else .any
 | .any, _, _ => .any
 | s, _, _ => s
def SV.read (ag : Bool) (n : Nat) (s : SV) : Option SV :=
 match ag with
 | true => bif Nat.ble n s.len then some (.agg (s.take n)) else none
 | false => match s with | .cons a _ => some a | _ => none
def Ty.from : (t : Ty) → t.T → Nat → Option ((t : Ty) × t.T)
 | t, x, 0 => some ⟨t, x⟩
 | .cons a b, x, n + 1 => bif a.one then b.from (Ty.snd a b x) n else none
 | _, _, _ + 1 => none
end Ab
end
noncomputable section
namespace Ab
open Go
inductive Sh where
 | dead | nilp
 | sc (t : Ty)
 | own (e : Nat) (r : Ty)
 | ptr (s : Sh)
 | ref (h : Bool) (i : Nat)
 | agg (s : Sh) | tup (s : Sh)
 | nil | cons (a b : Sh)
 | fn (f : Nat) (s : Sh)
 | seg (r : Ty) (n : Nat) (b : Sh)
 | mp (kt vt : Ty)
def Sh.u : Sh → Bool
 | .sc _ | .own _ _ | .seg _ _ _ | .mp _ _ => false
 | .ptr s | .agg s | .tup s | .fn _ s => s.u
 | .cons a b => a.u && b.u
 | _ => true
@[reducible] def Sh.T : Sh → Type
 | .sc t => t.T
 | .own _ r => List r.T
 | .ptr s | .agg s | .tup s | .fn _ s => s.T
 | .cons a b => jT a.u b.u a.T b.T
 | .seg r _ b => jT false b.u (List r.T) b.T
 | .mp kt vt => List (kt.T × vt.T)
 | _ => Unit
def Sh.z : (s : Sh) → s.T
 | .sc t => t.z
 | .own _ _ => []
 | .ptr s | .agg s | .tup s | .fn _ s => s.z
 | .cons a b => jMk a.u b.u a.z b.z
 | .seg _ _ b => jMk false b.u [] b.z
 | .mp _ _ => []
 | .dead | .nilp | .ref _ _ | .nil => ()
def Sh.fst (a b : Sh) (x : (Sh.cons a b).T) : a.T := bEx a.u b.u a.z x
def Sh.snd (a b : Sh) (x : (Sh.cons a b).T) : b.T := bEw a.u b.u b.z x
def Sh.mk (a b : Sh) (x : a.T) (y : b.T) : (Sh.cons a b).T := jMk a.u b.u x y
def Sh.sfst (r : Ty) (n : Nat) (b : Sh) (x : (Sh.seg r n b).T) : List r.T := bEx false b.u [] x
def Sh.ssnd (r : Ty) (n : Nat) (b : Sh) (x : (Sh.seg r n b).T) : b.T := bEw false b.u b.z x
def Sh.smk (r : Ty) (n : Nat) (b : Sh) (x : List r.T) (y : b.T) : (Sh.seg r n b).T := jMk false b.u x y
def jI (k : Nat) : List Nat → Bool
 | [] => false
 | j :: l => Nat.beq j k || jI k l
def nth : List Nat → Nat → Option Nat
 | [], _ => none
 | k :: _, 0 => some k
 | _ :: l, n + 1 => nth l n
def Sh.get (σ : St) : (s : Sh) → SV → List Nat → Option (s.T × List Nat × List Nat)
 | .dead, v, vis => match v with
  | .nil | .cons _ _ | .seg _ _ _ _ | .any => none
  | _ => some ((), vis, [])
 | .nilp, .nilp, vis => some ((), vis, [])
 | .sc t, v, vis => bif t.one then (v.data σ t).bind fun p => some (p.1, vis, p.2) else none
 | .own e r, .hd k, vis => bif jI k vis then none else match σ.obj k with
  | some (.chunk e' r' xs) => bif Nat.beq e' e then (Ty.cast (.sl r') (.sl r) xs).bind fun ys => some (ys, vis ++ [k], []) else none
  | _ => none
 | .ptr s, .ptr k 0, vis => bif jI k vis then none else match σ.obj k with
  | some (.var cs) => s.get σ cs (vis ++ [k])
  | _ => none
 | .ref true i, .hd k, vis => match nth vis i with
  | some j => bif Nat.beq j k then some ((), vis, []) else none
  | none => none
 | .ref false i, .ptr k 0, vis => match nth vis i with
  | some j => bif Nat.beq j k then some ((), vis, []) else none
  | none => none
 | .agg s, .agg c, vis => s.get σ c vis
 | .tup s, .tup c, vis => s.get σ c vis
 | .nil, .nil, vis => some ((), vis, [])
 | .cons a b, .cons c d, vis => (a.get σ c vis).bind fun p => (b.get σ d p.2.1).bind fun q => some (Sh.mk a b p.1 q.1, q.2.1, p.2.2 ++ q.2.2)
 | .fn f s, .fn f' c, vis => bif Nat.beq f' f then s.get σ c vis else none
 | .seg r n b, .seg r' n' xs d, vis => bif Nat.beq n' n then (Ty.cast (.sl r') (.sl r) xs).bind fun ys => (b.get σ d vis).bind fun q => some (Sh.smk r n b ys q.1, q.2.1, q.2.2) else none
 | .mp kt vt, .mp k, vis => bif jI k vis then none else match σ.obj k with
  | some (.map kt' vt' es) => (Ty.castM kt' vt' kt vt es).bind fun ys => some (ys, vis ++ [k], [])
  | _ => none
 | _, _, _ => none
structure Put where
 v : SV
 os : List (Nat × Obj)
 left : List Nat
def Sh.put (all : List Nat) : (s : Sh) → s.T → List Nat → Put
 | .dead, _, ns => ⟨.dead, [], ns⟩
 | .nilp, _, ns => ⟨.nilp, [], ns⟩
 | .sc t, x, ns => ⟨.val t x, [], ns⟩
 | .own e r, x, ns => match ns with
  | n :: ns => ⟨.hd n, [(n, .chunk e r x)], ns⟩
  | [] => ⟨.dead, [], []⟩
 | .ptr s, x, ns => match ns with
  | n :: ns => ⟨.ptr n 0, (n, .var (s.put all x ns).v) :: (s.put all x ns).os, (s.put all x ns).left⟩
  | [] => ⟨.dead, [], []⟩
 | .ref h i, _, ns => match nth all i with
  | some k => ⟨bif h then .hd k else .ptr k 0, [], ns⟩
  | none => ⟨.dead, [], ns⟩
 | .agg s, x, ns => ⟨.agg (s.put all x ns).v, (s.put all x ns).os, (s.put all x ns).left⟩
 | .tup s, x, ns => ⟨.tup (s.put all x ns).v, (s.put all x ns).os, (s.put all x ns).left⟩
 | .nil, _, ns => ⟨.nil, [], ns⟩
 | .cons a b, x, ns =>
  ⟨.cons (a.put all (Sh.fst a b x) ns).v (b.put all (Sh.snd a b x) (a.put all (Sh.fst a b x) ns).left).v,
   (a.put all (Sh.fst a b x) ns).os ++ (b.put all (Sh.snd a b x) (a.put all (Sh.fst a b x) ns).left).os,
   (b.put all (Sh.snd a b x) (a.put all (Sh.fst a b x) ns).left).left⟩
 | .fn f s, x, ns => ⟨.fn f (s.put all x ns).v, (s.put all x ns).os, (s.put all x ns).left⟩
 | .seg r n b, x, ns => ⟨.seg r n (Sh.sfst r n b x) (b.put all (Sh.ssnd r n b x) ns).v, (b.put all (Sh.ssnd r n b x) ns).os, (b.put all (Sh.ssnd r n b x) ns).left⟩
 | .mp kt vt, x, ns => match ns with
  | n :: ns => ⟨.mp n, [(n, .map kt vt x)], ns⟩
  | [] => ⟨.dead, [], []⟩
def Sh.cnt : Sh → Nat
 | .own _ _ => 1
 | .mp _ _ => 1
 | .ptr s => s.cnt + 1
 | .agg s | .tup s | .fn _ s => s.cnt
 | .seg _ _ b => b.cnt
 | .cons a b => a.cnt + b.cnt
 | _ => 0
def Sh.hasPtr : Sh → Bool
 | .ptr _ => true
 | .mp _ _ => true
 | .agg s | .fn _ s => s.hasPtr
 | .seg _ _ b => b.hasPtr
 | .cons a b => a.hasPtr || b.hasPtr
 | _ => false
def Sh.io : Sh → Sh
 | .ptr s => .ptr s
 | .mp kt vt => .mp kt vt
 | .agg s => bif s.hasPtr then .agg s.io else .dead
 | .fn f s => bif s.hasPtr then .fn f s.io else .dead
 | .seg r n b => .seg r n b.io
 | .cons a b => .cons a.io b.io
 | .nil => .nil
 | _ => .dead
def Ty.rowsIn : Ty → List Ty
 | .sl r => r :: r.rowsIn
 | .alt _ _ r s => r.rowsIn ++ s.rowsIn
 | .cons a b => a.rowsIn ++ b.rowsIn
 | _ => []
def Sh.rowsIn : Sh → List Ty
 | .sc t => t.rowsIn
 | .own _ r => r.rowsIn
 | .mp kt vt => kt.rowsIn ++ vt.rowsIn
 | .ptr s | .agg s | .tup s | .fn _ s => s.rowsIn
 | .seg r _ b => r.rowsIn ++ b.rowsIn
 | .cons a b => a.rowsIn ++ b.rowsIn
 | _ => []
def iT (r : Ty) : List Ty → Bool
 | [] => false
 | t :: l => t.eq r || iT r l
inductive TK where
 | int (k : IntKind) | bool | str | slice | arr (n : Nat) | struct | ptr | iface | map | other
inductive CT where
 | d (v : SV)
 | s (e : Nat) (r : Ty)
 | a (r : Ty) (n : Nat)
structure TI where
 k : TK
 n : Nat
 el : Nat := 0
 er : Ty := .nil
 eb : Nat := 0
 fs : List (Nat × Nat) := []
 fg : List Bool := []
 eq : List TK := []
 z : List CT := []
 ev : Ty := .nil
 rw : Ty := .nil
def TI.isArr (t : TI) : Bool := match t.k with | .arr _ => true | _ => false
def TI.ag (t : TI) : Bool := match t.k with | .arr _ | .struct => true | _ => false
@[reducible] def Sh.out (io res : Sh) : Sh := .cons (.tup io) (.cons res .nil)
structure FS where
 ins : Sh
 res : Sh
 F : ins.T → Option (Sh.out ins.io res).T
 ex : List (Nat × Nat)
structure FSP where
 ins : Sh
 res : Sh
 pv : Sh
 F : ins.T → Option ((Sh.out ins.io res).T ⊕ (Sh.out ins.io pv).T)
 ex : List (Nat × Nat)
structure Env where
 tt : Nat → Option TI
 fs : Nat → List FS
 fp : Nat → List FSP := fun _ => []
def aMl : Value → SV
 | .int k n => .val (.int k) n
 | .bool b => .val .bool b
 | .string s => .val .str s
 | .slice none 0 0 => .nsl
 | .pointer none => .nilp
 | .nilIface => .nli
 | _ => .dead
def St.ev (σ : St) : Operand → SV
 | .tmp t => bif Nat.blt t 900000 then σ.slot t else .dead
 | .const v => aMl v
 | .func f => .fn f .nil
 | _ => .dead
def tok (d : Option Nat) : Nat := match d with | some i => 64 * i | none => 0
inductive OR where
 | fail
 | one (ok : Bool) (σ : St)
 | call (Y : Type) (m : Option Y) (σ : Y → St) (W : List Nat)
 | callP (Y Z : Type) (m : Option (Y ⊕ Z)) (σ : Y → St) (τ : Z → St) (v : Z → SV) (W : List Nat)
 | panic (v : SV)
def pI : Nat → List CT → SV → St → Option (St × SV)
 | k, c :: cs, .cons v s, σ =>
  match c, v with
  | .s e r, .nsl => bif σ.free k && Nat.blt 0 r.n then (pI (k + 1) cs s (σ.put k (.chunk e r []))).bind fun p => some (p.1, .cons (.hd k) p.2) else none
  | _, v => (pI (k + 1) cs s σ).bind fun p => some (p.1, .cons v p.2)
 | k, _ :: cs, .seg r n xs s, σ => (pI (k + 1) cs s σ).bind fun p => some (p.1, .seg r n xs p.2)
 | _, _, s, σ => some (σ, s)
def aDm : List CT → SV
 | [] => .nil
 | .d v :: l => .cons v (aDm l)
 | .s _ _ :: l => .cons .nsl (aDm l)
 | .a r n :: l => .seg r n (List.replicate n r.z) (aDm l)
def St.own (σ : St) (E : Env) (t : Nat) (k : Nat) : SV → Option (St × SV)
 | .nsl => match E.tt t with
  | some ti => match ti.k with
   | .slice => bif σ.free k && Nat.blt 0 ti.er.n then some (σ.put k (.chunk ti.el ti.er []), .hd k) else none
   | _ => none
  | none => none
 | v => some (σ, v)
def St.nm (σ : St) (k : Nat) : Nat := bif σ.free k then k else bif σ.free (k + 60) then k + 60 else k + 61
def SV.list (σ : St) (r : Ty) (v : SV) : Option (List r.T) := (v.data σ (.sl r)).map (·.1)
def bIf (op : BinOp) (k : IntKind) (a b : Int) : Option (Bool × SV) :=
 match op with
 | .add => some (true, .val (.int k) (k.wrap (a + b)))
 | .sub => some (true, .val (.int k) (k.wrap (a - b)))
 | .mul => some (true, .val (.int k) (k.wrap (a * b)))
 | .quo => some (!(b == 0), .val (.int k) (k.wrap (a.tdiv b)))
 | .rem => some (!(b == 0), .val (.int k) (a.tmod b))
 | .eql => some (true, .val .bool (a == b))
 | .neq => some (true, .val .bool (a != b))
 | .lss => some (true, .val .bool (decide (a < b)))
 | .leq => some (true, .val .bool (decide (a ≤ b)))
 | .gtr => some (true, .val .bool (decide (a > b)))
 | .geq => some (true, .val .bool (decide (a ≥ b)))
 | .and => some (true, .val (.int k) (bJp k a b))
 | .or => some (true, .val (.int k) (orI k a b))
 | .xor => some (true, .val (.int k) (bCf k a b))
 | _ => none
def shV (op : BinOp) (k : IntKind) (a b : Int) : Option (Bool × SV) := match op with
 | .shl => some (decide (0 ≤ b), .val (.int k) (bJi k a b))
 | .shr => some (decide (0 ≤ b), .val (.int k) (bDd k a b))
 | _ => none
def bIe (op : BinOp) : SV → SV → Option (Bool × SV)
 | .val (.int k) a, .val (.int k') b => match shV op k a b with
  | some p => some p
  | none => bif kEq k k' then bIf op k a b else none
 | .val .str a, .val .str b => match op with
  | .add => some (kM a b, .val .str (a ++ b))
  | .eql => some (true, .val .bool (eqS a b))
  | .neq => some (true, .val .bool (!(eqS a b)))
  | _ => none
 | _, _ => none
def eqC : List TK → SV → SV → Option Bool
 | [], .nil, .nil => some true
 | .int q :: l, .cons (.val (.int k) a) s, .cons (.val (.int k') b) t => bif kEq k q && kEq k' q then (eqC l s t).map fun r => (a == b) && r else none
 | .bool :: l, .cons (.val .bool a) s, .cons (.val .bool b) t => (eqC l s t).map fun r => (a == b) && r
 | .str :: l, .cons (.val .str a) s, .cons (.val .str b) t => (eqC l s t).map fun r => eqS a b && r
 | _, _, _ => none
def aS9 : List TK → Bool
 | [] => false
 | _ => true
def bIg (E : Env) (op : BinOp) (t : Nat) : SV → SV → Option SV
 | .val .bool a, .val .bool b => match E.tt t with
  | some ti => match ti.k, op with
   | .bool, .eql => some (.val .bool (a == b))
   | .bool, .neq => some (.val .bool (!(a == b)))
   | _, _ => none
  | none => none
 | .agg a, .agg b => match E.tt t with
  | some ti => bif aS9 ti.eq then (match op with
   | .eql => (eqC ti.eq a b).map fun r => .val .bool r
   | .neq => (eqC ti.eq a b).map fun r => .val .bool (!r)
   | _ => none) else none
  | none => none
 | _, _ => none
def unV (op : UnOp) : SV → Option SV
 | .val .bool b => match op with | .not => some (.val .bool (!b)) | _ => none
 | .val (.int k) a => match op with | .neg => some (.val (.int k) (k.wrap (0 - a))) | _ => none
 | _ => none
def bH0 (σ : St) : SV → Option SV
 | .val .str s => some (.val (.int .i64) (s.size : Int))
 | .val (.sl _) xs => some (.val (.int .i64) (xs.length : Int))
 | .hd k => match σ.obj k with
  | some (.chunk _ _ xs) => some (.val (.int .i64) (xs.length : Int))
  | some (.ro _ xs) => some (.val (.int .i64) (xs.length : Int))
  | _ => none
 | _ => none
def aHk (σ : St) (off : Nat) : SV → Option SV
 | .ptr k o => some (.ptr k (o + off))
 | .elp k i o => match σ.obj k with
  | some (.chunk _ _ _) => some (.elp k i (o + off))
  | _ => none
 | .rop t x => (Ty.from t x off).bind fun p => some (.rop p.1 p.2)
 | _ => none
def aHi (σ : St) (n : Nat) (i : Int) : SV → Option (Bool × SV)
 | .hd k => match σ.obj k with
  | some (.chunk _ r xs) => bif Nat.beq r.n n then some (inb i xs.length, .elp k i 0) else none
  | some (.ro r xs) => bif Nat.beq r.n n then some (inb i xs.length, .rop r (iG r xs i)) else none
  | _ => none
 | .val (.sl r) xs => bif Nat.beq r.n n then some (inb i xs.length, .rop r (iG r xs i)) else none
 | _ => none
def aIy (σ : St) (ti : TI) : SV → Option SV
 | .ptr k o => match σ.obj k with
  | some (.var cs) => (cs.drop o).read ti.ag ti.n
  | _ => none
 | .elp k i o => match σ.obj k with
  | some (.chunk _ r xs) => bif r.wf then ((r.svs (iG r xs i)).drop o).read ti.ag ti.n else none
  | _ => none
 | .rop t x => bif t.wf then (t.svs x).read ti.ag ti.n else none
 | _ => none
def aXy (σ : St) (n : Nat) (v : SV) : SV → Option St
 | .ptr k o => match σ.obj k with
  | some (.var cs) => v.cells.bind fun c => bif c.lst && Nat.beq c.len n && Nat.ble (o + n) cs.len then some (σ.put k (.var (cs.over o c))) else none
  | _ => none
 | .elp k i o => match σ.obj k with
  | some (.chunk e r xs) => v.cells.bind fun c => bif r.wf && c.lst && Nat.beq c.len n && Nat.ble (o + n) r.n then
    (((r.svs (iG r xs i)).over o c).row σ r).bind fun p => bif jI k p.2 then none else some ((σ.freezes p.2).put k (.chunk e r (dP xs i p.1)))
   else none
  | _ => none
 | _ => none
def aW1 (place : Nat → Option (Nat × Nat)) (cells : SV) : List (Nat × SV) → Option SV
 | [] => some cells
 | (i, v) :: l => match place i with
  | some (o, n) => match v.cells with
   | some c => bif c.lst && Nat.beq c.len n && Nat.ble (o + n) cells.len then aW1 place (cells.over o c) l else none
   | none => none
  | none => none
def aMf (l : List (Nat × Nat)) (i : Nat) : Option (Nat × Nat) := match l, i with
 | p :: _, 0 => some p
 | _ :: l, n + 1 => aMf l n
 | [], _ => none
def aZn : List Bool → Nat → Bool
 | b :: _, 0 => b
 | _ :: l, n + 1 => aZn l n
 | [], _ => false
def aVm (σ : St) (r : Ty) : List (Nat × SV) → List r.T → Option (List r.T × List Nat)
 | [], xs => some (xs, [])
 | (i, v) :: l, xs => (v.cells.bind fun c => bif c.lst && Nat.beq c.len r.n && Nat.blt i xs.length then c.row σ r else none).bind fun p =>
  (aVm σ r l (xs.set i p.1)).bind fun q => some (q.1, p.2 ++ q.2)
def bH1 : TK → SV → Bool
 | .str, .val .str _ => true
 | .slice, .val (.sl _) _ => true
 | .slice, .hd _ => true
 | _, _ => false
def bnd (d : Int) : Option SV → Option Int
 | none => some d
 | some (.val (.int _) n) => some n
 | _ => none
def aTa (lo hi : Option SV) : SV → Option (Bool × SV)
 | .val .str s => (bnd 0 lo).bind fun l => (bnd s.size hi).bind fun h => some (eH l h s.size, .val .str (aHn s l h))
 | .val (.sl r) xs => (bnd 0 lo).bind fun l => (bnd xs.length hi).bind fun h => some (eH l h xs.length, .val (.sl r) (cut xs l h))
 | _ => none
def sliceT (ti : TI) : SV → Bool
 | .val .str _ => match ti.k with | .str => true | _ => false
 | .val (.sl r) _ => match ti.k with | .slice => Nat.beq r.n ti.er.n | _ => false
 | _ => false
def St.asData (σ : St) : SV → St × SV
 | .hd k => match σ.obj k with
  | some (.chunk _ r xs) => (σ.freeze k, .val (.sl r) xs)
  | some (.ro r xs) => (σ, .val (.sl r) xs)
  | _ => (σ, .hd k)
 | v => (σ, v)
def bAn (dst : TK) : SV → Option SV
 | .val (.int _) n => match dst with | .int k => some (.val (.int k) (k.wrap n)) | _ => none
 | .val .str s => match dst with | .str => some (.val .str s) | _ => none
 | _ => none
def aJm (σ : St) (d : Option Nat) (ti : TI) (s x : SV) : OR :=
 match SV.list σ ti.er x with
 | none => .fail
 | some ys => match s with
  | .hd k => match σ.obj k with
   | some (.chunk e r xs) => bif Nat.beq e ti.el && r.eq ti.er then
     match Ty.cast (.sl r) (.sl ti.er) xs with
     | some zs => .one (fits (zs.length + ys.length) ti.eb) (((σ.stale k).put k (.chunk ti.el ti.er (zs ++ ys))).setd d (.hd k))
     | none => .fail
    else .fail
   | _ => .fail
  | .nsl => bif σ.free (tok d) then .one (fits (0 + ys.length) ti.eb) ((σ.put (tok d) (.chunk ti.el ti.er ys)).setd d (.hd (tok d))) else .fail
  | _ => .fail
def aJk (σ : St) : List Operand → SV
 | [] => .nil
 | x :: l => .cons (σ.ev x) (aJk σ l)
def zI (E : Env) (k : Nat) : Sh → List Nat → SV → St → Option (St × SV)
 | .cons (.own _ _) b, t :: ts, .cons v s, σ => (σ.own E t k v).bind fun p => (zI E (k + 1) b ts s p.1).bind fun q => some (q.1, .cons p.2 q.2)
 | .cons _ b, _ :: ts, .cons v s, σ => (zI E (k + 1) b ts s σ).bind fun q => some (q.1, .cons v q.2)
 | _, _, s, σ => some (σ, s)
def St.frees (σ : St) : List Nat → Bool
 | [] => true
 | k :: l => σ.free k && σ.frees l
def SV.app : SV → SV → SV
 | .cons a s, t => .cons a (s.app t)
 | .seg r n xs s, t => .seg r n xs (s.app t)
 | .nil, t => t
 | s, _ => s
def names (k : Nat) : Nat → List Nat
 | 0 => []
 | n + 1 => k :: names (k + 1) n
def without (l m : List Nat) : List Nat := l.filter fun k => !jI k m
def eB : List Nat → List Nat → Bool
 | [], _ => true
 | k :: l, m => !jI k m && eB l m
def SV.killL (K : List Nat) : SV → SV
 | .hd j => bif jI j K then .dead else .hd j
 | .ptr j o => bif jI j K then .dead else .ptr j o
 | .elp j i o => bif jI j K then .dead else .elp j i o
 | .fn f s => .fn f (s.killL K)
 | .arp j n => bif jI j K then .dead else .arp j n
 | .seg r n xs s => .seg r n xs (s.killL K)
 | .sgp j o m n i off => bif jI j K then .dead else .sgp j o m n i off
 | .mp j => bif jI j K then .dead else .mp j
 | .agg s => .agg (s.killL K)
 | .tup s => .tup (s.killL K)
 | .cons a b => .cons (a.killL K) (b.killL K)
 | v => v
def Obj.killL (K : List Nat) : Obj → Obj
 | .var s => .var (s.killL K)
 | o => o
def aMm (K : List Nat) : List (Nat × SV) → List (Nat × SV)
 | [] => []
 | p :: l => (p.1, p.2.killL K) :: aMm K l
def aI1 (K : List Nat) : List (Nat × Option Obj) → List (Nat × Option Obj)
 | [] => []
 | p :: l => (match p.2 with | some o => (p.1, some (o.killL K)) | none => p) :: aI1 K l
def aQ5 : List Nat → List (Nat × Option Obj)
 | [] => []
 | k :: l => (k, none) :: aQ5 l
def jN : List (Nat × Obj) → List (Nat × Option Obj)
 | [] => []
 | (k, o) :: l => (k, some o) :: jN l
def St.after (σ : St) (K : List Nat) (os : List (Nat × Obj)) (D : List Nat) : St := match K with
 | [] => { sl := σ.sl, hp := jN os ++ (aQ5 D ++ σ.hp) }
 | K => { sl := aMm K σ.sl, hp := jN os ++ (aQ5 D ++ aI1 K σ.hp) }
def Sh.top : Sh → List Bool
 | .own _ _ => [false]
 | .mp _ _ => [true]
 | .ptr s => true :: List.replicate s.cnt false
 | .agg s | .tup s | .fn _ s => s.top
 | .seg _ _ b => b.top
 | .cons a b => a.top ++ b.top
 | _ => []
def aG2 : List Bool → List Nat → List Nat
 | true :: l, k :: m => k :: aG2 l m
 | false :: l, _ :: m => aG2 l m
 | _, _ => []
def subset : List Nat → List Nat → Bool
 | [], _ => true
 | k :: l, m => jI k m && subset l m
def oC (σ : St) (rs : List Ty) : List Nat → List Nat
 | [] => []
 | k :: l => match σ.obj k with
  | some (.chunk _ r _) => bif iT r rs then k :: oC σ rs l else oC σ rs l
  | _ => oC σ rs l
def SV.at : SV → Nat → SV
 | .cons v _, 0 => v
 | .cons _ s, n + 1 => s.at n
 | _, _ => .dead
def aKm (σ : St) (as : SV) : List (Nat × Nat) → Option SV
 | [] => some as
 | p :: l => match as.at p.1 with
  | .ptr k 0 => match σ.obj k with
   | some (.var cs) => match cs.drop p.2 with
    | .cons (.ptr r 0) _ => (aKm σ as l).bind fun s => some (.cons (.ptr r 0) s)
    | _ => none
   | _ => none
  | _ => none
def aKr (σ : St) (ins res : Sh) (W vio bor new : List Nat) (y : (Sh.out ins.io res).T) : St :=
 (σ.freezes (oC σ (ins.io.rowsIn ++ res.rowsIn) bor)).after (without W (aG2 ins.io.top vio)) ((Sh.out ins.io res).put (vio ++ new) y (vio ++ new)).os W
def aPa (ins res : Sh) (vio new : List Nat) (y : (Sh.out ins.io res).T) : SV := match ((Sh.out ins.io res).put (vio ++ new) y (vio ++ new)).v with
 | .cons _ (.cons r _) => r
 | _ => .dead
def aC3 (E : Env) (fs : FS) (σ : St) (d : Option Nat) (as : SV) (ts : List Nat) : OR :=
 match (aKm σ as fs.ex).bind fun as' => zI E (tok d + 32) fs.ins (List.replicate fs.ex.length 0 ++ ts) as' σ with
  | none => .fail
  | some p => match fs.ins.get p.1 p.2 [] with
   | none => .fail
   | some (x, vis, bor) => match fs.ins.io.get p.1 p.2 [] with
    | none => .fail
    | some (_, vio, _) =>
     let new := names (tok d) fs.res.cnt
     bif eB bor vis && p.1.frees new && subset vio vis then
      .call _ (fs.F x) (fun y => (aKr p.1 fs.ins fs.res vis vio bor new y).setd d (aPa fs.ins fs.res vio new y)) vis
     else .fail
def wE (E : Env) (fs : FSP) (σ : St) (d : Option Nat) (as : SV) (ts : List Nat) : OR :=
 match (aKm σ as fs.ex).bind fun as' => zI E (tok d + 32) fs.ins (List.replicate fs.ex.length 0 ++ ts) as' σ with
  | none => .fail
  | some p => match fs.ins.get p.1 p.2 [] with
   | none => .fail
   | some (x, vis, bor) => match fs.ins.io.get p.1 p.2 [] with
    | none => .fail
    | some (_, vio, _) =>
     bif eB bor vis && p.1.frees (names (tok d) fs.res.cnt) && subset vio vis && p.1.frees (names (tok d) fs.pv.cnt) then
      .callP _ _ (fs.F x) (fun y => (aKr p.1 fs.ins fs.res vis vio bor (names (tok d) fs.res.cnt) y).setd d (aPa fs.ins fs.res vio (names (tok d) fs.res.cnt) y))
       (fun z => aKr p.1 fs.ins fs.pv vis vio bor (names (tok d) fs.pv.cnt) z) (fun z => aPa fs.ins fs.pv vio (names (tok d) fs.pv.cnt) z) vis
     else .fail
def tL (E : Env) (σ : St) (d : Option Nat) (as : SV) (ts : List Nat) : List FS → OR
 | [] => .fail
 | fs :: l => match aC3 E fs σ d as ts with
  | .fail => tL E σ d as ts l
  | r => r
def pE (E : Env) (σ : St) (d : Option Nat) (as : SV) (ts : List Nat) : List FSP → OR
 | [] => .fail
 | fs :: l => match wE E fs σ d as ts with
  | .fail => pE E σ d as ts l
  | r => r
def aBe (E : Env) (σ : St) (d : Option Nat) (f : Nat) (as : SV) (ts : List Nat) : OR := match tL E σ d as ts (E.fs f) with
 | .fail => pE E σ d as ts (E.fp f)
 | r => r
def aRn : Operand → Operand → Int → Option Bool
 | .const (.int _ n), _, _ => bif n == 0 then some true else none
 | .tmp i, .tmp j, _ => bif Nat.beq i j then some false else none
 | _, _, _ => none
def bGo (E : Env) (o : Oper) (σ : St) : Option (Bool × St) :=
 match o.op with
 | .move x | .assign x => match σ.own E o.type (σ.nm (tok o.dst)) (σ.ev x) with
  | some p => some (true, p.1.setd o.dst p.2)
  | none => none
 | .pick c a b => match σ.ev c with
  | .val .bool t => match σ.ev a, σ.ev b with
   | .val ta x, .val tb y => match Ty.cast tb ta y with
    | some y' => some (true, σ.setd o.dst (.val ta (bif t then x else y')))
    | none => none
   | x, y => some (true, σ.setd o.dst (match t with | true => x | false => y))
  | _ => none
 | .nilCheck x => match σ.ev x with
  | .ptr k off => some (true, σ.setd o.dst (.ptr k off))
  | .elp k i off => match σ.obj k with
   | some (.chunk _ _ _) => some (true, σ.setd o.dst (.elp k i off))
   | _ => none
  | .rop t y => some (true, σ.setd o.dst (.rop t y))
  | _ => none
 | .binOp op t x y _ => match bIg E op t (σ.ev x) (σ.ev y) with
  | some v => some (true, σ.setd o.dst v)
  | none => match bIe op (σ.ev x) (σ.ev y) with
   | some p => some (p.1, σ.setd o.dst p.2)
   | none => none
 | .unOp op _ x => match unV op (σ.ev x) with
  | some v => some (true, σ.setd o.dst v)
  | none => none
 | .convert s t x => match E.tt s, E.tt t with
  | some _, some ti => match bAn ti.k (σ.ev x) with
   | some v => some (true, σ.setd o.dst v)
   | none => none
  | _, _ => none
 | .slice t x lo hi none => match E.tt t with
  | some ti =>
   let p := σ.asData (σ.ev x)
   match aTa (lo.map σ.ev) (hi.map σ.ev) p.2 with
   | some q => bif sliceT ti p.2 then some (q.1, p.1.setd o.dst q.2) else none
   | none => none
  | none => none
 | .build t parts => match E.tt t with
  | some ti => match ti.k with
   | .struct => match aW1 (aMf ti.fs) (aDm ti.z) (parts.toList.map fun p => (p.1, σ.ev p.2)) with
    | some cs => match pI (tok o.dst + 1) ti.z cs σ with
     | some p => some (true, p.1.setd o.dst (.agg p.2))
     | none => none
    | none => none
   | _ => none
  | none => none
 | .fieldAddr s x f => match E.tt s with
  | some ti => match ti.k, aMf ti.fs f with
   | .struct, some p => match aHk σ p.1 (σ.ev x) with
    | some v => bif Nat.beq p.2 0 then none else some (true, σ.setd o.dst v)
    | none => none
   | _, _ => none
  | none => none
 | .field s x f => match E.tt s with
  | some ti => match ti.k, aMf ti.fs f, σ.ev x with
   | .struct, some p, .agg c => match ((c.drop p.1).read (aZn ti.fg f) p.2) with
    | some v => bif Nat.blt 0 p.2 then some (true, σ.setd o.dst v) else none
    | none => none
   | _, _, _ => none
  | none => none
 | .indexAddr t x i => match E.tt t with
  | some ti => match ti.k, σ.ev i with
   | .slice, .val (.int _) n => match aHi σ ti.er.n n (σ.ev x) with
    | some p => some (p.1, σ.setd o.dst p.2)
    | none => none
   | _, _ => none
  | none => none
 | .index t x i => match E.tt t with
  | some ti => match ti.k, σ.ev x, σ.ev i with
   | .str, .val .str s, .val (.int _) n => some ((inb n s.size), σ.setd o.dst (.val (.int .u8) (iH s n)))
   | _, _, _ => none
  | none => none
 | .extract x i => match σ.ev x with
  | .tup s => match s.drop i with
   | .cons v _ => some (true, σ.setd o.dst v)
   | _ => none
  | _ => none
 | .call { callee := .builtin .len, args := as, argTypes := ts } => match as.toList, ts.toList with
  | [x], [t] => match E.tt t with
   | some ti => bif bH1 ti.k (σ.ev x) then (match bH0 σ (σ.ev x) with
     | some v => some (true, σ.setd o.dst v)
     | none => none) else none
   | none => none
  | _, _ => none
 | _ => none
def aTm (E : Env) (o : Oper) (σ : St) : OR :=
 match o.op with
 | .alloc t => match E.tt t with
  | some ti => bif ti.isArr then .fail else match pI (tok o.dst + 1) ti.z (aDm ti.z) σ with
   | some p => bif p.1.free (tok o.dst) then .one true ((p.1.put (tok o.dst) (.var p.2)).setd o.dst (.ptr (tok o.dst) 0)) else .fail
   | none => .fail
  | none => .fail
 | .box t x => match E.tt t with
  | some ti => match (σ.ev x).cells.bind fun c => pI (tok o.dst + 1) ti.z c σ with
   | some p => bif p.1.free (tok o.dst) then .one true ((p.1.put (tok o.dst) (.var p.2)).setd o.dst (.ptr (tok o.dst) 0)) else .fail
   | none => .fail
  | none => .fail
 | .buildSlice t len parts => match E.tt t with
  | some ti => match ti.k with
   | .slice => match aVm σ ti.er (parts.toList.map fun p => (p.1, σ.ev p.2)) (List.replicate len ti.er.z) with
    | some p => bif σ.free (tok o.dst) && Nat.ble (len * ti.er.n) 16777216 then
      .one true (((σ.freezes p.2).put (tok o.dst) (.chunk ti.el ti.er p.1)).setd o.dst (.hd (tok o.dst)))
     else .fail
    | none => .fail
   | _ => .fail
  | none => .fail
 | .makeSlice t l c => match E.tt t with
  | some ti => match ti.k, σ.ev l, σ.ev c with
   | .slice, .val (.int _) m, .val (.int _) n => bif σ.free (tok o.dst) then
     match aRn l c m with
     | some z => .one (aHe n ti.eb) ((σ.put (tok o.dst) (.chunk ti.el ti.er (bif z then [] else List.replicate n.toNat ti.er.z))).setd o.dst (.hd (tok o.dst)))
     | none => .fail
    else .fail
   | _, _, _ => .fail
  | none => .fail
 | .load t a => match E.tt t with
  | some ti => match aIy σ ti (σ.ev a) with
   | some v => bif Nat.blt 0 ti.n then .one true (σ.setd o.dst v) else .fail
   | none => .fail
  | none => .fail
 | .store t a x => match E.tt t with
  | some ti => match σ.own E t (match a with | .tmp i => 64 * i + 63 | _ => 0) (σ.ev x) with
   | some p => match aXy p.1 ti.n p.2 (p.1.ev a) with
    | some σ' => .one true (σ'.setd o.dst .dead)
    | none => .fail
   | none => .fail
  | none => .fail
 | .call { callee := .builtin .append, args := as, argTypes := ts } => match as.toList, ts.toList with
  | [s, x], [t, t'] => match E.tt t, E.tt t' with
   | some ti, some ti' => match ti.k, ti'.k with
    | .slice, .slice => bif Nat.beq t t' then aJm σ o.dst ti (σ.ev s) (σ.ev x) else .fail
    | _, _ => .fail
   | _, _ => .fail
  | _, _ => .fail
 | .call { callee := .value (.func f), args := as, argTypes := ts } => aBe E σ o.dst f (aJk σ as.toList) ts.toList
 | .convert s t x => match E.tt s, E.tt t with
  | some ts, some ti => match ts.k, ti.k, SV.list σ (.int .u8) (σ.ev x) with
   | .slice, .str, some xs => match E.tt ts.el with
    | some te => match te.k with
     | .int .u8 => .one true (σ.setd o.dst (.val .str (bytesOf xs)))
     | _ => .fail
    | none => .fail
   | _, _, _ => .fail
  | _, _ => .fail
 | _ => .fail
def Ty.hasT (a : Nat) : Ty → Bool
 | .alt t _ _ s => Nat.beq t a || s.hasT a
 | .noi => false
 | _ => true
def Ty.iok : Ty → Bool
 | .alt _ _ _ s => s.isI && s.iok
 | .noi | .ern => true
 | _ => false
def bE0 (σ : St) (xt : Nat) (v : SV) : (t : Ty) → Option (t.T × List Nat)
 | .alt t g r s => bif Nat.beq t xt
   then (match g with
    | true => match v with
     | .agg c => (SV.row σ r c).bind fun p => some (.inl p.1, p.2)
     | _ => none
    | false => bif r.one then (v.data σ r).bind fun p => some (.inl p.1, p.2) else none)
   else (bE0 σ xt v s).bind fun p => some (.inr p.1, p.2)
 | .ern => some (true, [])
 | _ => none
structure Asd where
 g : Bool
 r : Ty
 y : r.T
 ok : Bool
def asT (a : Nat) : (t : Ty) → t.T → Option Asd
 | .alt t g r s, x => bif Nat.beq t a
   then (bif s.hasT a then none else some ⟨g, r, (match x with | .inl y => y | .inr _ => r.z), (match x with | .inl _ => true | .inr _ => false)⟩)
   else asT a s (match x with | .inl _ => s.z | .inr z => z)
 | _, _ => none
def uW : (t : Ty) → t.T → Bool
 | .alt _ _ _ s, x => match x with
  | .inl _ => false
  | .inr z => uW s z
 | .noi, _ => true
 | .ern, b => !b
 | _, _ => false
def aJ2 (g : Bool) (r : Ty) (y : r.T) : SV := match g with
 | true => .agg (r.svs y)
 | false => .val r y
def aYe (g : Bool) (r : Ty) : Bool := match g with
 | true => r.wf
 | false => r.one
def bGs (σ : St) : SV → Option Bool
 | .val (.sl _) xs => some (Nat.beq xs.length 0)
 | .hd k => match σ.obj k with
  | some (.chunk _ _ xs) => some (Nat.beq xs.length 0)
  | some (.ro _ xs) => some (Nat.beq xs.length 0)
  | _ => none
 | _ => none
def TI.isInt (t : TI) : Bool := match t.k with | .iface | .other => true | _ => false
def bGn (E : Env) (o : Oper) (σ : St) : Option (Bool × St) :=
 match o.op with
 | .makeFunc (.func f) first caps => match first.toList with
  | [] => some (true, σ.setd o.dst (.fn f (aJk σ caps.toList)))
  | _ => none
 | .makeInterface xt x => match E.tt xt, E.tt o.type with
  | some tx, some ti => bif ti.er.isI && !tx.isInt then (bE0 σ xt (σ.ev x) ti.er).bind fun p => some (true, (σ.freezes p.2).setd o.dst (.val ti.er p.1)) else none
  | _, _ => none
 | .typeAssert x _ at_ true => match E.tt at_, σ.ev x with
  | some ta, .val t y => match asT at_ t y with
   | some q => bif t.iok && q.r.eq ta.rw && bEq ta.ag q.g && aYe q.g q.r && !q.r.isNil && !ta.isInt then
     some (true, σ.setd o.dst (.tup (.cons (aJ2 q.g q.r q.y) (.cons (.val .bool q.ok) .nil)))) else none
   | none => none
  | _, _ => none
 | .binOp op t x y _ => match E.tt t with
  | some ti => match ti.k with
   | .iface => match σ.ev x, y with
    | .val ty z, .const .nilIface => bif ty.iok then (match op with
     | .eql => some (true, σ.setd o.dst (.val .bool (uW ty z)))
     | .neq => some (true, σ.setd o.dst (.val .bool (!(uW ty z))))
     | _ => none) else none
    | _, _ => none
   | .slice => match bGs σ (σ.ev x), y with
    | some b, .const (.slice none 0 0) => match op with
     | .eql => some (true, σ.setd o.dst (.mb false b))
     | .neq => some (true, σ.setd o.dst (.mb true b))
     | _ => none
    | _, _ => none
   | _ => none
  | none => none
 | .slice t x none none none => match E.tt t with
  | some ti => match ti.k, σ.ev x with
   | .arr n, .arp k m => bif Nat.beq n m && Nat.blt 0 n then some (true, σ.setd o.dst (.hd k)) else none
   | _, _ => none
  | none => none
 | .sliceToArrayPointer t x => match E.tt t with
  | some ti => match ti.k with
   | .arr n =>
    let p := σ.asData (σ.ev x)
    match p.2 with
    | .val (.sl r) xs => bif Nat.beq r.n ti.er.n && Nat.blt 0 n then some (decide (n ≤ xs.length), p.1.setd o.dst (.rap r n (xs.take n))) else none
    | _ => none
   | _ => none
  | none => none
 | .indexAddr t x i => match E.tt t with
  | some ti => match ti.k, σ.ev i with
   | .arr n, .val (.int _) j => match σ.ev x with
    | .arp k m => match σ.obj k with
     | some (.chunk _ r _) => bif Nat.beq m n && Nat.beq r.n ti.er.n && Nat.blt 1 n then some (inb j n, σ.setd o.dst (.elp k j 0)) else none
     | _ => none
    | .ptr k off => match σ.obj k with
     | some (.var cs) => match cs.drop off with
      | .seg r m _ _ => bif Nat.beq m n && Nat.beq r.n ti.er.n && Nat.blt 1 n then some (inb j n, σ.setd o.dst (.sgp k off r.n n j 0)) else none
      | _ => none
     | _ => none
    | .rap r m xs => bif Nat.beq m n && Nat.beq r.n ti.er.n && Nat.blt 1 n then some (inb j n, σ.setd o.dst (.rop r (iG r xs j))) else none
    | _ => none
   | _, _ => none
  | none => none
 | .index t x i => match E.tt t with
  | some ti => match ti.k, σ.ev i, σ.ev x with
   | .arr n, .val (.int _) j, .agg (.seg r m xs .nil) => match E.tt ti.el with
    | some te => match (r.svs (iG r xs j)).read te.ag te.n with
     | some v => bif Nat.beq m n && Nat.beq r.n ti.er.n && Nat.beq te.n r.n && r.wf && Nat.blt 0 r.n then some (inb j n, σ.setd o.dst v) else none
     | none => none
    | none => none
   | _, _, _ => none
  | none => none
 | .fieldAddr s x f => match E.tt s with
  | some ti => match ti.k, aMf ti.fs f, σ.ev x with
   | .struct, some p, .sgp k q m n i off => bif Nat.beq p.2 0 then none else some (true, σ.setd o.dst (.sgp k q m n i (off + p.1)))
   | _, _, _ => none
  | none => none
 | .nilCheck x => match σ.ev x with
  | .arp k n => some (true, σ.setd o.dst (.arp k n))
  | .sgp k q m n i off => some (true, σ.setd o.dst (.sgp k q m n i off))
  | .rap r n xs => some (true, σ.setd o.dst (.rap r n xs))
  | _ => none
 | _ => none
def SV.asRow (σ : St) (t : Ty) (v : SV) : Option (t.T × List Nat) := bif t.one then v.data σ t else match v with
 | .agg c => SV.row σ t c
 | _ => none
def aLl (σ : St) (ti : TI) : SV → Option SV
 | .arp k n => match ti.k with
  | .arr m => match σ.obj k with
   | some (.chunk _ r xs) => bif Nat.beq m n && Nat.beq ti.n (n * r.n) then some (.agg (.seg r n xs .nil)) else none
   | some (.ro r xs) => bif Nat.beq m n && Nat.beq ti.n (n * r.n) then some (.agg (.seg r n xs .nil)) else none
   | _ => none
  | _ => none
 | .rap r n xs => match ti.k with
  | .arr m => bif Nat.beq m n && Nat.beq ti.n (n * r.n) then some (.agg (.seg r n xs .nil)) else none
  | _ => none
 | .sgp k q m n i off => match σ.obj k with
  | some (.var cs) => match cs.drop q with
   | .seg r n' xs _ => bif Nat.beq n' n && Nat.beq r.n m && r.wf && Nat.blt 0 r.n then ((r.svs (iG r xs i)).drop off).read ti.ag ti.n else none
   | _ => none
  | _ => none
 | _ => none
def aXz (σ : St) (n : Nat) (v : SV) : SV → Option St
 | .arp k m => match σ.obj k, v with
  | some (.chunk e r _), .agg (.seg r' m' ys .nil) => bif Nat.beq m m' && Nat.beq n (m * r.n) then (Ty.cast (.sl r') (.sl r) ys).bind fun zs => some (σ.put k (.chunk e r zs)) else none
  | _, _ => none
 | .sgp k q m n0 i off => match σ.obj k with
  | some (.var cs) => match cs.drop q with
   | .seg r n' xs _ => v.cells.bind fun c => bif r.wf && c.lst && Nat.beq c.len n && Nat.ble (off + n) r.n && Nat.beq n' n0 && Nat.beq r.n m && Nat.blt 0 r.n then
     (((r.svs (iG r xs i)).over off c).row σ r).bind fun p => some ((σ.freezes p.2).put k (.var (cs.over q (.seg r n' (dP xs i p.1) .nil))))
    else none
   | _ => none
  | _ => none
 | _ => none
def aP6 (E : Env) (o : Oper) (σ : St) : OR :=
 match o.op with
 | .alloc t => match E.tt t with
  | some ti => match ti.z with
   | [.a r n] => bif ti.isArr && σ.free (tok o.dst) && Nat.blt 0 r.n && Nat.blt 0 n && Nat.ble n 1000000 then .one true ((σ.put (tok o.dst) (.chunk t r (List.replicate n r.z))).setd o.dst (.arp (tok o.dst) n)) else .fail
   | _ => .fail
  | none => .fail
 | .load t a => match E.tt t with
  | some ti => match aLl σ ti (σ.ev a) with
   | some v => bif Nat.blt 0 ti.n then .one true (σ.setd o.dst v) else .fail
   | none => .fail
  | none => .fail
 | .store t a x => match E.tt t with
  | some ti => match aXz σ ti.n (σ.ev x) (σ.ev a) with
   | some σ' => .one true (σ'.setd o.dst .dead)
   | none => .fail
  | none => .fail
 | .makeMap t none => match E.tt t with
  | some ti => match ti.k with
   | .map => bif σ.free (tok o.dst) then .one true ((σ.put (tok o.dst) (.map ti.er ti.ev [])).setd o.dst (.mp (tok o.dst))) else .fail
   | _ => .fail
  | none => .fail
 | .mapUpdate t m k v => match E.tt t, σ.ev m with
  | some ti, .mp j => match ti.k, σ.obj j with
   | .map, some (.map kt vt es) => bif kt.eq ti.er && vt.eq ti.ev then
     (match (σ.ev k).asRow σ kt, (σ.ev v).asRow σ vt with
     | some p, some q => .one true ((σ.freezes (p.2 ++ q.2)).put j (.map kt vt (uU kt vt p.1 q.1 es)) |>.setd o.dst .dead)
     | _, _ => .fail) else .fail
   | _, _ => .fail
  | _, _ => .fail
 | .lookup t m k ok => match E.tt t, σ.ev m with
  | some ti, .mp j => match ti.k, σ.obj j with
   | .map, some (.map kt vt es) => bif kt.eq ti.er && vt.eq ti.ev && aYe (!vt.one) vt then
     (match (σ.ev k).asRow σ kt with
     | some p => match ok with
      | true => .one true (σ.setd o.dst (.tup (.cons (aJ2 (!vt.one) vt (aC0 kt vt p.1 es)) (.cons (.val .bool (aZt kt vt p.1 es)) .nil))))
      | false => .one true (σ.setd o.dst (aJ2 (!vt.one) vt (aC0 kt vt p.1 es)))
     | none => .fail) else .fail
   | _, _ => .fail
  | _, _ => .fail
 | .call { callee := .value (.tmp t), args := as, argTypes := ts } => match σ.ev (.tmp t) with
  | .fn f cs => aBe E σ o.dst f ((aJk σ as.toList).app cs) (ts.toList ++ List.replicate cs.len 0)
  | _ => .fail
 | .panic x => match σ.ev x with
  | .val ty z => bif ty.iok && !(uW ty z) then .panic (.val ty z) else .fail
  | _ => .fail
 | _ => .fail
def opR (E : Env) (o : Oper) (σ : St) : Option (Bool × St) := match bGo E o σ with
 | some p => some p
 | none => bGn E o σ
def opW (E : Env) (o : Oper) (σ : St) : OR := match aTm E o σ with
 | .fail => aP6 E o σ
 | r => r
def wr (o : Oper) (σ : St) : List Nat :=
 match o.op with
 | .store _ a _ => match σ.ev a with
  | .ptr k _ | .elp k _ _ | .arp k _ | .sgp k _ _ _ _ _ => [k]
  | _ => []
 | .mapUpdate _ m _ _ => match σ.ev m with
  | .mp k => [k]
  | _ => []
 | .call { callee := .builtin .append, args := as, .. } => match as.toList with
  | [s, _] => match σ.ev s with
   | .hd k => [k]
   | _ => []
  | _ => []
 | _ => []
def opx (E : Env) (o : Oper) (σ : St) : OR := match opR E o σ with
 | some p => .one p.1 p.2
 | none => opW E o σ
def St.refine (σ : St) (x : Operand) (b : Bool) : St := match x with
 | .tmp t => σ.set t (.val .bool b)
 | _ => σ
def OR.go {R : Type} (σ : St) (k : St → Option R) (kp : SV → St → Option R) : OR → Option R
 | .fail => none
 | .one ok σ' => bif ok then k σ' else none
 | .call _ m f _ => aD m fun y => k (f y)
 | .callP _ _ m f h v _ => aD m fun y => match y with
  | .inl y => k (f y)
  | .inr z => kp (v z) (h z)
 | .panic v => kp v σ
def step1 {R : Type} (E : Env) (o : Oper) (σ : St) (k : St → Option R) (kp : SV → St → Option R) : Option R := (opx E o σ).go σ k kp
def guarded {R : Type} (ops : Array Oper) (o : Oper) (σ : St) (go : St → Option R) (skip : St → Option R) : Option R :=
 match o.guard with
 | none => go σ
 | some (j, want) => match ((ops[j]?).bind (·.dst)) with
  | some g => match σ.ev (.tmp g) with
   | .val .bool b => bif b
     then (match want with | true => go (σ.set g (.val .bool true)) | false => skip ((σ.set g (.val .bool true)).setd o.dst (.tup .nil)))
     else (match want with | false => go (σ.set g (.val .bool false)) | true => skip ((σ.set g (.val .bool false)).setd o.dst (.tup .nil)))
   | .tup .nil => skip (σ.setd o.dst (.tup .nil))
   | _ => none
  | none => none
def aLs {R : Type} (E : Env) (ops : Array Oper) (kp : SV → St → Option R) : List Oper → St → (St → Option R) → Option R
 | [], σ, k => k σ
 | o :: l, σ, k => guarded ops o σ (fun σ' => step1 E o σ' (fun σ'' => aLs E ops kp l σ'' k) kp) (fun σ' => aLs E ops kp l σ' k)
def aMq (e : Edge) : Bool := Region.binds .any e
def aDu (o : Oper) (i : Nat) : Bool := o.after.toList.any fun e => Nat.beq e.on i && aMq e
def bB1 (i : Nat) : List (Nat × Oper) → Bool
 | [] => false
 | p :: l => Nat.beq p.1 i || bB1 i l
def aG7 (N : Nat) (un : List (Nat × Oper)) (o : Oper) : Bool := o.after.toList.all fun e => !aMq e || (Nat.blt e.on N && !bB1 e.on un)
def lM (i : Nat) : List (Nat × Oper) → List (Nat × Oper)
 | [] => []
 | p :: l => bif Nat.beq p.1 i then l else p :: lM i l
def looks (ops : Array Oper) (o : Oper) : List Nat :=
 tmpsOf' o.op.operands.toList ++ (match o.guard with | some (g, _) => (match (ops[g]?).bind (·.dst) with | some d => [d] | none => []) | none => [])
where tmpsOf' : List Operand → List Nat
 | [] => []
 | .tmp t :: l => t :: tmpsOf' l
 | _ :: l => tmpsOf' l
def aZ0 (ops : Array Oper) (x y : Oper) : Bool :=
 (match x.dst with
  | some d => !jI d (looks ops y) && (match y.dst with | some e => !Nat.beq e d | none => true)
  | none => true) &&
 (match y.dst with
  | some d => !jI d (looks ops x)
  | none => true)
def bE3 (ops : Array Oper) (i : Nat) (o : Oper) (un : List (Nat × Oper)) : Bool := un.all fun p => Nat.beq p.1 i || aDu p.2 i || aZ0 ops o p.2
def bEt (E : Env) (σ : St) (o : Oper) : Bool := match o.op with
 | .move _ | .assign _ | .pick .. | .nilCheck _ | .binOp .. | .unOp .. | .build .. | .fieldAddr .. | .field .. | .indexAddr .. | .index .. | .extract .. | .slice .. | .load .. | .makeFunc .. | .makeInterface .. | .typeAssert .. | .sliceToArrayPointer .. => true
 | .call { callee := .builtin .len, .. } => true
 | .convert _ t x => match E.tt t with
  | some ti => match bAn ti.k (σ.ev x) with | some _ => true | none => false
  | none => false
 | _ => false
def aDv (o : Oper) (I : List Nat) : Bool := I.any fun i => aDu o i
def aJa (o : Oper) (T : List (List Nat × Nat)) : List (List Nat × Nat) := T.filter fun p => !aDv o p.1
def aLm (i : Nat) (o : Oper) (T : List (List Nat × Nat)) : List (List Nat × Nat) := T.map fun p => (bif aDv o p.1 then i :: p.1 else p.1, p.2)
def uX (o : Oper) (T : List (List Nat × Nat)) : Bool := match o.dst with
 | some d => T.all fun p => !Nat.beq p.2 d
 | none => true
def xU (σ : St) (W : List Nat) (T : List (List Nat × Nat)) : Bool := T.all fun p => match σ.ev (.tmp p.2) with
 | .ptr k _ => !jI k W
 | .elp k _ _ => !jI k W && (match σ.obj k with | some (.chunk _ _ _) => true | _ => false)
 | .arp k _ => !jI k W && (match σ.obj k with | some (.chunk _ _ _) => true | _ => false)
 | .sgp k _ _ _ _ _ => !jI k W
 | .rop _ _ | .rap _ _ _ => true
 | _ => false
def bFi {α R : Type} (g : α → Option R) : List α → Option R
 | [] => none
 | [x] => g x
 | x :: y :: l => both (g x) (bFi g (y :: l))
def aVu (E : Env) (lt : List Nat) (N : Nat) (σ : St) (un : List (Nat × Oper)) : List (Nat × Oper) → Option (Nat × Oper)
 | [] => none
 | p :: l => bif bEt E σ p.2 && aG7 N un p.2 && !jI p.1 lt then some p else aVu E lt N σ un l
def aIz (o : Oper) : Option Nat := match o.op with
 | .load _ (.tmp s) => some s
 | _ => none
def OR.goW {R : Type} (o : Oper) (T : List (List Nat × Nat)) (σ : St) (k : St → Option R) (kp : SV → St → Option R) : OR → Option R
 | .fail => none
 | .one ok σ' => bif xU σ (wr o σ) T then (bif ok then k σ' else none) else none
 | .call _ m f W => bif xU σ W T then (aD m fun y => k (f y)) else none
 | .callP _ _ m f h v W => bif xU σ W T then (aD m fun y => match y with
  | .inl y => k (f y)
  | .inr z => kp (v z) (h z)) else none
 | .panic v => kp v σ
def stepW {R : Type} (E : Env) (o : Oper) (T : List (List Nat × Nat)) (σ : St) (k : St → Option R) (kp : SV → St → Option R) : Option R := (opx E o σ).goW o T σ k kp
def rA {R : Type} (E : Env) (lt : List Nat) (ops : Array Oper) (N : Nat) (kp : SV → St → Option R) : Nat → List (Nat × Oper) → List (List Nat × Nat) → St → (St → Option R) → Option R
 | _, [], _, σ, k => k σ
 | 0, _ :: _, _, _, _ => none
 | f + 1, p :: un, T, σ, k => match aVu E lt N σ (p :: un) (p :: un) with
  | some (i, o) => bif bE3 ops i o (p :: un) && uX o T then
    guarded ops o σ (fun σ' => match aIz o with
     | some s => bif Nat.blt s 900000 && uX o [([i], s)] then step1 E o σ' (fun σ'' => rA E lt ops N kp f (lM i (p :: un)) (([i], s) :: aLm i o T) σ'' k) (fun _ _ => none) else none
     | none => match opR E o σ' with
      | some q => bif q.1 then rA E lt ops N kp f (lM i (p :: un)) (aLm i o T) q.2 k else none
      | none => none)
     (fun σ' => rA E lt ops N kp f (lM i (p :: un)) (aLm i o T) σ' k)
   else none
  | none => bFi (fun q => let T' := aJa q.2 T
    bif uX q.2 T' then
     guarded ops q.2 σ (fun σ' => stepW E q.2 T' σ' (fun σ'' => rA E lt ops N kp f (lM q.1 (p :: un)) T' σ'' k) kp)
      (fun σ' => rA E lt ops N kp f (lM q.1 (p :: un)) T' σ' k)
    else none) ((p :: un).filter fun q => aG7 N (p :: un) q.2)
def aRk : List Oper → Bool
 | [] => true
 | o :: l => match o.op with | .select _ _ => false | _ => aRk l
def numbered (k : Nat) : List Oper → List (Nat × Oper)
 | [] => []
 | o :: l => (k, o) :: numbered (k + 1) l
inductive Xt where
 | normal | exit (id : Nat) | ret
 | panic (v : SV)
def aLq : List (Nat × SV) → List (Nat × SV)
 | [] => []
 | p :: l => bif Nat.ble 900000 p.1 then p :: aLq l else aLq l
def St.far (σ : St) : St := { σ with sl := aLq σ.sl }
def dstsOf : List Oper → List Nat
 | [] => []
 | o :: l => match o.dst with | some d => d :: dstsOf l | none => dstsOf l
def Code.dsts : Code → List Nat
 | .region _ ops _ => dstsOf ops.toList
 | .seq a b => dsts a ++ dsts b
 | .cond _ a b => dsts a ++ dsts b
 | .block _ c | .loop c | .scope c => dsts c
 | _ => []
def Code.first : Code → Option Nat
 | .region id _ _ => some id
 | .seq a b => match first a with | some i => some i | none => first b
 | .cond _ a b => match first a with | some i => some i | none => first b
 | .block _ c | .loop c | .scope c => first c
 | _ => none
structure Hint where
 cs : List Nat
 vs : List Nat
 s : Sh
def aRs : SV → Bool
 | .val t _ => t.one
 | _ => false
def aEe (σ : St) : List Nat → SV
 | [] => .nil
 | i :: l => .cons (σ.slot i) (aEe σ l)
def aD6 : List Nat → SV → List (Nat × SV) → List (Nat × SV)
 | i :: l, .cons v s, acc => (i, v) :: aD6 l s acc
 | _, _, acc => acc
def base (σ : St) : List Nat → List (Nat × SV)
 | [] => []
 | i :: l => (i, σ.slot i) :: base σ l
def aKj (σ : St) (cs vs : List Nat) (s : Sh) (ns : List Nat) (x : s.T) : St :=
 { sl := aD6 vs (s.put ns x ns).v (base σ cs), hp := jN (s.put ns x ns).os }
def bHh {R : Type} (body : St → (Xt → St → Option R) → Option R) (σ : St) (cs vs : List Nat) (s : Sh) (k : Xt → St → Option R) : Option R :=
 match s.get σ (aEe σ vs) [] with
 | none => none
 | some (x0, ns, bor0) => bif eB bor0 ns then bE (fun L x => body (aKj σ cs vs s ns x) fun e σ' => match e with
   | .normal => match s.get σ' (aEe σ' vs) [] with
    | some (x', vis, bor) => bif eB bor vis then L x' else none
    | none => none
   | .exit i => k (.exit i) σ'
   | .ret => k .ret σ'
   | .panic v => k (.panic v) σ') x0 else none
def bAc {R : Type} (body : St → (Xt → St → Option R) → Option R) (k : Xt → St → Option R) : Nat → St → Option R
 | 0, _ => none
 | n + 1, σ => body σ fun e σ' => match e with
  | .normal => bAc body k n σ'
  | .exit i => k (.exit i) σ'
  | .ret => k .ret σ'
  | .panic v => k (.panic v) σ'
def late (H : List (Nat × Hint)) (id : Nat) : List Nat := match lk H (1000000 + id) with
 | some h => h.cs
 | none => []
def bHi {R : Type} (s : Sh) (cs vs : List Nat) (σ : St) (a : (Xt → St → Option (s.T ⊕ R)) → Option (s.T ⊕ R)) (b : St → Option R) (k : Xt → St → Option R) : Option R :=
 dA (a fun e σ' => match e with
  | .normal => match s.get σ' (aEe σ' vs) [] with
   | some (x, vis, bor) => bif eB bor vis then some (.inl x) else none
   | none => none
  | .exit i => (k (.exit i) σ').map .inr
  | .ret => (k .ret σ').map .inr
  | .panic v => (k (.panic v) σ').map .inr) fun x => b (aKj σ cs vs s (names 60000000 s.cnt) x)
def meets (H : List (Nat × Hint)) (b : Code) : Option Hint := match Code.first b with
 | some id => lk H (3000000 + id)
 | none => none
def ex (E : Env) (H : List (Nat × Hint)) : Code → (R : Type) → St → (Xt → St → Option R) → Option R
 | .skip, _, σ, k => k .normal σ
 | .region id ops draw, _, σ, k => bif draw then bif !aRk ops.toList then none else rA E (late H id) ops ops.size (fun v σ => k (.panic v) σ.far) ops.size (numbered 0 ops.toList) [] σ (k .normal) else aLs E ops (fun v σ => k (.panic v) σ.far) ops.toList σ (k .normal)
 | .seq a b, R, σ, k => match meets H b with
  | none => ex E H a R σ fun e σ' => match e with | .normal => ex E H b R σ' k | .exit i => k (.exit i) σ' | .ret => k .ret σ' | .panic v => k (.panic v) σ'
  | some h => bif h.cs.all (fun i => !jI i (Code.dsts a) && aRs (σ.slot i)) then bHi h.s h.cs h.vs σ (ex E H a (h.s.T ⊕ R) σ) (fun σ' => ex E H b R σ' k) k else none
 | .cond c a b, R, σ, k => match σ.ev c with
  | .val .bool t => bif t then ex E H a R (σ.refine c true) k else ex E H b R (σ.refine c false) k
  | .mb false t => bif t then both (ex E H a R (σ.refine c true) k) (ex E H b R (σ.refine c false) k) else ex E H b R (σ.refine c false) k
  | .mb true t => bif t then both (ex E H a R (σ.refine c true) k) (ex E H b R (σ.refine c false) k) else ex E H a R (σ.refine c true) k
  | _ => none
 | .block id c, R, σ, k => ex E H c R σ fun e σ' => match e with
  | .exit j => bif Nat.beq j id then k .normal σ' else k (.exit j) σ'
  | .normal => k .normal σ'
  | .ret => k .ret σ'
  | .panic v => k (.panic v) σ'
 | .loop c, R, σ, k => match Code.first c with
  | none => none
  | some id => match lk H (4000000 + id) with
   | some h => bAc (ex E H c R) k h.cs.length σ
   | none => match lk H id with
    | none => none
    | some h => bif h.cs.all (fun i => !jI i (Code.dsts c) && aRs (σ.slot i)) then bHh (ex E H c R) σ h.cs h.vs h.s k else none
 | .exit id, _, σ, k => k (.exit id) σ
 | .ret, _, σ, k => k .ret σ
 | _, _, _, _ => none
def aJl (i : Nat) : SV → List (Nat × SV)
 | .cons v s => (i, v) :: aJl (i + 1) s
 | _ => []
def aHj (i : Nat) : Sh → SV → List (Nat × SV)
 | .cons a b, .cons v s => match a.io with
  | .dead => aHj (i + 1) b s
  | _ => (i, v) :: aHj (i + 1) b s
 | _, _ => []
def aO1 (σ : St) (i : Nat) : Sh → SV
 | .cons a b => .cons (match a with | .dead => .dead | _ => σ.slot i) (aO1 σ (i + 1) b)
 | _ => .nil
def aTf (E : Env) (σ : St) : ResultVar → Option SV
 | .tmp t => some (σ.ev (.tmp t))
 | .cell a t => match E.tt t with
  | some ti => bif Nat.blt 0 ti.n then aIy σ ti (σ.ev (.tmp a)) else none
  | none => none
def aMi (E : Env) (σ : St) : List ResultVar → Option SV
 | [] => some .nil
 | r :: l => (aTf E σ r).bind fun v => (aMi E σ l).bind fun s => some (.cons v s)
def bHm (E : Env) (σ : St) (rs : List ResultVar) : Option SV := match rs with
 | [r] => aTf E σ r
 | rs => (aMi E σ rs).bind fun s => some (.tup s)
def Sh.lst : Sh → Bool
 | .nil => true
 | .cons _ s => s.lst
 | _ => false
def Sh.len : Sh → Nat
 | .cons _ s => s.len + 1
 | _ => 0
def jL (s : Sh) : List Nat := names 1000000 s.cnt
def dS (ins : Sh) (x : ins.T) : Put := ins.put (jL ins) x (jL ins)
def yN (nx : Nat) (ins : Sh) (x : ins.T) : St := { sl := aHj 1000000 ins (dS ins x).v ++ aJl 0 ((dS ins x).v.drop nx), hp := jN (dS ins x).os }
def uT (E : Env) (io res : Sh) (rs : List ResultVar) (σ : St) : Option (Sh.out io res).T :=
 (bHm E σ rs).bind fun rv => match (Sh.out io res).get σ (.cons (.tup (aO1 σ 1000000 io)) (.cons rv .nil)) [] with
 | some (y, vis, bor) => bif eB bor vis then some y else none
 | none => none
def aVl (E : Env) (H : List (Nat × Hint)) (c : Code) (rs : List ResultVar) (nx : Nat) (ins res : Sh) (x : ins.T) : Option (Sh.out ins.io res).T :=
 ex E H c _ (yN nx ins x) fun e σ => match e with
  | .normal | .ret => uT E ins.io res rs σ
  | .exit _ | .panic _ => none
def aYf (io pv : Sh) (σ : St) (v : SV) : Option (Sh.out io pv).T := match (Sh.out io pv).get σ (.cons (.tup (aO1 σ 1000000 io)) (.cons v .nil)) [] with
 | some (y, vis, bor) => bif eB bor vis then some y else none
 | none => none
def aVk (E : Env) (H : List (Nat × Hint)) (c : Code) (rs : List ResultVar) (nx : Nat) (ins res pv : Sh) (x : ins.T) : Option ((Sh.out ins.io res).T ⊕ (Sh.out ins.io pv).T) :=
 ex E H c _ (yN nx ins x) fun e σ => match e with
  | .normal | .ret => (uT E ins.io res rs σ).map .inl
  | .panic v => (aYf ins.io pv σ v).map .inr
  | .exit _ => none
end Ab
end
section
namespace Ab
open Go
theorem aHp {j k : Nat} (e : j ≠ k) : Nat.beq j k = false := by
 cases h : Nat.beq j k with
 | false => rfl
 | true => exact absurd (Nat.eq_of_beq_eq_true h) e
structure Loc where
 hdr : Value
 blk : Nat
abbrev dU := Nat → Option Ty
abbrev Hp := Nat → Option Obj
def Rd (w : World) (b o : Nat) (cs : List Value) : Prop := ∀ j v, cs[j]? = some v → w.cell? ⟨b, o + j, none⟩ = some v
def pay : Bool → List Value → Value
 | true, cs => .agg cs.toArray
 | false, cs => cs.headD undef
def aRi : Bool → List Value → Bool
 | true, _ => true
 | false, cs => Nat.beq cs.length 1
def xY (t : Ty) (cs : List Value) : Value := pay (!t.one) cs
def Rep (w : World) (pr : dU) : (t : Ty) → t.T → List Value → Prop
 | .int k, n, vs => vs = [.int k n]
 | .bool, b, vs => vs = [.bool b]
 | .str, s, vs => vs = [.string s]
 | .sl r, xs, vs => ∃ A c, vs = [.slice A xs.length c] ∧ xs.length ≤ c ∧ c ≤ maxLen ∧
   (xs.length = 0 ∨ ∃ b o, A = some ⟨b, o, none⟩ ∧ pr b = some r ∧ ∀ (i : Nat) (x : r.T), xs[i]? = some x → ∃ cs, cs.length = r.n ∧ Rd w b (o + i * r.n) cs ∧ Rep w pr r x cs)
 | .nil, _, vs => vs = []
 | .cons a b, x, vs => ∃ c d, vs = c ++ d ∧ Rep w pr a (Ty.fst a b x) c ∧ Rep w pr b (Ty.snd a b x) d
 | .noi, _, vs => vs = [.nilIface]
 | .alt _ _ _ s, .inr y, vs => (s.isI = true → Rep w pr s y vs) ∧ (vs = [.nilIface] ∨ ∃ t v, vs = [.iface t v])
 | .alt t g r _, .inl y, vs => ∃ cs, Rep w pr r y cs ∧ aRi g cs = true ∧ vs = [.iface t (pay g cs)]
 | .ern, b, vs => b = false ∧ vs = [.nilIface] ∨ b = true ∧ ∃ t v, vs = [.iface t v]
def Rows (w : World) (pr : dU) (r : Ty) (xs : List r.T) (cells : List Value) : Prop :=
 ∀ (i : Nat) (x : r.T), xs[i]? = some x → Rep w pr r x ((cells.drop (i * r.n)).take r.n)
def Rp (h : Hp) (ρ : Nat → Loc) (w : World) (pr : dU) : SV → List Value → Prop
 | .dead, vs => ∃ v, vs = [v]
 | .val t x, vs => t.one = true ∧ Rep w pr t x vs
 | .nsl, vs => vs = [.slice none 0 0]
 | .nilp, vs => vs = [.pointer none]
 | .hd k, vs => (∃ o, h k = some o ∧ o.isSl = true) ∧ vs = [(ρ k).hdr]
 | .ptr k o, vs => (∃ cs, h k = some (.var cs)) ∧ vs = [.pointer (some ⟨(ρ k).blk, o, none⟩)]
 | .elp k i o, vs => (h k).isSome = true ∧ ∃ v, vs = [v] ∧ ∀ e r xs, h k = some (.chunk e r xs) → 0 ≤ i ∧ i < (xs.length : Int) ∧ v = .pointer (some ⟨(ρ k).blk, i.toNat * r.n + o, none⟩)
 | .rop t x, vs => ∃ b o cs, vs = [.pointer (some ⟨b, o, none⟩)] ∧ (pr b).isSome = true ∧ cs.length = t.n ∧ Rd w b o cs ∧ Rep w pr t x cs
 | .agg s, vs => ∃ cs, vs = [.agg cs.toArray] ∧ (∀ v ∈ cs, v.oneCell' = true) ∧ Rp h ρ w pr s cs
 | .tup s, vs => ∃ cs, vs = [.tuple cs.toArray] ∧ Rp h ρ w pr s cs
 | .nil, vs => vs = []
 | .cons a b, vs => ∃ v d, vs = v :: d ∧ Rp h ρ w pr a [v] ∧ Rp h ρ w pr b d
 | .any, _ => True
 | .nli, vs => vs = [.nilIface]
 | .fn f s, vs => ∃ cs, vs = [.func (.func f) #[] cs.toArray] ∧ Rp h ρ w pr s cs
 | .mb neg b, vs => ∃ c, vs = [.bool (c != neg)] ∧ (b = false → c = false)
 | .arp k n, vs => (∃ o, h k = some o ∧ o.isSl = true) ∧ (ρ k).hdr = .slice (some ⟨(ρ k).blk, 0, none⟩) n n ∧ vs = [.pointer (some ⟨(ρ k).blk, 0, none⟩)]
 | .rap r n xs, vs => ∃ b o cs, vs = [.pointer (some ⟨b, o, none⟩)] ∧ (pr b).isSome = true ∧ xs.length = n ∧ cs.length = n * r.n ∧ (∀ v ∈ cs, v.oneCell' = true) ∧ Rd w b o cs ∧ Rows w pr r xs cs
 | .seg r n xs s, vs => ∃ c d, vs = c ++ d ∧ xs.length = n ∧ c.length = n * r.n ∧ Rows w pr r xs c ∧ Rp h ρ w pr s d
 | .sgp k o m n i off, vs => (∃ cs, h k = some (.var cs)) ∧ 0 ≤ i ∧ i < (n : Int) ∧ vs = [.pointer (some ⟨(ρ k).blk, o + i.toNat * m + off, none⟩)]
 | .mp k, vs => (∃ kt vt es, h k = some (.map kt vt es)) ∧ vs = [.map (some (ρ k).blk)]
def Ents (w : World) (pr : dU) (kt vt : Ty) : List (kt.T × vt.T) → List MapEntry → Prop
 | [], [] => True
 | e :: es, m :: ms => ((∃ cs, Rep w pr kt e.1 cs ∧ m.key = xY kt cs) ∧ ∃ ds, Rep w pr vt e.2 ds ∧ m.val = xY vt ds) ∧ Ents w pr kt vt es ms
 | _, _ => False
def EntS (w : World) (pr : dU) (kt vt : Ty) (es : List (kt.T × vt.T)) (ms : Array MapEntry) (clock : Nat) : Prop := Go.MapKept.Stamped ms clock ∧ Ents w pr kt vt es ms.toList
def RO (h : Hp) (ρ : Nat → Loc) (w : World) (pr : dU) (k : Nat) : Obj → Prop
 | .map kt vt es => ∃ ms clock, w.heap[(ρ k).blk]? = some (.map ms clock) ∧ EntS w pr kt vt es ms clock
 | .var cs => ∃ arr E, w.heap[(ρ k).blk]? = some (.cells arr E (0, 0)) ∧ (∀ v ∈ arr.toList, v.oneCell' = true) ∧ Rp h ρ w pr cs arr.toList
 | .chunk e r xs => 0 < r.n ∧ (∀ b, (ρ k).hdr.ownBlock = some b → (ρ k).blk = b) ∧ ∃ cells, w.ownsRow 0 e r.n (ρ k).hdr xs.length cells ∧ Rows w pr r xs cells ∧ ∀ v ∈ cells, v.oneCell' = true
 | .ro r xs => Rep w pr (.sl r) xs [(ρ k).hdr]
def own (h : Hp) (ρ : Nat → Loc) (k : Nat) : Option Nat := match h k with
 | some (.var _) => some (ρ k).blk
 | some (.map _ _ _) => some (ρ k).blk
 | some (.chunk _ _ _) => (ρ k).hdr.ownBlock
 | _ => none
structure Cx where
 w : World
 O : Nat → Prop
 pr : dU
structure Mo (C : Cx) (σ : St) (ρ : Nat → Loc) (pr : dU) (f : Nat → Value) (w : World) : Prop where
 sl : ∀ i v, lk σ.sl i = some v → Rp σ.obj ρ w pr v [f i]
 hp : ∀ k o, σ.obj k = some o → RO σ.obj ρ w pr k o
 inj : ∀ k j b, own σ.obj ρ k = some b → own σ.obj ρ j = some b → k = j
 prot : ∀ b r, pr b = some r → b < w.heap.size ∧ ∀ k, own σ.obj ρ k ≠ some b
 os : w.os = C.w.os
 tape : w.tape = C.w.tape
 output : w.output = C.w.output
 size : C.w.heap.size ≤ w.heap.size
 heap : ∀ b, b < C.w.heap.size → ¬ C.O b → w.heap[b]? = C.w.heap[b]?
 prC : ∀ b r, C.pr b = some r → pr b = some r
 prN : ∀ b r, pr b = some r → C.pr b = some r ∨ C.O b ∨ C.w.heap.size ≤ b
 ownC : ∀ k b, own σ.obj ρ k = some b → C.O b ∨ C.w.heap.size ≤ b
def PrLe (w : World) (pr : dU) (w' : World) (pr' : dU) : Prop := ∀ b r, pr b = some r → pr' b = some r ∧ w'.heap[b]? = w.heap[b]?
theorem PrLe.refl (w : World) (pr : dU) : PrLe w pr w pr := fun _ _ h => ⟨h, rfl⟩
theorem PrLe.trans {w w1 w2 : World} {p p1 p2 : dU} (h : PrLe w p w1 p1) (k : PrLe w1 p1 w2 p2) : PrLe w p w2 p2 :=
 fun b r hb => ⟨(k b r (h b r hb).1).1, (k b r (h b r hb).1).2.trans (h b r hb).2⟩
theorem Rd.move {w w' : World} {b o : Nat} {cs : List Value} (h : Rd w b o cs) (hb : w'.heap[b]? = w.heap[b]?) : Rd w' b o cs :=
 fun j v hj => (World.cell?_of_block (w := w) (w' := w') (a := ⟨b, o + j, none⟩) hb).trans (h j v hj)
theorem Rep.mono {w w' : World} {pr pr' : dU} (hp : PrLe w pr w' pr') : ∀ {t : Ty} {x : t.T} {vs : List Value}, Rep w pr t x vs → Rep w' pr' t x vs
 | .int _, _, _, h => h
 | .bool, _, _, h => h
 | .str, _, _, h => h
 | .sl r, xs, vs, h => by
  obtain ⟨A, c, h1, h2, h3, h4⟩ := h
  refine ⟨A, c, h1, h2, h3, h4.imp id ?_⟩
  rintro ⟨b, o, hA, hb, hx⟩
  refine ⟨b, o, hA, (hp b r hb).1, fun i x hi => ?_⟩
  obtain ⟨cs, hl, hr, hrep⟩ := hx i x hi
  exact ⟨cs, hl, hr.move (hp b r hb).2, Rep.mono hp hrep⟩
 | .nil, _, _, h => h
 | .cons a b, x, vs, h => by
  obtain ⟨c, d, h1, h2, h3⟩ := h
  exact ⟨c, d, h1, Rep.mono hp h2, Rep.mono hp h3⟩
 | .noi, _, _, h => h
 | .alt _ _ _ s, .inr _, _, h => ⟨fun e => Rep.mono (t := s) hp (h.1 e), h.2⟩
 | .alt _ _ r _, .inl _, _, h => by obtain ⟨cs, h1, h2⟩ := h; exact ⟨cs, Rep.mono (t := r) hp h1, h2⟩
 | .ern, _, _, h => h
theorem Rep.len {w : World} {pr : dU} : ∀ {t : Ty} {x : t.T} {vs : List Value}, Rep w pr t x vs → vs.length = t.n
 | .int _, _, _, h => by rw [show _ = _ from h]; rfl
 | .bool, _, _, h => by rw [show _ = _ from h]; rfl
 | .str, _, _, h => by rw [show _ = _ from h]; rfl
 | .sl r, _, _, h => by obtain ⟨A, c, h1, _⟩ := h; rw [h1]; rfl
 | .nil, _, _, h => by rw [show _ = _ from h]; rfl
 | .cons a b, _, _, h => by
  obtain ⟨c, d, h1, h2, h3⟩ := h
  rw [h1, List.length_append, Rep.len h2, Rep.len h3]; rfl
 | .noi, _, _, h => by rw [show _ = _ from h]; rfl
 | .alt _ _ _ _, .inr _, _, h => by rcases h.2 with h | ⟨_, _, h⟩ <;> rw [h] <;> rfl
 | .alt _ _ _ _, .inl _, _, h => by obtain ⟨_, _, _, h⟩ := h; rw [h]; rfl
 | .ern, _, _, h => by rcases h with ⟨_, h⟩ | ⟨_, _, _, h⟩ <;> rw [h] <;> rfl
theorem Rep.oneCell {w : World} {pr : dU} : ∀ {t : Ty} {x : t.T} {vs : List Value}, Rep w pr t x vs → ∀ v ∈ vs, v.oneCell' = true
 | .int k, _, _, h => by rw [show _ = _ from h]; intro v hv; simp at hv; subst hv; rfl
 | .bool, _, _, h => by rw [show _ = _ from h]; intro v hv; simp at hv; subst hv; rfl
 | .str, _, _, h => by rw [show _ = _ from h]; intro v hv; simp at hv; subst hv; rfl
 | .sl r, _, _, h => by obtain ⟨A, c, h1, _⟩ := h; rw [h1]; intro v hv; simp at hv; subst hv; rfl
 | .nil, _, _, h => by rw [show _ = _ from h]; intro v hv; cases hv
 | .cons a b, _, _, h => by
  obtain ⟨c, d, h1, h2, h3⟩ := h
  rw [h1]; intro v hv
  rcases List.mem_append.1 hv with hv | hv
  ·exact Rep.oneCell h2 v hv
  ·exact Rep.oneCell h3 v hv
 | .noi, _, _, h => by rw [show _ = _ from h]; intro v hv; simp at hv; subst hv; rfl
 | .alt _ _ _ _, .inr _, _, h => by rcases h.2 with h | ⟨_, _, h⟩ <;> rw [h] <;> intro v hv <;> simp at hv <;> subst hv <;> rfl
 | .alt _ _ _ _, .inl _, _, h => by obtain ⟨_, _, _, h⟩ := h; rw [h]; intro v hv; simp at hv; subst hv; rfl
 | .ern, _, _, h => by rcases h with ⟨_, h⟩ | ⟨_, _, _, h⟩ <;> rw [h] <;> intro v hv <;> simp at hv <;> subst hv <;> rfl
theorem Rows.mono {w w' : World} {pr pr' : dU} (hp : PrLe w pr w' pr') {r : Ty} {xs : List r.T} {cells : List Value} (h : Rows w pr r xs cells) : Rows w' pr' r xs cells :=
 fun i x hx => (h i x hx).mono hp
theorem Ents.mono {w w' : World} {pr pr' : dU} (hp : PrLe w pr w' pr') {kt vt : Ty} : ∀ {es : List (kt.T × vt.T)} {ms : List MapEntry}, Ents w pr kt vt es ms → Ents w' pr' kt vt es ms
 | [], [], h => h
 | _ :: _, _ :: _, h => ⟨⟨by obtain ⟨cs, h1, h2⟩ := h.1.1; exact ⟨cs, h1.mono hp, h2⟩, by obtain ⟨cs, h1, h2⟩ := h.1.2; exact ⟨cs, h1.mono hp, h2⟩⟩, Ents.mono hp h.2⟩
 | [], _ :: _, h => h.elim
 | _ :: _, [], h => h.elim
theorem EntS.mono {w w' : World} {pr pr' : dU} (hp : PrLe w pr w' pr') {kt vt : Ty} {es : List (kt.T × vt.T)} {ms : Array MapEntry} {clock : Nat} (h : EntS w pr kt vt es ms clock) : EntS w' pr' kt vt es ms clock := ⟨h.1, h.2.mono hp⟩
def OLe : Obj → Obj → Prop
 | .var _, .var _ => True
 | .map kt vt _, .map kt' vt' _ => kt = kt' ∧ vt = vt'
 | .chunk _ r xs, .chunk _ r' ys => r = r' ∧ xs.length ≤ ys.length
 | .chunk _ _ _, .ro _ _ => True
 | .ro _ _, .ro _ _ => True
 | _, _ => False
theorem OLe.refl (o : Obj) : OLe o o := by cases o <;> simp [OLe]
theorem OLe.sl {o o' : Obj} (h : OLe o o') (k : o.isSl = true) : o'.isSl = true := by cases o <;> cases o' <;> simp_all [OLe, Obj.isSl]
def HLe (h : Hp) (ρ : Nat → Loc) (h' : Hp) (ρ' : Nat → Loc) (k : Nat) : Prop := ∀ o, h k = some o → ∃ o', h' k = some o' ∧ ρ' k = ρ k ∧ OLe o o'
theorem HLe.refl (h : Hp) (ρ : Nat → Loc) (k : Nat) : HLe h ρ h ρ k := fun o ho => ⟨o, ho, rfl, OLe.refl o⟩
theorem Rp.mono {h h' : Hp} {ρ ρ' : Nat → Loc} {w w' : World} {pr pr' : dU} (hp : PrLe w pr w' pr') (hh : ∀ k, HLe h ρ h' ρ' k) :
  ∀ {v : SV} {vs : List Value}, Rp h ρ w pr v vs → Rp h' ρ' w' pr' v vs
 | .dead, _, q => q
 | .val _ _, _, q => ⟨q.1, q.2.mono hp⟩
 | .nsl, _, q => q
 | .nilp, _, q => q
 | .hd k, _, q => by
  obtain ⟨⟨o, ho, hn⟩, hv⟩ := q
  obtain ⟨o', ho', hρ, hle⟩ := hh k o ho
  exact ⟨⟨o', ho', hle.sl hn⟩, by rw [hv, hρ]⟩
 | .ptr k o, _, q => by
  obtain ⟨⟨cs, hc⟩, hv⟩ := q
  obtain ⟨o', ho', hρ, hle⟩ := hh k _ hc
  cases o' <;> simp only [OLe] at hle
  exact ⟨⟨_, ho'⟩, by rw [hv, hρ]⟩
 | .elp k i o, _, q => by
  obtain ⟨hs, v, hv, hx⟩ := q
  obtain ⟨ob, hob⟩ := Option.isSome_iff_exists.1 hs
  obtain ⟨o', ho', hρ, hle⟩ := hh k ob hob
  refine ⟨by rw [ho']; rfl, v, hv, fun e r xs hc => ?_⟩
  rw [ho'] at hc; cases hc
  cases ob <;> simp only [OLe] at hle
  rename_i e0 r0 ys
  obtain ⟨rfl, hle⟩ := hle
  obtain ⟨h0, h1, h2⟩ := hx _ _ _ hob
  exact ⟨h0, by omega, by rw [h2, hρ]⟩
 | .rop t x, _, q => by
  obtain ⟨b, o, cs, h1, h2, h3, h4, h5⟩ := q
  obtain ⟨r, hr⟩ := Option.isSome_iff_exists.1 h2
  exact ⟨b, o, cs, h1, by rw [(hp b r hr).1]; rfl, h3, h4.move (hp b r hr).2, h5.mono hp⟩
 | .any, _, _ => trivial
 | .nli, _, q => q
 | .mb _ _, _, q => q
 | .fn f s, _, q => by obtain ⟨cs, h1, h2⟩ := q; exact ⟨cs, h1, Rp.mono hp hh h2⟩
 | .arp k n, _, q => by
  obtain ⟨⟨o, ho, hn⟩, h1, hv⟩ := q
  obtain ⟨o', ho', hρ, hle⟩ := hh k o ho
  exact ⟨⟨o', ho', hle.sl hn⟩, by rw [hρ]; exact h1, by rw [hρ]; exact hv⟩
 | .rap r n xs, _, q => by
  obtain ⟨b, o, cs, h1, h2, h3, h4, h5, h6, h7⟩ := q
  obtain ⟨t, ht⟩ := Option.isSome_iff_exists.1 h2
  exact ⟨b, o, cs, h1, by rw [(hp b t ht).1]; rfl, h3, h4, h5, h6.move (hp b t ht).2, h7.mono hp⟩
 | .seg r n xs s, _, q => by obtain ⟨c, d, h1, h2, h3, h4, h5⟩ := q; exact ⟨c, d, h1, h2, h3, h4.mono hp, Rp.mono hp hh h5⟩
 | .sgp k o m n i off, _, q => by
  obtain ⟨⟨cs, hc⟩, h1, h2, hv⟩ := q
  obtain ⟨o', ho', hρ, hle⟩ := hh k _ hc
  cases o' <;> simp only [OLe] at hle
  exact ⟨⟨_, ho'⟩, h1, h2, by rw [hv, hρ]⟩
 | .mp k, _, q => by
  obtain ⟨⟨kt, vt, es, hc⟩, hv⟩ := q
  obtain ⟨o', ho', hρ, hle⟩ := hh k _ hc
  cases o' <;> simp only [OLe] at hle
  exact ⟨⟨_, _, _, ho'⟩, by rw [hv, hρ]⟩
 | .agg s, _, q => by obtain ⟨cs, h1, h0, h2⟩ := q; exact ⟨cs, h1, h0, Rp.mono hp hh h2⟩
 | .tup s, _, q => by obtain ⟨cs, h1, h2⟩ := q; exact ⟨cs, h1, Rp.mono hp hh h2⟩
 | .nil, _, q => q
 | .cons a b, _, q => by obtain ⟨v, d, h1, h2, h3⟩ := q; exact ⟨v, d, h1, Rp.mono hp hh h2, Rp.mono hp hh h3⟩
theorem Rp.kill {h h' : Hp} {ρ ρ' : Nat → Loc} {w w' : World} {pr pr' : dU} (hp : PrLe w pr w' pr') (k : Nat) (hh : ∀ j, j ≠ k → HLe h ρ h' ρ' j) :
  ∀ {v : SV} {vs : List Value}, Rp h ρ w pr v vs → Rp h' ρ' w' pr' (v.kill k) vs
 | .dead, _, q => q
 | .val _ _, _, q => ⟨q.1, q.2.mono hp⟩
 | .nsl, _, q => q
 | .nilp, _, q => q
 | .hd j, _, q => by
  obtain ⟨⟨o, ho, hn⟩, hv⟩ := q
  by_cases e : j = k
  ·subst e; simp only [SV.kill, Nat.beq_refl, cond_true]; exact ⟨_, hv⟩
  ·have hb : Nat.beq j k = false := aHp e
   simp only [SV.kill, hb, cond_false]
   obtain ⟨o', ho', hρ, hle⟩ := hh j e o ho
   exact ⟨⟨o', ho', hle.sl hn⟩, by rw [hv, hρ]⟩
 | .ptr j o, _, q => by
  obtain ⟨⟨cs, hc⟩, hv⟩ := q
  by_cases e : j = k
  ·subst e; simp only [SV.kill, Nat.beq_refl, cond_true]; exact ⟨_, hv⟩
  ·have hb : Nat.beq j k = false := aHp e
   simp only [SV.kill, hb, cond_false]
   obtain ⟨o', ho', hρ, hle⟩ := hh j e _ hc
   cases o' <;> simp only [OLe] at hle
   exact ⟨⟨_, ho'⟩, by rw [hv, hρ]⟩
 | .elp j i o, _, q => by
  obtain ⟨hs, v, hv, hx⟩ := q
  by_cases e : j = k
  ·subst e; simp only [SV.kill, Nat.beq_refl, cond_true]; exact ⟨_, hv⟩
  ·have hb : Nat.beq j k = false := aHp e
   simp only [SV.kill, hb, cond_false]
   obtain ⟨ob, hob⟩ := Option.isSome_iff_exists.1 hs
   obtain ⟨o', ho', hρ, hle⟩ := hh j e ob hob
   refine ⟨by rw [ho']; rfl, v, hv, fun e r xs hc => ?_⟩
   rw [ho'] at hc; cases hc
   cases ob <;> simp only [OLe] at hle
   rename_i e0 r0 ys
   obtain ⟨rfl, hle⟩ := hle
   obtain ⟨h0, h1, h2⟩ := hx _ _ _ hob
   exact ⟨h0, by omega, by rw [h2, hρ]⟩
 | .rop t x, _, q => by
  obtain ⟨b, o, cs, h1, h2, h3, h4, h5⟩ := q
  obtain ⟨r, hr⟩ := Option.isSome_iff_exists.1 h2
  exact ⟨b, o, cs, h1, by rw [(hp b r hr).1]; rfl, h3, h4.move (hp b r hr).2, h5.mono hp⟩
 | .any, _, _ => trivial
 | .nli, _, q => q
 | .mb _ _, _, q => q
 | .fn f s, _, q => by obtain ⟨cs, h1, h2⟩ := q; exact ⟨cs, h1, Rp.kill hp k hh h2⟩
 | .arp j n, _, q => by
  obtain ⟨⟨o, ho, hn⟩, h1, hv⟩ := q
  by_cases e : j = k
  ·subst e; simp only [SV.kill, Nat.beq_refl, cond_true]; exact ⟨_, hv⟩
  ·have hb : Nat.beq j k = false := aHp e
   simp only [SV.kill, hb, cond_false]
   obtain ⟨o', ho', hρ, hle⟩ := hh j e o ho
   exact ⟨⟨o', ho', hle.sl hn⟩, by rw [hρ]; exact h1, by rw [hρ]; exact hv⟩
 | .rap r n xs, _, q => by
  obtain ⟨b, o, cs, h1, h2, h3, h4, h5, h6, h7⟩ := q
  obtain ⟨t, ht⟩ := Option.isSome_iff_exists.1 h2
  exact ⟨b, o, cs, h1, by rw [(hp b t ht).1]; rfl, h3, h4, h5, h6.move (hp b t ht).2, h7.mono hp⟩
 | .seg r n xs s, _, q => by obtain ⟨c, d, h1, h2, h3, h4, h5⟩ := q; exact ⟨c, d, h1, h2, h3, h4.mono hp, Rp.kill hp k hh h5⟩
 | .sgp j o m n i off, _, q => by
  obtain ⟨⟨cs, hc⟩, h1, h2, hv⟩ := q
  by_cases e : j = k
  ·subst e; simp only [SV.kill, Nat.beq_refl, cond_true]; exact ⟨_, hv⟩
  ·have hb : Nat.beq j k = false := aHp e
   simp only [SV.kill, hb, cond_false]
   obtain ⟨o', ho', hρ, hle⟩ := hh j e _ hc
   cases o' <;> simp only [OLe] at hle
   exact ⟨⟨_, ho'⟩, h1, h2, by rw [hv, hρ]⟩
 | .mp j, _, q => by
  obtain ⟨⟨kt, vt, es, hc⟩, hv⟩ := q
  by_cases e : j = k
  ·subst e; simp only [SV.kill, Nat.beq_refl, cond_true]; exact ⟨_, hv⟩
  ·have hb : Nat.beq j k = false := aHp e
   simp only [SV.kill, hb, cond_false]
   obtain ⟨o', ho', hρ, hle⟩ := hh j e _ hc
   cases o' <;> simp only [OLe] at hle
   exact ⟨⟨_, _, _, ho'⟩, by rw [hv, hρ]⟩
 | .agg s, _, q => by obtain ⟨cs, h1, h0, h2⟩ := q; exact ⟨cs, h1, h0, Rp.kill hp k hh h2⟩
 | .tup s, _, q => by obtain ⟨cs, h1, h2⟩ := q; exact ⟨cs, h1, Rp.kill hp k hh h2⟩
 | .nil, _, q => q
 | .cons a b, _, q => by obtain ⟨v, d, h1, h2, h3⟩ := q; exact ⟨v, d, h1, Rp.kill hp k hh h2, Rp.kill hp k hh h3⟩
theorem RO.mono {h h' : Hp} {ρ ρ' : Nat → Loc} {w w' : World} {pr pr' : dU} (hp : PrLe w pr w' pr') (hh : ∀ k, HLe h ρ h' ρ' k)
  {k : Nat} {o : Obj} (q : RO h ρ w pr k o) (hk : h k = some o) (hb : ∀ b, own h ρ k = some b → w'.heap[b]? = w.heap[b]?) : RO h' ρ' w' pr' k o := by
 obtain ⟨_, _, hρ, _⟩ := hh k o hk
 cases o with
 | map kt vt es =>
  obtain ⟨ms, clock, h1, h2⟩ := q
  refine ⟨ms, clock, ?_, h2.mono hp⟩
  rw [hρ, hb _ (by simp [own, hk])]; exact h1
 | var cs =>
  obtain ⟨arr, E, h1, h2, h3⟩ := q
  refine ⟨arr, E, ?_, h2, h3.mono hp hh⟩
  rw [hρ, hb _ (by simp [own, hk])]; exact h1
 | chunk e r xs =>
  obtain ⟨h0, hB, cells, h1, h2, h3⟩ := q
  refine ⟨h0, by rw [hρ]; exact hB, cells, ?_, h2.mono hp, h3⟩
  rw [hρ]
  refine ⟨h1.1, h1.2.imp id ?_⟩
  rintro ⟨g, cap, cur, h4, h5, h6, h7⟩
  exact ⟨g, cap, cur, h4, h5, by rw [hb g (by simp [own, hk, h4, Value.ownBlock])]; exact h6, h7⟩
 | ro r xs => show Rep _ _ _ _ _; rw [hρ]; exact Rep.mono hp q
theorem RO.kill {h h' : Hp} {ρ ρ' : Nat → Loc} {w w' : World} {pr pr' : dU} (hp : PrLe w pr w' pr') (j : Nat) (hh : ∀ k, k ≠ j → HLe h ρ h' ρ' k)
  {k : Nat} {o : Obj} (hkj : k ≠ j) (q : RO h ρ w pr k o) (hk : h k = some o) (hb : ∀ b, own h ρ k = some b → w'.heap[b]? = w.heap[b]?) : RO h' ρ' w' pr' k (o.kill j) := by
 obtain ⟨_, _, hρ, _⟩ := hh k hkj o hk
 cases o with
 | map kt vt es =>
  obtain ⟨ms, clock, h1, h2⟩ := q
  refine ⟨ms, clock, ?_, h2.mono hp⟩
  rw [hρ, hb _ (by simp [own, hk])]; exact h1
 | var cs =>
  obtain ⟨arr, E, h1, h2, h3⟩ := q
  refine ⟨arr, E, ?_, h2, h3.kill hp j hh⟩
  rw [hρ, hb _ (by simp [own, hk])]; exact h1
 | chunk e r xs =>
  obtain ⟨h0, hB, cells, h1, h2, h3⟩ := q
  refine ⟨h0, by rw [hρ]; exact hB, cells, ?_, h2.mono hp, h3⟩
  rw [hρ]
  refine ⟨h1.1, h1.2.imp id ?_⟩
  rintro ⟨g, cap, cur, h4, h5, h6, h7⟩
  exact ⟨g, cap, cur, h4, h5, by rw [hb g (by simp [own, hk, h4, Value.ownBlock])]; exact h6, h7⟩
 | ro r xs => show Rep _ _ _ _ _; rw [hρ]; exact Rep.mono hp q
theorem Rp.one {h : Hp} {ρ : Nat → Loc} {w : World} {pr : dU} {a b : SV} {vs : List Value} (q : Rp h ρ w pr (.cons a b) vs) : ∃ v d, vs = v :: d ∧ Rp h ρ w pr a [v] ∧ Rp h ρ w pr b d := q
end Ab
end
section
namespace Ab
open Go
theorem aUl (j k : Nat) : Nat.beq j k = decide (j = k) := by
 by_cases h : j = k
 ·subst h; simp
 simp [aHp h, h]
theorem fG {α : Type} (i : Nat) (a : α) (l : List (Nat × α)) (j : Nat) : lk ((i, a) :: l) j = if i = j then some a else lk l j := by
 show (bif Nat.beq i j then some a else lk l j) = _
 rw [aUl]; by_cases h : i = j <;> simp [h]
theorem aKe (k : Nat) : ∀ (l : List (Nat × SV)) (i : Nat), lk (aHg k l) i = (lk l i).map (SV.kill k)
 | [], _ => rfl
 | p :: l, i => by
  obtain ⟨a, v⟩ := p
  simp only [aHg, fG, aKe k l i]
  split <;> rfl
theorem aFw (k : Nat) : ∀ (l : List (Nat × Option Obj)) (i : Nat), lk (aKg k l) i = (lk l i).map fun o => if i = k then none else o.map (Obj.kill k)
 | [], _ => rfl
 | p :: l, i => by
  obtain ⟨a, o⟩ := p
  cases o with
  | none =>
   simp only [aKg, fG, aFw k l i]
   split <;> simp
  | some o =>
   simp only [aKg, fG, aFw k l i]
   split
   ·rename_i h; subst h
    rw [aUl]; by_cases e : a = k <;> simp [e]
   ·rfl
theorem St.obj_put (σ : St) (k : Nat) (o : Obj) (j : Nat) : (σ.put k o).obj j = if k = j then some o else σ.obj j := by
 unfold St.obj St.put
 simp only [fG]
 by_cases h : k = j <;> simp [h]
theorem St.obj_kill (σ : St) (k j : Nat) : (σ.kill k).obj j = if j = k then none else (σ.obj j).map (Obj.kill k) := by
 unfold St.obj St.kill
 simp only [aFw]
 cases lk σ.hp j <;> simp
theorem St.obj_stale (σ : St) (k : Nat) (o : Obj) (h : σ.obj k = some o) (j : Nat) : (σ.stale k).obj j = if j = k then some o else (σ.obj j).map (Obj.kill k) := by
 unfold St.stale
 rw [h]
 unfold St.obj
 simp only [fG, aFw]
 by_cases e : k = j
 ·subst e; simp
 have e' : ¬ j = k := fun h => e h.symm
 simp only [e, if_false, e']
 cases lk σ.hp j <;> simp
section
variable {C : Cx} {σ : St} {ρ : Nat → Loc} {pr : dU} {f : Nat → Value} {w : World}
theorem own_lt {h : Hp} {k b : Nat} (hk : ∀ o, h k = some o → RO h ρ w pr k o) (hb : own h ρ k = some b) : b < w.heap.size := by
 unfold own at hb
 cases hh : h k with
 | none => simp [hh] at hb
 | some o =>
  have q := hk o hh
  cases o with
  | map kt vt es =>
   simp [hh] at hb; subst hb
   obtain ⟨ms, clock, h1, _⟩ := q
   exact (Array.getElem?_eq_some_iff.1 h1).1
  | var cs =>
   simp [hh] at hb; subst hb
   obtain ⟨arr, E, h1, _⟩ := q
   exact (Array.getElem?_eq_some_iff.1 h1).1
  | chunk e r xs =>
   simp [hh] at hb
   obtain ⟨_, _, cells, h1, _⟩ := q
   exact (h1.lt b hb).2
  | ro r xs => simp [hh] at hb
theorem Mo.own_lt (M : Mo C σ ρ pr f w) {k b : Nat} (hb : own σ.obj ρ k = some b) : b < w.heap.size := Ab.own_lt (M.hp k) hb
theorem Mo.set (M : Mo C σ ρ pr f w) (d : Nat) (v : SV) (x : Value) (q : Rp σ.obj ρ w pr v [x]) : Mo C (σ.set d v) ρ pr (fun i => if i = d then x else f i) w :=
 { M with
  sl := fun i u hu => by
   change lk ((d, v) :: σ.sl) i = some u at hu
   rw [fG] at hu
   by_cases e : d = i
   ·subst e; simp at hu; subst hu; rw [if_pos rfl]; exact q
   ·have e' : ¬ i = d := fun h => e h.symm
    simp only [e, if_false] at hu
    simp only [e', if_false]
    exact M.sl i u hu }
theorem Mo.slots (M : Mo C σ ρ pr f w) {g : Nat → Value} (h : ∀ i v, lk σ.sl i = some v → g i = f i) : Mo C σ ρ pr g w :=
 { M with sl := fun i v hv => by rw [h i v hv]; exact M.sl i v hv }
theorem Mo.world (M : Mo C σ ρ pr f w) {w' : World} (hb : RowKit.Below w.heap.size w w') : Mo C σ ρ pr f w' := by
  have hp : PrLe w pr w' pr := fun b r h => ⟨h, hb.block b (M.prot b r h).1⟩
  exact
  { sl := fun i v hv => (M.sl i v hv).mono hp (fun k => HLe.refl _ _ k)
    hp := fun k o hk => (M.hp k o hk).mono hp (fun k => HLe.refl _ _ k) hk (fun b hb' => hb.block b (M.own_lt hb'))
    inj := M.inj
    prot := fun b r h => ⟨Nat.lt_of_lt_of_le (M.prot b r h).1 hb.size, (M.prot b r h).2⟩
    os := hb.os.trans M.os, tape := hb.tape.trans M.tape, output := hb.output.trans M.output, size := Nat.le_trans M.size hb.size
    heap := fun b h1 h2 => (hb.block b (Nat.lt_of_lt_of_le h1 M.size)).trans (M.heap b h1 h2)
    prC := M.prC, prN := M.prN, ownC := M.ownC }
theorem Mo.kill (M : Mo C σ ρ pr f w) (k : Nat) : Mo C (σ.kill k) ρ pr f w := by
  have hh : ∀ j, j ≠ k → HLe σ.obj ρ (σ.kill k).obj ρ j := fun j hj o ho => by
    refine ⟨o.kill k, by rw [St.obj_kill, if_neg hj, ho]; rfl, rfl, ?_⟩
    cases o <;> simp [Obj.kill, OLe]
  have hown : ∀ j b, own (σ.kill k).obj ρ j = some b → own σ.obj ρ j = some b := fun j b h => by
    unfold own at h ⊢
    rw [St.obj_kill] at h
    by_cases e : j = k
    · simp [e] at h
    · simp only [e, if_false] at h
      cases ho : σ.obj j with
      | none => simp [ho] at h
      | some o => cases o <;> simp [ho, Obj.kill] at h ⊢ <;> exact h
  exact
  { sl := fun i v hv => by
      change lk (aHg k σ.sl) i = some v at hv
      rw [aKe] at hv
      cases hu : lk σ.sl i with
      | none => simp [hu] at hv
      | some u => simp [hu] at hv; subst hv; exact (M.sl i u hu).kill (PrLe.refl _ _) k hh
    hp := fun j o hj => by
      rw [St.obj_kill] at hj
      by_cases e : j = k
      · simp [e] at hj
      · simp only [e, if_false] at hj
        cases ho : σ.obj j with
        | none => simp [ho] at hj
        | some o' => simp [ho] at hj; subst hj; exact (M.hp j o' ho).kill (PrLe.refl _ _) k hh e ho (fun _ _ => rfl)
    inj := fun i j b h1 h2 => M.inj i j b (hown i b h1) (hown j b h2)
    prot := fun b r h => ⟨(M.prot b r h).1, fun j hj => (M.prot b r h).2 j (hown j b hj)⟩
    os := M.os, tape := M.tape, output := M.output, size := M.size, heap := M.heap, prC := M.prC, prN := M.prN
    ownC := fun j b h => M.ownC j b (hown j b h) }
theorem free_spec {k : Nat} (h : σ.free k = true) : σ.obj k = none := by
 unfold St.free at h
 cases ho : σ.obj k <;> simp_all
theorem Mo.add (M : Mo C σ ρ pr f w) {k : Nat} {o : Obj} {ρ' : Nat → Loc} {w' : World} (hk : σ.obj k = none) (hρ : ∀ j, j ≠ k → ρ' j = ρ j)
    (hb : RowKit.Below w.heap.size w w') (ho : (∀ v vs, Rp σ.obj ρ w pr v vs → Rp (σ.put k o).obj ρ' w' pr v vs) → RO (σ.put k o).obj ρ' w' pr k o) (hnew : ∀ b, own (σ.put k o).obj ρ' k = some b → w.heap.size ≤ b) :
    Mo C (σ.put k o) ρ' pr f w' ∧ (∀ v vs, Rp σ.obj ρ w pr v vs → Rp (σ.put k o).obj ρ' w' pr v vs) := by
  have hp : PrLe w pr w' pr := fun b r h => ⟨h, hb.block b (M.prot b r h).1⟩
  have hh : ∀ j, HLe σ.obj ρ (σ.put k o).obj ρ' j := fun j q hq => by
    have e : j ≠ k := fun e => by subst e; rw [hk] at hq; cases hq
    exact ⟨q, by rw [St.obj_put, if_neg (fun h => e h.symm)]; exact hq, hρ j e, OLe.refl q⟩
  have hown : ∀ j b, j ≠ k → own (σ.put k o).obj ρ' j = some b → own σ.obj ρ j = some b := fun j b e h => by
    unfold own at h ⊢
    rw [St.obj_put, if_neg (fun h => e h.symm), hρ j e] at h
    exact h
  refine ⟨?_, fun v vs q => q.mono hp hh⟩
  exact
  { sl := fun i v hv => (M.sl i v hv).mono hp hh
    hp := fun j q hq => by
      by_cases e : j = k
      · subst e; rw [St.obj_put, if_pos rfl] at hq; cases hq; exact ho (fun v vs q => q.mono hp hh)
      · rw [St.obj_put, if_neg (fun h => e h.symm)] at hq
        exact (M.hp j q hq).mono hp hh hq (fun b hb' => hb.block b (M.own_lt hb'))
    inj := fun i j b h1 h2 => by
      by_cases ei : i = k <;> by_cases ej : j = k
      · rw [ei, ej]
      · subst ei; have := hnew b h1; have := M.own_lt (hown j b ej h2); omega
      · subst ej; have := hnew b h2; have := M.own_lt (hown i b ei h1); omega
      · exact M.inj i j b (hown i b ei h1) (hown j b ej h2)
    prot := fun b r h => ⟨Nat.lt_of_lt_of_le (M.prot b r h).1 hb.size, fun j hj => by
      by_cases e : j = k
      · subst e; have := hnew b hj; have := (M.prot b r h).1; omega
      · exact (M.prot b r h).2 j (hown j b e hj)⟩
    os := hb.os.trans M.os, tape := hb.tape.trans M.tape, output := hb.output.trans M.output, size := Nat.le_trans M.size hb.size
    heap := fun b h1 h2 => (hb.block b (Nat.lt_of_lt_of_le h1 M.size)).trans (M.heap b h1 h2)
    prC := M.prC, prN := M.prN
    ownC := fun j b h => by
      by_cases e : j = k
      · subst e; exact .inr (Nat.le_trans M.size (hnew b h))
      · exact M.ownC j b (hown j b e h) }
theorem Mo.upd (M : Mo C σ ρ pr f w) {k : Nat} {o o' : Obj} {w' : World} (hk : σ.obj k = some o) (hle : OLe o o')
    (hos : w'.os = w.os) (htape : w'.tape = w.tape) (hout : w'.output = w.output) (hsize : w.heap.size ≤ w'.heap.size)
    (hb : ∀ b, b < w.heap.size → own σ.obj ρ k ≠ some b → w'.heap[b]? = w.heap[b]?)
    (ho : (∀ v vs, Rp σ.obj ρ w pr v vs → Rp (σ.put k o').obj ρ w' pr v vs) → RO (σ.put k o').obj ρ w' pr k o') (hown' : own (σ.put k o').obj ρ k = own σ.obj ρ k) :
    Mo C (σ.put k o') ρ pr f w' ∧ (∀ v vs, Rp σ.obj ρ w pr v vs → Rp (σ.put k o').obj ρ w' pr v vs) := by
  have hp : PrLe w pr w' pr := fun b r h => ⟨h, hb b (M.prot b r h).1 ((M.prot b r h).2 k)⟩
  have hh : ∀ j, HLe σ.obj ρ (σ.put k o').obj ρ j := fun j q hq => by
    by_cases e : j = k
    · subst e; rw [hk] at hq; cases hq
      exact ⟨o', by rw [St.obj_put, if_pos rfl], rfl, hle⟩
    · exact ⟨q, by rw [St.obj_put, if_neg (fun h => e h.symm)]; exact hq, rfl, OLe.refl q⟩
  have hown : ∀ j b, own (σ.put k o').obj ρ j = some b → own σ.obj ρ j = some b := fun j b h => by
    by_cases e : j = k
    · subst e; rw [← hown']; exact h
    · unfold own at h ⊢
      rw [St.obj_put, if_neg (fun h => e h.symm)] at h
      exact h
  have hm : ∀ v vs, Rp σ.obj ρ w pr v vs → Rp (σ.put k o').obj ρ w' pr v vs := fun v vs q => q.mono hp hh
  refine ⟨?_, hm⟩
  exact
  { sl := fun i v hv => hm _ _ (M.sl i v hv)
    hp := fun j q hq => by
      by_cases e : j = k
      · subst e; rw [St.obj_put, if_pos rfl] at hq; cases hq; exact ho hm
      · rw [St.obj_put, if_neg (fun h => e h.symm)] at hq
        exact (M.hp j q hq).mono hp hh hq (fun b hb' => hb b (M.own_lt hb') (fun h => e (M.inj j k b hb' h)))
    inj := fun i j b h1 h2 => M.inj i j b (hown i b h1) (hown j b h2)
    prot := fun b r h => ⟨Nat.lt_of_lt_of_le (M.prot b r h).1 hsize, fun j hj => (M.prot b r h).2 j (hown j b hj)⟩
    os := hos.trans M.os, tape := htape.trans M.tape, output := hout.trans M.output, size := Nat.le_trans M.size hsize
    heap := fun b h1 h2 => (hb b (Nat.lt_of_lt_of_le h1 M.size) (fun h => by
      rcases M.ownC k b h with h3 | h3
      · exact h2 h3
      · omega)).trans (M.heap b h1 h2)
    prC := M.prC, prN := M.prN, ownC := fun j b h => M.ownC j b (hown j b h) }
theorem Mo.repl (M : Mo C σ ρ pr f w) {k : Nat} {o o' : Obj} {ρ' : Nat → Loc} {w' : World} (hk : σ.obj k = some o) (hρ : ∀ j, j ≠ k → ρ' j = ρ j)
    (hos : w'.os = w.os) (htape : w'.tape = w.tape) (hout : w'.output = w.output) (hsize : w.heap.size ≤ w'.heap.size)
    (hb : ∀ b, b < w.heap.size → own σ.obj ρ k ≠ some b → w'.heap[b]? = w.heap[b]?)
    (ho : RO ((σ.stale k).put k o').obj ρ' w' pr k o') (hnew : ∀ b, own ((σ.stale k).put k o').obj ρ' k = some b → own σ.obj ρ k = some b ∨ w.heap.size ≤ b) :
    Mo C ((σ.stale k).put k o') ρ' pr f w' ∧ (∀ v vs, Rp σ.obj ρ w pr v vs → Rp ((σ.stale k).put k o').obj ρ' w' pr (v.kill k) vs) := by
  have hp : PrLe w pr w' pr := fun b r h => ⟨h, hb b (M.prot b r h).1 ((M.prot b r h).2 k)⟩
  have hobj : ∀ j, j ≠ k → ((σ.stale k).put k o').obj j = (σ.obj j).map (Obj.kill k) := fun j e => by
    rw [St.obj_put, if_neg (fun h => e h.symm), St.obj_stale σ k o hk, if_neg e]
  have hh : ∀ j, j ≠ k → HLe σ.obj ρ ((σ.stale k).put k o').obj ρ' j := fun j e q hq => by
    refine ⟨q.kill k, by rw [hobj j e, hq]; rfl, hρ j e, ?_⟩
    cases q <;> simp [Obj.kill, OLe]
  have hown : ∀ j b, j ≠ k → own ((σ.stale k).put k o').obj ρ' j = some b → own σ.obj ρ j = some b := fun j b e h => by
    unfold own at h ⊢
    rw [hobj j e, hρ j e] at h
    cases hq : σ.obj j with
    | none => simp [hq] at h
    | some q => cases q <;> simp [hq, Obj.kill] at h ⊢ <;> exact h
  refine ⟨?_, fun v vs q => q.kill hp k hh⟩
  exact
  { sl := fun i v hv => by
      have hsl : ((σ.stale k).put k o').sl = aHg k σ.sl := by unfold St.stale; rw [hk]; rfl
      rw [hsl, aKe] at hv
      cases hu : lk σ.sl i with
      | none => simp [hu] at hv
      | some u => simp [hu] at hv; subst hv; exact (M.sl i u hu).kill hp k hh
    hp := fun j q hq => by
      by_cases e : j = k
      · subst e; rw [St.obj_put, if_pos rfl] at hq; cases hq; exact ho
      · rw [hobj j e] at hq
        cases hq' : σ.obj j with
        | none => simp [hq'] at hq
        | some q' =>
          simp [hq'] at hq; subst hq
          exact (M.hp j q' hq').kill hp k hh e hq' (fun b hb' => hb b (M.own_lt hb') (fun h => e (M.inj j k b hb' h)))
    inj := fun i j b h1 h2 => by
      by_cases ei : i = k <;> by_cases ej : j = k
      · rw [ei, ej]
      · subst ei
        have h2' := hown j b ej h2
        rcases hnew b h1 with h3 | h3
        · exact M.inj _ _ b h3 h2'
        · have := M.own_lt h2'; omega
      · subst ej
        have h1' := hown i b ei h1
        rcases hnew b h2 with h3 | h3
        · exact M.inj _ _ b h1' h3
        · have := M.own_lt h1'; omega
      · exact M.inj i j b (hown i b ei h1) (hown j b ej h2)
    prot := fun b r h => ⟨Nat.lt_of_lt_of_le (M.prot b r h).1 hsize, fun j hj => by
      by_cases e : j = k
      · subst e
        rcases hnew b hj with h3 | h3
        · exact (M.prot b r h).2 _ h3
        · have := (M.prot b r h).1; omega
      · exact (M.prot b r h).2 j (hown j b e hj)⟩
    os := hos.trans M.os, tape := htape.trans M.tape, output := hout.trans M.output, size := Nat.le_trans M.size hsize
    heap := fun b h1 h2 => (hb b (Nat.lt_of_lt_of_le h1 M.size) (fun h => by
      rcases M.ownC k b h with h3 | h3
      · exact h2 h3
      · omega)).trans (M.heap b h1 h2)
    prC := M.prC, prN := M.prN
    ownC := fun j b h => by
      by_cases e : j = k
      · subst e
        rcases hnew b h with h3 | h3
        · exact M.ownC _ b h3
        · exact .inr (Nat.le_trans M.size h3)
      · exact M.ownC j b (hown j b e h) }
theorem aEf {w : World} {pr : dU} {r : Ty} {xs : List r.T} {cells : List Value} {hdr : Value} {e : Nat} (h1 : w.ownsRow 0 e r.n hdr xs.length cells)
  (h2 : Rows w pr r xs cells) (hb : ∀ b, hdr.ownBlock = some b → pr b = some r) : Rep w pr (.sl r) xs [hdr] := by
 rcases h1.2 with ⟨rfl, hn⟩ | ⟨g, cap, cur, rfl, _, hg, hle, hcap, hsz, htake⟩
 ·exact ⟨none, 0, by rw [hn], by omega, by simp [maxLen], .inl hn⟩
 refine ⟨some ⟨g, 0, none⟩, cap, rfl, hle, hcap, .inr ⟨g, 0, rfl, hb g rfl, fun i x hx => ?_⟩⟩
 have hi : i < xs.length := (List.getElem?_eq_some_iff.1 hx).1
 refine ⟨_, Rep.len (h2 i x hx), fun j v hj => ?_, h2 i x hx⟩
 rw [List.getElem?_take] at hj
 split at hj
 ·rw [List.getElem?_drop] at hj
  have := h1.cells (g := g) rfl _ _ hj
  simpa [Addr.add_lit, Nat.zero_add] using this
 cases hj
theorem Mo.freeze (M : Mo C σ ρ pr f w) (k : Nat) : ∃ pr', Mo C (σ.freeze k) ρ pr' f w ∧ PrLe w pr w pr' ∧ (∀ v vs, Rp σ.obj ρ w pr v vs → Rp (σ.freeze k).obj ρ w pr' v vs) ∧
    (∀ e r xs, σ.obj k = some (.chunk e r xs) → ∀ b, (ρ k).hdr.ownBlock = some b → pr' b = some r) ∧
    ∀ b r, pr' b = some r → pr b = some r ∨ ∃ e xs, σ.obj k = some (.chunk e r xs) ∧ (ρ k).hdr.ownBlock = some b := by
  unfold St.freeze
  cases hk : σ.obj k with
  | none => exact ⟨pr, M, PrLe.refl _ _, fun _ _ q => q, (fun _ _ _ h => by cases h), fun _ _ h => .inl h⟩
  | some o =>
    cases o with
    | map kt vt es => exact ⟨pr, M, PrLe.refl _ _, fun _ _ q => q, (fun _ _ _ h => by cases h), fun _ _ h => .inl h⟩
    | var cs => exact ⟨pr, M, PrLe.refl _ _, fun _ _ q => q, (fun _ _ _ h => by cases h), fun _ _ h => .inl h⟩
    | ro r xs => exact ⟨pr, M, PrLe.refl _ _, fun _ _ q => q, (fun _ _ _ h => by cases h), fun _ _ h => .inl h⟩
    | chunk e r xs =>
      simp only []
      obtain ⟨hr0, hB, cells, h1, h2, h3⟩ := M.hp k _ hk
      have howk : own σ.obj ρ k = (ρ k).hdr.ownBlock := by simp [own, hk]
      let pr' : dU := fun b => if (ρ k).hdr.ownBlock = some b then some r else pr b
      have hp : PrLe w pr w pr' := fun b t h => by
        refine ⟨?_, rfl⟩
        have : (ρ k).hdr.ownBlock ≠ some b := by rw [← howk]; exact (M.prot b t h).2 k
        simp [pr', this, h]
      have hh : ∀ j, HLe σ.obj ρ (σ.put k (.ro r xs)).obj ρ j := fun j q hq => by
        by_cases e : j = k
        · subst e; rw [hk] at hq; cases hq
          exact ⟨_, by rw [St.obj_put, if_pos rfl], rfl, by simp [OLe]⟩
        · exact ⟨q, by rw [St.obj_put, if_neg (fun h => e h.symm)]; exact hq, rfl, OLe.refl q⟩
      have hown : ∀ j b, own (σ.put k (.ro r xs)).obj ρ j = some b → j ≠ k ∧ own σ.obj ρ j = some b := fun j b h => by
        unfold own at h ⊢
        rw [St.obj_put] at h
        by_cases e : k = j
        · simp [e] at h
        · simp only [e, if_false] at h; exact ⟨fun h => e h.symm, h⟩
      refine ⟨pr', ?_, hp, fun v vs q => q.mono hp hh, (fun e' r' xs' h b hb => by cases h; simp [pr', hb]), fun b t h => by
        by_cases e' : (ρ k).hdr.ownBlock = some b
        · simp only [pr', e', if_true, Option.some.injEq] at h; subst h; exact .inr ⟨e, xs, rfl, e'⟩
        · simp only [pr', e', if_false] at h; exact .inl h⟩
      exact
      { sl := fun i v hv => (M.sl i v hv).mono hp hh
        hp := fun j q hq => by
          by_cases e : j = k
          · subst e; rw [St.obj_put, if_pos rfl] at hq; cases hq
            exact aEf h1 (h2.mono hp) (fun b hb => by simp [pr', hb])
          · rw [St.obj_put, if_neg (fun h => e h.symm)] at hq
            exact (M.hp j q hq).mono hp hh hq (fun _ _ => rfl)
        inj := fun i j b h1 h2 => M.inj i j b (hown i b h1).2 (hown j b h2).2
        prot := fun b t h => by
          by_cases e : (ρ k).hdr.ownBlock = some b
          · refine ⟨M.own_lt (howk.trans e), fun j hj => ?_⟩
            obtain ⟨hne, hj'⟩ := hown j b hj
            exact hne (M.inj j k b hj' (howk.trans e))
          · simp only [pr', e, if_false] at h
            exact ⟨(M.prot b t h).1, fun j hj => (M.prot b t h).2 j (hown j b hj).2⟩
        os := M.os, tape := M.tape, output := M.output, size := M.size, heap := M.heap
        prC := fun b t h => (hp b t (M.prC b t h)).1
        prN := fun b t h => by
          by_cases e : (ρ k).hdr.ownBlock = some b
          · rcases M.ownC k b (howk.trans e) with h4 | h4
            · exact .inr (.inl h4)
            · exact .inr (.inr h4)
          · simp only [pr', e, if_false] at h
            exact M.prN b t h
        ownC := fun j b h => M.ownC j b (hown j b h).2 }
theorem sI (σ : St) (k j : Nat) : (σ.freeze k).obj j = if k = j then (σ.obj j).map (fun o => match o with | .chunk _ r xs => .ro r xs | o => o) else σ.obj j := by
 unfold St.freeze
 cases hk : σ.obj k with
 | none => by_cases e : k = j <;> simp [e]; subst e; simp [hk]
 | some o =>
  cases o <;> simp only []
  ·by_cases e : k = j <;> simp [e]; subst e; simp [hk]
  ·by_cases e : k = j <;> simp [e]; subst e; simp [hk]
  ·rw [St.obj_put]; by_cases e : k = j <;> simp [e]; subst e; simp [hk]
  ·by_cases e : k = j <;> simp [e]; subst e; simp [hk]
theorem aWy (σ : St) (k j : Nat) : (σ.freeze k).free j = σ.free j := by
 unfold St.free
 rw [sI]
 by_cases e : k = j
 ·simp only [e, if_true]; cases σ.obj j <;> rfl
 simp [e]
theorem aC1 (j : Nat) : ∀ (l : List Nat) (σ : St), (σ.freezes l).free j = σ.free j
 | [], _ => rfl
 | k :: l, σ => (aC1 j l (σ.freeze k)).trans (aWy σ k j)
theorem aEx {k : Nat} : ∀ {l : List Nat}, jI k l = true ↔ k ∈ l
 | [] => by simp [jI]
 | j :: l => by simp only [jI, Bool.or_eq_true, List.mem_cons, aEx, aUl, decide_eq_true_eq]; exact ⟨fun h => h.imp Eq.symm id, fun h => h.imp Eq.symm id⟩
theorem eY {k : Nat} {l : List Nat} : jI k l = false ↔ k ∉ l := by
 rw [← aEx]; cases jI k l <;> simp
theorem qH (j : Nat) : ∀ (l : List Nat) (σ : St), j ∉ l → (σ.freezes l).obj j = σ.obj j
 | [], _, _ => rfl
 | k :: l, σ, h => by
  rw [show σ.freezes (k :: l) = (σ.freeze k).freezes l from rfl, qH j l _ (fun e => h (List.mem_cons_of_mem _ e)), sI, if_neg]
  exact fun e => h (by simp [e])
def Fz (σ : St) (ρ : Nat → Loc) (pr' : dU) (l : List Nat) : Prop := ∀ k ∈ l, ∀ e r xs, σ.obj k = some (.chunk e r xs) → ∀ b, (ρ k).hdr.ownBlock = some b → pr' b = some r
theorem aAh : ∀ {l : List Nat} {σ : St} {k e : Nat} {r : Ty} {xs : List r.T}, (σ.freezes l).obj k = some (.chunk e r xs) → k ∉ l ∧ σ.obj k = some (.chunk e r xs)
 | [], _, _, _, _, _, h => ⟨by simp, h⟩
 | j :: l, σ, k, e, r, xs, h => by
  obtain ⟨h1, h2⟩ := aAh (l := l) (σ := σ.freeze j) h
  rw [sI] at h2
  by_cases ej : j = k
  ·rw [if_pos ej] at h2
   cases ho : σ.obj k with
   | none => simp [ho] at h2
   | some o => cases o <;> simp [ho] at h2
  rw [if_neg ej] at h2
  exact ⟨by simp [h1]; exact fun h => ej h.symm, h2⟩
theorem Mo.freezes2 : ∀ (l : List Nat) {σ : St} {pr : dU} (_ : Mo C σ ρ pr f w), ∃ pr', Mo C (σ.freezes l) ρ pr' f w ∧ PrLe w pr w pr' ∧ (∀ v vs, Rp σ.obj ρ w pr v vs → Rp (σ.freezes l).obj ρ w pr' v vs) ∧ Fz σ ρ pr' l ∧
  ∀ b r, pr' b = some r → pr b = some r ∨ ∃ k ∈ l, ∃ e xs, σ.obj k = some (.chunk e r xs) ∧ (ρ k).hdr.ownBlock = some b
 | [], _, pr, M => ⟨pr, M, PrLe.refl _ _, fun _ _ q => q, (fun _ h => by cases h), fun _ _ h => .inl h⟩
 | k :: l, σ, _, M => by
  obtain ⟨p1, M1, h1, m1, z1, n1⟩ := M.freeze k
  obtain ⟨p2, M2, h2, m2, z2, n2⟩ := Mo.freezes2 l M1
  refine ⟨p2, M2, h1.trans h2, fun v vs q => m2 v vs (m1 v vs q), fun j hj e r xs ho b hb => ?_, fun b r h => ?_⟩
  ·by_cases e : j = k
   ·subst e; exact (h2 b r (z1 _ _ _ ho b hb)).1
   rcases List.mem_cons.1 hj with h | h
   ·exact absurd h e
   exact z2 j h _ r xs (by rw [sI, if_neg (fun h => e h.symm)]; exact ho) b hb
  rcases n2 b r h with h | ⟨j, hj, e, xs, ho, hb⟩
  ·rcases n1 b r h with h | ⟨e, xs, ho, hb⟩
   ·exact .inl h
   exact .inr ⟨k, by simp, e, xs, ho, hb⟩
  exact .inr ⟨j, List.mem_cons_of_mem _ hj, e, xs, (aAh (l := [k]) ho).2, hb⟩
theorem Mo.freezes (l : List Nat) {σ : St} {pr : dU} (M : Mo C σ ρ pr f w) : ∃ pr', Mo C (σ.freezes l) ρ pr' f w ∧ PrLe w pr w pr' ∧ (∀ v vs, Rp σ.obj ρ w pr v vs → Rp (σ.freezes l).obj ρ w pr' v vs) ∧ Fz σ ρ pr' l := by
 obtain ⟨p, h1, h2, h3, h4, _⟩ := M.freezes2 l
 exact ⟨p, h1, h2, h3, h4⟩
end
end Ab
end
