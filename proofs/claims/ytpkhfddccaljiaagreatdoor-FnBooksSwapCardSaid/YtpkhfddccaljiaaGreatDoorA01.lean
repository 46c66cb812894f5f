/-
A part of the proof: pure functions told of the program, and laws about them.
-/
import Derived.Test.YtpkhfddccaljiaaGreatDoorA00
import Derived.Laws.StructEq
set_option linter.all false
section
namespace Ab
open Go
def aKh : Value → Bool
 | .agg _ => true
 | _ => false
def aAk : Ty → List Value
 | .int k => [.int k 0]
 | .bool => [.bool false]
 | .str => [.string ⟨#[]⟩]
 | .sl _ => [.slice none 0 0]
 | .nil => []
 | .cons a b => aAk a ++ aAk b
 | .noi | .alt _ _ _ _ | .ern => [.nilIface]
theorem Rep.z (w : World) (pr : dU) : ∀ t : Ty, Rep w pr t t.z (aAk t)
 | .int _ => rfl
 | .bool => rfl
 | .str => rfl
 | .sl r => ⟨none, 0, rfl, Nat.le_refl _, by simp [maxLen], .inl rfl⟩
 | .nil => rfl
 | .cons a b => by
  refine ⟨_, _, rfl, ?_, ?_⟩
  ·rw [show Ty.fst a b (Ty.cons a b).z = a.z from Ty.fst_mk a b _ _]; exact Rep.z w pr a
  ·rw [show Ty.snd a b (Ty.cons a b).z = b.z from Ty.snd_mk a b _ _]; exact Rep.z w pr b
 | .noi => rfl
 | .alt _ _ _ s => ⟨fun e => (by have := Rep.z w pr s; cases s <;> first | exact this | cases e), .inl rfl⟩
 | .ern => .inl ⟨rfl, rfl⟩
def ctB : CT → Value → Bool
 | .d .dead, v => v.oneCell'
 | .d .nilp, .pointer none => true
 | .d (.val (.int k) n), .int k' n' => kEq k k' && decide (n = n')
 | .d (.val .bool b), .bool b' => b == b'
 | .d (.val .str s), .string s' => Nat.beq s.size 0 && Nat.beq s'.size 0
 | .d .nli, .nilIface => true
 | .s _ _, .slice none 0 0 => true
 | _, _ => false
theorem bDc {s : ByteArray} (h : Nat.beq s.size 0 = true) : s = ⟨#[]⟩ := by
 have h := Nat.eq_of_beq_eq_true h
 cases s with
 | mk d => exact congrArg ByteArray.mk (Array.eq_empty_of_size_eq_zero h)
def zB : Ty → List Value → Option (List Value)
 | .int k, v :: l => match v with
  | .int k' n => bif kEq k k' && decide (n = 0) then some l else none
  | _ => none
 | .bool, v :: l => match v with
  | .bool b => bif b then none else some l
  | _ => none
 | .str, v :: l => match v with
  | .string s => bif Nat.beq s.size 0 then some l else none
  | _ => none
 | .sl _, v :: l => match v with
  | .slice none 0 0 => some l
  | _ => none
 | .nil, l => some l
 | .cons a b, l => (zB a l).bind (zB b)
 | .noi, v :: l | .alt _ _ _ _, v :: l | .ern, v :: l => match v with
  | .nilIface => some l
  | _ => none
 | _, [] => none
theorem aQz : ∀ {t : Ty} {l m : List Value}, zB t l = some m → l = aAk t ++ m
 | .int k, v :: l, m, h => by
  unfold zB at h
  split at h
  ·cases hc : (kEq k ‹IntKind› && decide (‹Int› = 0)) with
   | false => rw [hc] at h; cases h
   | true =>
    rw [hc] at h; cases h
    simp only [Bool.and_eq_true, decide_eq_true_eq] at hc
    rw [aEz hc.1, hc.2]; rfl
  ·cases h
 | .bool, v :: l, m, h => by
  unfold zB at h
  split at h
  ·rename_i b; cases b <;> cases h; rfl
  ·cases h
 | .str, v :: l, m, h => by
  unfold zB at h
  split at h
  ·rename_i s
   cases hc : Nat.beq s.size 0 with
   | false => rw [hc] at h; cases h
   | true => rw [hc] at h; cases h; rw [bDc hc]; rfl
  ·cases h
 | .sl r, v :: l, m, h => by
  unfold zB at h
  split at h
  ·cases h; rfl
  ·cases h
 | .nil, l, m, h => by cases h; rfl
 | .cons a b, l, m, h => by
  simp only [zB, Option.bind_eq_some_iff] at h
  obtain ⟨l', h1, h2⟩ := h
  rw [aQz h1, aQz h2]; simp [aAk]
 | .noi, v :: l, m, h | .alt _ _ _ _, v :: l, m, h | .ern, v :: l, m, h => by
  unfold zB at h
  split at h
  ·cases h; rfl
  ·cases h
 | .noi, [], _, h | .alt _ _ _ _, [], _, h | .ern, [], _, h => by cases h
 | .int _, [], _, h => by cases h
 | .bool, [], _, h => by cases h
 | .str, [], _, h => by cases h
 | .sl _, [], _, h => by cases h
def zBn : Nat → Ty → List Value → Option (List Value)
 | 0, _, l => some l
 | n + 1, r, l => match zB r l with
  | some m => zBn n r m
  | none => none
def aC5 : Nat → Ty → List Value
 | 0, _ => []
 | n + 1, r => aAk r ++ aC5 n r
theorem aSi : ∀ {n : Nat} {r : Ty} {l m : List Value}, zBn n r l = some m → l = aC5 n r ++ m
 | 0, _, _, _, h => by cases h; rfl
 | n + 1, r, l, m, h => by
  unfold zBn at h
  split at h
  ·rename_i l' hl
   rw [aQz hl, aSi h]; simp [aC5]
  cases h
def aKp : List CT → List Value → Bool
 | [], [] => true
 | .a r n :: l, m => match zBn n r m with
  | some m' => aKp l m'
  | none => false
 | c :: l, v :: m => ctB c v && aKp l m
 | _, _ => false
def descB (P : Program) (d : TypeDesc) (ti : TI) : Bool := match ti.k, d with
 | .int k, .int k' => kEq k k'
 | .bool, .bool => true
 | .str, .string => true
 | .slice, .slice e => Nat.beq e ti.el && Nat.blt 0 ti.er.n && (match P.info? e with
  | some i => Nat.beq i.size ti.er.n && Nat.beq i.bytes ti.eb && (match i.zero with
   | some z => (match zB ti.er z.cells.toList with | some [] => true | _ => false)
   | none => false)
  | none => false)
 | .arr n, .array n' e => Nat.beq n n' && Nat.beq e ti.el && (match P.info? e with
  | some i => Nat.beq i.size ti.er.n
  | none => false)
 | .iface, .interface _ => true
 | .map, .map key elem => (match P.underlying key, ti.er with
  | some (.int q), .int q' => kEq q q'
  | _, _ => false) && (match P.info? elem with
  | some i => (match i.zero with
   | some z => (match zB ti.ev z.cells.toList with | some [] => bEq ti.ev.one (!aKh z) | _ => false)
   | none => false)
  | none => false)
 | .struct, .struct fs => Nat.beq fs.size ti.fs.length && fieldsB fs.toList ti.fs && agsB fs.toList ti.fg
 | .ptr, .pointer e => Nat.beq e ti.el
 | _, _ => false
where
 fieldsB : List Field → List (Nat × Nat) → Bool
  | [], [] => true
  | f :: l, p :: m => Nat.beq f.offset p.1 && (match P.info? f.type with | some i => Nat.beq i.size p.2 && (match P.underlying f.type with | some _ => true | none => false) | none => false) && fieldsB l m
  | _, _ => false
 agsB : List Field → List Bool → Bool
  | [], [] => true
  | f :: l, b :: m => (match P.underlying f.type with | some (.struct _) | some (.array _ _) => b | _ => !b) && agsB l m
  | _, _ => false
def aUd : TypeDesc → Bool
 | .struct _ | .array _ _ => true
 | _ => false
theorem aSf {P : Program} : ∀ {l : List Field} {m : List Bool}, descB.agsB P l m = true → ∀ {j : Nat} {f : Field} {d : TypeDesc}, l[j]? = some f → P.underlying f.type = some d → aUd d = aZn m j
 | f :: l, b :: m, h, j, g, d, hj, hd => by
  simp only [descB.agsB, Bool.and_eq_true] at h
  cases j with
  | zero =>
   simp at hj; subst hj
   have h1 := h.1
   rw [hd] at h1
   cases d <;> simp_all [aUd, aZn]
  | succ j => exact aSf h.2 (by simpa using hj) hd
 | [], _, _, j, _, _, hj, _ => by simp at hj
 | _ :: _, [], h, _, _, _, _, _ => by cases h
def bE7 (P : Program) : Nat → List TK → List Field → Bool
 | _, [], [] => true
 | k, q :: m, f :: l => Nat.beq f.offset k && f.name != "_" && (match q, P.underlying f.type with | .bool, some .bool => true | .int k, some (.int k') => kEq k k' | .str, some .string => true | _, _ => false) && bE7 P (k + 1) m l
 | _, _, _ => false
def eqB (P : Program) (t : Nat) (ti : TI) : Bool := match P.underlying t with
 | some (.struct fs) => !P.stoodInHeld t && !P.eqGuardType P.depth t && bE7 P 0 ti.eq fs.toList
 | _ => false
def tiB (P : Program) (t : Nat) (ti : TI) : Bool :=
 match P.info? t, P.underlying t with
 | some i, some d => Nat.beq i.size ti.n && descB P d ti && (!aS9 ti.eq || eqB P t ti) && (match i.zero with
  | some z => aKp ti.z z.cells.toList && (ti.rw.isNil || (match zB ti.rw z.cells.toList with | some [] => bEq ti.ag (aKh z) | _ => false))
  | none => false)
 | _, _ => false
def TTok (P : Program) (tt : Nat → Option TI) : Prop := ∀ t ti, tt t = some ti → tiB P t ti = true
theorem aMt {P : Program} {l : List (Nat × TI)} (h : l.all (fun p => tiB P p.1 p.2) = true) : TTok P (lk l) := by
 intro t ti ht
 induction l with
 | nil => cases ht
 | cons p l ih =>
  simp only [List.all_cons, Bool.and_eq_true] at h
  rw [show lk (p :: l) t = if p.1 = t then some p.2 else lk l t from fG p.1 p.2 l t] at ht
  split at ht
  ·rename_i e; cases ht; rw [← e]; exact h.1
  ·exact ih h.2 ht
structure aDh (P : Program) (t : Nat) (ti : TI) where
 i : TypeInfo
 d : TypeDesc
 z : Value
 hi : P.info? t = some i
 hu : P.underlying t = some d
 hn : i.size = ti.n
 hz : i.zero = some z
 hc : aKp ti.z z.cells.toList = true
 hd : descB P d ti = true
 hw : ti.rw.isNil = false → z.cells.toList = aAk ti.rw ∧ ti.ag = (aKh z)
 he : aS9 ti.eq = true → eqB P t ti = true
theorem TTok.info {P : Program} {tt : Nat → Option TI} (h : TTok P tt) {t : Nat} {ti : TI} (ht : tt t = some ti) : Nonempty (aDh P t ti) := by
 have := h t ti ht
 unfold tiB at this
 split at this
 ·rename_i i d h1 h2
  simp only [Bool.and_eq_true] at this
  obtain ⟨⟨⟨h3, h4⟩, h6⟩, h5⟩ := this
  split at h5
  ·rename_i z hz
   simp only [Bool.and_eq_true] at h5
   refine ⟨⟨i, d, z, h1, h2, Nat.eq_of_beq_eq_true h3, hz, h5.1, h4, fun hr => ?_, fun he => by rw [he] at h6; simpa using h6⟩⟩
   have h7 := h5.2
   rw [hr, Bool.false_or] at h7
   cases hz0 : zB ti.rw z.cells.toList with
   | none => rw [hz0] at h7; cases h7
   | some l =>
    rw [hz0] at h7
    cases l with
    | nil => exact ⟨by rw [aQz hz0]; simp, aUm h7⟩
    | cons _ _ => cases h7
  cases h5
 cases this
theorem aW5 {P : Program} {d : TypeDesc} {ti : TI} {k : IntKind} (h : descB P d ti = true) (hk : ti.k = .int k) : d = .int k := by
 unfold descB at h; rw [hk] at h
 cases d <;> first | (cases h; done) | (rw [aEz h])
theorem bB5 {P : Program} {d : TypeDesc} {ti : TI} (h : descB P d ti = true) (hk : ti.k = .bool) : d = .bool := by
 unfold descB at h; rw [hk] at h
 cases d <;> first | (cases h; done) | rfl
theorem aE4 {P : Program} {d : TypeDesc} {ti : TI} (h : descB P d ti = true) (hk : ti.k = .str) : d = .string := by
 unfold descB at h; rw [hk] at h
 cases d <;> first | (cases h; done) | rfl
theorem kQ {P : Program} {d : TypeDesc} {ti : TI} (h : descB P d ti = true) (hk : ti.k = .slice) :
  d = .slice ti.el ∧ 0 < ti.er.n ∧ ∃ i z, P.info? ti.el = some i ∧ i.size = ti.er.n ∧ i.bytes = ti.eb ∧ i.zero = some z ∧ z.cells.toList = aAk ti.er := by
 unfold descB at h; rw [hk] at h
 cases d <;> first | (cases h; done) | skip
 rename_i e
 simp only [Bool.and_eq_true] at h
 obtain ⟨⟨h1, h2⟩, h3⟩ := h
 have h1 := Nat.eq_of_beq_eq_true h1
 subst h1
 refine ⟨rfl, by simpa [Nat.blt_eq] using h2, ?_⟩
 split at h3
 ·rename_i i hi
  simp only [Bool.and_eq_true] at h3
  obtain ⟨⟨h4, h5⟩, h6⟩ := h3
  split at h6
  ·rename_i z hz
   split at h6
   ·rename_i hz0
    exact ⟨i, z, hi, Nat.eq_of_beq_eq_true h4, Nat.eq_of_beq_eq_true h5, hz, by rw [aQz hz0]; simp⟩
   cases h6
  cases h6
 cases h3
theorem wD {P : Program} : ∀ {l : List Field} {m : List (Nat × Nat)}, descB.fieldsB P l m = true → ∀ {j : Nat} {p : Nat × Nat}, aMf m j = some p →
  ∃ f i d, l[j]? = some f ∧ f.offset = p.1 ∧ P.info? f.type = some i ∧ i.size = p.2 ∧ P.underlying f.type = some d
 | [], [], _, j, p, hp => by cases j <;> cases hp
 | f :: l, q :: m, h, j, p, hp => by
  simp only [descB.fieldsB, Bool.and_eq_true] at h
  obtain ⟨⟨h1, h2⟩, h3⟩ := h
  cases j with
  | zero =>
   cases hp
   split at h2
   ·rename_i i hi
    simp only [Bool.and_eq_true] at h2
    obtain ⟨h4, h5⟩ := h2
    split at h5
    ·rename_i d hd
     exact ⟨f, i, d, rfl, Nat.eq_of_beq_eq_true h1, hi, Nat.eq_of_beq_eq_true h4, hd⟩
    ·cases h5
   ·cases h2
  | succ j =>
   obtain ⟨f', i, d, h5, h6⟩ := wD h3 (j := j) (p := p) hp
   exact ⟨f', i, d, by simpa using h5, h6⟩
 | [], _ :: _, h, _, _, _ => by cases h
 | _ :: _, [], h, _, _, _ => by cases h
theorem zU {P : Program} {d : TypeDesc} {ti : TI} (h : descB P d ti = true) (hk : ti.k = .struct) :
  ∃ fs, d = .struct fs ∧ fs.size = ti.fs.length ∧ descB.fieldsB P fs.toList ti.fs = true ∧ descB.agsB P fs.toList ti.fg = true := by
 unfold descB at h; rw [hk] at h
 cases d <;> first | (cases h; done) | skip
 rename_i fs
 simp only [Bool.and_eq_true] at h
 exact ⟨fs, rfl, Nat.eq_of_beq_eq_true h.1.1, h.1.2, h.2⟩
theorem aJg {P : Program} {d : TypeDesc} {ti : TI} {n : Nat} (h : descB P d ti = true) (hk : ti.k = .arr n) : d = .array n ti.el ∧ ∃ i, P.info? ti.el = some i ∧ i.size = ti.er.n := by
 unfold descB at h; rw [hk] at h
 cases d <;> first | (cases h; done) | skip
 rename_i n' e
 simp only [Bool.and_eq_true] at h
 obtain ⟨⟨h1, h2⟩, h3⟩ := h
 have h1 := Nat.eq_of_beq_eq_true h1
 have h2 := Nat.eq_of_beq_eq_true h2
 subst h1; subst h2
 refine ⟨rfl, ?_⟩
 split at h3
 ·rename_i i hi; exact ⟨i, hi, Nat.eq_of_beq_eq_true h3⟩
 cases h3
theorem aZw {P : Program} {d : TypeDesc} {ti : TI} (h : descB P d ti = true) (hk : ti.k = .iface) : ∃ ms, d = .interface ms := by
 unfold descB at h; rw [hk] at h
 cases d <;> first | (cases h; done) | exact ⟨_, rfl⟩
theorem aR4 {P : Program} {d : TypeDesc} {ti : TI} (h : descB P d ti = true) (hk : ti.isInt = false) : ∀ ms, d ≠ .interface ms := by
 intro ms e
 subst e
 unfold TI.isInt at hk
 unfold descB at h
 revert h hk
 cases ti.k <;> simp
theorem aW4 {P : Program} {d : TypeDesc} {ti : TI} (h : descB P d ti = true) (hk : ti.k = .map) :
  ∃ key elem q i z, d = .map key elem ∧ P.underlying key = some (.int q) ∧ ti.er = .int q ∧ P.info? elem = some i ∧ i.zero = some z ∧ z.cells.toList = aAk ti.ev ∧ ti.ev.one = (!aKh z) := by
 unfold descB at h; rw [hk] at h
 cases d <;> first | (cases h; done) | skip
 rename_i key elem
 simp only [Bool.and_eq_true] at h
 obtain ⟨h1, h2⟩ := h
 cases hu : P.underlying key with
 | none => rw [hu] at h1; cases h1
 | some du =>
  rw [hu] at h1
  cases du <;> first | (cases h1; done) | skip
  rename_i q
  cases he : ti.er with
  | int q' =>
   rw [he] at h1
   have hq := aEz (show kEq q q' = true from h1)
   subst hq
   cases hi : P.info? elem with
   | none => rw [hi] at h2; cases h2
   | some i =>
    rw [hi] at h2
    simp only at h2
    cases hz : i.zero with
    | none => rw [hz] at h2; cases h2
    | some z =>
     rw [hz] at h2
     simp only at h2
     cases hb : zB ti.ev z.cells.toList with
     | none => rw [hb] at h2; cases h2
     | some l =>
      rw [hb] at h2
      cases l with
      | nil => exact ⟨key, elem, q, i, z, rfl, hu, rfl, hi, hz, by rw [aQz hb]; simp, aUm h2⟩
      | cons _ _ => cases h2
  | _ => rw [he] at h1; cases h1
theorem bG1 {P : Program} {d : TypeDesc} {ti : TI} (h : descB P d ti = true) : aUd d = ti.ag := by
 unfold descB at h
 unfold TI.ag
 split at h <;> simp_all [aUd]
end Ab
end
section
namespace Ab
open Go
def fd (d : Option Nat) (v : Value) (f : Nat → Value) : Nat → Value := match d with
 | some j => fun i => if i = j then v else f i
 | none => f
def fa (g : Nat → Value) (a : Act) : Nat → Value := fun i => if i < 900000 then a.tmps.getD i undef else g i
def Same (σ : St) (ρ : Nat → Loc) (w w' : World) (W : List Nat) : Prop := ∀ b, b < w.heap.size → (∀ k ∈ W, own σ.obj ρ k ≠ some b) → w'.heap[b]? = w.heap[b]?
theorem Same.refl (σ : St) (ρ : Nat → Loc) (w : World) (W : List Nat) : Same σ ρ w w W := fun _ _ _ => rfl
def Done (P : Program) (C : Cx) (g : Nat → Value) (o : Oper) (a : Act) (σ : St) (ρ : Nat → Loc) (w : World) (W : List Nat) (σ' : St) : Prop :=
 ∃ r v w' ρ' pr', (execOp a.eval o).run P w = .ok r w' ∧ (r = .value v ∨ (r = .skip ∧ v = undef)) ∧ Mo C σ' ρ' pr' (fd o.dst v (fa g a)) w' ∧ Same σ ρ w w' W
def DoneR (P : Program) (C : Cx) (g : Nat → Value) (o : Oper) (a : Act) (w : World) (σ' : St) : Prop :=
 ∃ v ρ' pr', (∀ u, (execOp a.eval o).run P u = .ok (.value v) u) ∧ Mo C σ' ρ' pr' (fd o.dst v (fa g a)) w
section
variable {P : Program} {E : Env} {C : Cx} {σ : St} {ρ : Nat → Loc} {pr : dU} {f : Nat → Value} {w : World} {a : Act} {o : Oper} {g : Nat → Value}
theorem Mo.setd (M : Mo C σ ρ pr f w) (d : Option Nat) (sv : SV) (v : Value) (q : Rp σ.obj ρ w pr sv [v]) : Mo C (σ.setd d sv) ρ pr (fd d v f) w := by
 cases d with
 | none => exact M
 | some d => exact M.set d sv v q
theorem Done.value {v : Value} {w' : World} {σ' : St} {ρ' : Nat → Loc} {pr' : dU} {sv : SV} (hr : (execOp a.eval o).run P w = .ok (.value v) w') (M : Mo C σ' ρ' pr' (fa g a) w')
  (q : Rp σ'.obj ρ' w' pr' sv [v]) {W : List Nat} (hs : Same σ ρ w w' W) : Done P C g o a σ ρ w W (σ'.setd o.dst sv) :=
 ⟨_, v, w', ρ', pr', hr, .inl rfl, M.setd o.dst sv v q, hs⟩
theorem DoneR.value {v : Value} {σ' : St} {ρ' : Nat → Loc} {pr' : dU} {sv : SV} (hr : ∀ u, (execOp a.eval o).run P u = .ok (.value v) u) (M : Mo C σ' ρ' pr' (fa g a) w)
  (q : Rp σ'.obj ρ' w pr' sv [v]) : DoneR P C g o a w (σ'.setd o.dst sv) :=
 ⟨v, ρ', pr', hr, M.setd o.dst sv v q⟩
theorem DoneR.done {σ' : St} (h : DoneR P C g o a w σ') (W : List Nat) : Done P C g o a σ ρ w W σ' := by
 obtain ⟨v, ρ', pr', hr, M⟩ := h
 exact ⟨_, v, w, ρ', pr', hr w, .inl rfl, M, Same.refl _ _ _ _⟩
theorem aZm (h : Hp) (v : Value) : Rp h ρ w pr (aMl v) [v] := by
 unfold aMl
 split
 ·exact ⟨rfl, rfl⟩
 ·exact ⟨rfl, rfl⟩
 ·exact ⟨rfl, rfl⟩
 ·rfl
 ·rfl
 ·rfl
 exact ⟨_, rfl⟩
theorem dZ (M : Mo C σ ρ pr (fa g a) w) (x : Operand) : Rp σ.obj ρ w pr (σ.ev x) [a.eval x] := by
 cases x with
 | tmp t =>
  show Rp σ.obj ρ w pr (bif Nat.blt t 900000 then σ.slot t else .dead) [a.tmps.getD t undef]
  cases hb : Nat.blt t 900000 with
  | false => exact ⟨_, rfl⟩
  | true =>
   have ht : t < 900000 := Nat.le_of_ble_eq_true hb
   simp only [cond_true]
   unfold St.slot
   cases h : lk σ.sl t with
   | none => exact ⟨_, rfl⟩
   | some v => have := M.sl t v h; simpa only [fa, ht, if_true] using this
 | const v => exact aZm _ v
 | global g => exact ⟨_, rfl⟩
 | func g => exact ⟨[], rfl, rfl⟩
theorem Mo.addNil (M : Mo C σ ρ pr f w) {k e : Nat} {r : Ty} (hk : σ.free k = true) (hr : 0 < r.n) :
  ∃ ρ', Mo C (σ.put k (.chunk e r [])) ρ' pr f w ∧ Rp (σ.put k (.chunk e r [])).obj ρ' w pr (.hd k) [.slice none 0 0] ∧ (∀ u vs, Rp σ.obj ρ w pr u vs → Rp (σ.put k (.chunk e r [])).obj ρ' w pr u vs) ∧
   ∀ j b, own (σ.put k (.chunk e r [])).obj ρ' j = some b → own σ.obj ρ j = some b := by
 have hobj : (σ.put k (.chunk e r [])).obj k = some (.chunk e r []) := by rw [St.obj_put, if_pos rfl]
 have := M.add (ρ' := fun j => if j = k then ⟨.slice none 0 0, 0⟩ else ρ j) (k := k) (o := .chunk e r []) (w' := w) (free_spec hk) (fun j e => by simp [e]) (RowKit.Below.refl _ _)
  (fun _ => ⟨hr, by simp [Value.ownBlock], [], by simpa using World.ownsRow_nil w 0 e r.n, fun i x hx => by simp at hx, by simp⟩)
  (fun b hb => by simp [own, hobj, Value.ownBlock] at hb)
 refine ⟨_, this.1, ⟨⟨_, hobj, rfl⟩, by simp⟩, this.2, fun j b h => ?_⟩
 by_cases e : j = k
 ·subst e; simp [own, hobj, Value.ownBlock] at h
 unfold own at h ⊢
 rw [St.obj_put, if_neg (fun h => e h.symm)] at h
 simpa [e] using h
theorem Mo.addVar (M : Mo C σ ρ pr f w) {k : Nat} {cs : SV} {arr : Array Value} {E : Nat} (hk : σ.free k = true) (h1 : ∀ v ∈ arr.toList, v.oneCell' = true) (q : Rp σ.obj ρ w pr cs arr.toList) :
  ∃ ρ', Mo C (σ.put k (.var cs)) ρ' pr f (w.alloc (.cells arr E)) ∧ Rp (σ.put k (.var cs)).obj ρ' (w.alloc (.cells arr E)) pr (.ptr k 0) [.pointer (some ⟨w.heap.size, 0, none⟩)] ∧
   ∀ u vs, Rp σ.obj ρ w pr u vs → Rp (σ.put k (.var cs)).obj ρ' (w.alloc (.cells arr E)) pr u vs := by
 have hobj : (σ.put k (.var cs)).obj k = some (.var cs) := by rw [St.obj_put, if_pos rfl]
 have := M.add (ρ' := fun j => if j = k then ⟨.nilFunc, w.heap.size⟩ else ρ j) (k := k) (o := .var cs) (w' := w.alloc (.cells arr E)) (free_spec hk) (fun j e => by simp [e]) ((RowKit.Below.refl _ _).alloc (Nat.le_refl _) _)
  (fun hm => ⟨arr, E, by simpa using heap_alloc_new w _, h1, hm _ _ q⟩)
  (fun b hb => by simp [own, hobj] at hb; omega)
 exact ⟨_, this.1, ⟨⟨_, hobj⟩, by simp⟩, this.2⟩
theorem Mo.addChunk (M : Mo C σ ρ pr f w) {k e : Nat} {r : Ty} {xs : List r.T} {arr : Array Value} (hk : σ.free k = true) (hr : 0 < r.n) (hl : arr.size = xs.length * r.n) (hm : xs.length ≤ maxLen)
  (hx : Ab.Rows w pr r xs arr.toList) (h1 : ∀ v ∈ arr.toList, v.oneCell' = true) :
  ∃ ρ', Mo C (σ.put k (.chunk e r xs)) ρ' pr f (w.alloc (.cells arr e)) ∧
   Rp (σ.put k (.chunk e r xs)).obj ρ' (w.alloc (.cells arr e)) pr (.hd k) [.slice (some ⟨w.heap.size, 0, none⟩) xs.length xs.length] ∧
   ∀ u vs, Rp σ.obj ρ w pr u vs → Rp (σ.put k (.chunk e r xs)).obj ρ' (w.alloc (.cells arr e)) pr u vs := by
 have hobj : (σ.put k (.chunk e r xs)).obj k = some (.chunk e r xs) := by rw [St.obj_put, if_pos rfl]
 have hb := (RowKit.Below.refl w.heap.size w).alloc (Nat.le_refl _) (.cells arr e)
 have hp : PrLe w pr (w.alloc (.cells arr e)) pr := fun b r h => ⟨h, hb.block b (M.prot b r h).1⟩
 have := M.add (ρ' := fun j => if j = k then ⟨.slice (some ⟨w.heap.size, 0, none⟩) xs.length xs.length, w.heap.size⟩ else ρ j) (k := k) (o := .chunk e r xs) (w' := w.alloc (.cells arr e)) (free_spec hk) (fun j e => by simp [e]) hb
  (fun _ => ⟨hr, by simp [Value.ownBlock], arr.toList, by simpa using World.ownsRow_lit (e := e) w arr xs.length (base := 0) (Nat.zero_le _) hm hl, hx.mono hp, h1⟩)
  (fun b hb => by simp [own, hobj, Value.ownBlock] at hb; omega)
 exact ⟨_, this.1, ⟨⟨_, hobj, rfl⟩, by simp⟩, this.2⟩
theorem Mo.ownS {t k : Nat} {v v' : SV} {σ' : St} {x : Value} (M : Mo C σ ρ pr f w) (h : σ.own E t k v = some (σ', v')) (q : Rp σ.obj ρ w pr v [x]) :
  ∃ ρ', Mo C σ' ρ' pr f w ∧ Rp σ'.obj ρ' w pr v' [x] ∧ (∀ u vs, Rp σ.obj ρ w pr u vs → Rp σ'.obj ρ' w pr u vs) ∧ ∀ j b, own σ'.obj ρ' j = some b → own σ.obj ρ j = some b := by
 cases v with
 | nsl =>
  unfold St.own at h
  simp only at h
  split at h
  ·rename_i ti ht
   split at h
   ·cases hc : (σ.free k && Nat.blt 0 ti.er.n) with
    | false => rw [hc] at h; cases h
    | true =>
     rw [hc] at h; cases h
     simp only [Bool.and_eq_true] at hc
     obtain ⟨ρ', h1, h2, h3⟩ := M.addNil (e := ti.el) hc.1 (by simpa [Nat.blt_eq] using hc.2 : 0 < ti.er.n)
     refine ⟨ρ', h1, ?_, h3⟩
     have hx : [x] = [.slice none 0 0] := q
     rw [hx]; exact h2
   ·cases h
  ·cases h
 | _ => cases h; exact ⟨ρ, M, q, fun _ _ q => q, fun _ _ h => h⟩
theorem Mo.mkC : ∀ (cts : List CT) {s s' : SV} {k : Nat} {σ σ' : St} {ρ : Nat → Loc} {vs : List Value} (_ : Mo C σ ρ pr f w) (_ : pI k cts s σ = some (σ', s')) (_ : Rp σ.obj ρ w pr s vs),
  ∃ ρ', Mo C σ' ρ' pr f w ∧ Rp σ'.obj ρ' w pr s' vs ∧ ∀ u vs, Rp σ.obj ρ w pr u vs → Rp σ'.obj ρ' w pr u vs
 | [], s, s', k, σ, σ', ρ, vs, M, h, q => by
  cases s <;> (cases h; exact ⟨ρ, M, q, fun _ _ q => q⟩)
 | c :: cs, s, s', k, σ, σ', ρ, vs, M, h, q => by
  cases s with
  | cons v s =>
   obtain ⟨x, d, rfl, q1, q2⟩ := q
   unfold pI at h
   split at h
   ·rename_i e r
    cases hc : (σ.free k && Nat.blt 0 r.n) with
    | false => rw [hc] at h; cases h
    | true =>
     rw [hc] at h
     simp only [Bool.and_eq_true] at hc
     simp only [cond_true, Option.bind_eq_some_iff] at h
     obtain ⟨p, h1, h2⟩ := h
     cases h2
     obtain ⟨ρ1, M1, r1, m1, _⟩ := M.addNil (e := e) hc.1 (by simpa [Nat.blt_eq] using hc.2 : 0 < r.n)
     obtain ⟨ρ2, M2, r2, m2⟩ := Mo.mkC cs M1 h1 (m1 _ _ q2)
     refine ⟨ρ2, M2, ⟨x, d, rfl, ?_, r2⟩, fun u vs q => m2 u vs (m1 u vs q)⟩
     have hx : [x] = [.slice none 0 0] := q1
     rw [hx]; exact m2 _ _ r1
   ·simp only [Option.bind_eq_some_iff] at h
    obtain ⟨p, h1, h2⟩ := h
    cases h2
    obtain ⟨ρ2, M2, r2, m2⟩ := Mo.mkC cs M h1 q2
    exact ⟨ρ2, M2, ⟨x, d, rfl, m2 _ _ q1, r2⟩, m2⟩
  | seg r n xs s =>
   obtain ⟨x, d, rfl, g1, g2, g3, q2⟩ := q
   simp only [pI, Option.bind_eq_some_iff] at h
   obtain ⟨p, h1, h2⟩ := h
   cases h2
   obtain ⟨ρ2, M2, r2, m2⟩ := Mo.mkC cs M h1 q2
   exact ⟨ρ2, M2, ⟨x, d, rfl, g1, g2, g3, r2⟩, m2⟩
  | _ => cases h; exact ⟨ρ, M, q, fun _ _ q => q⟩
theorem bAm {c : CT} {v : Value} (h : ctB c v = true) : v.oneCell' = true := by
 unfold ctB at h
 split at h <;> first | exact h | rfl | cases h
theorem aMu : ∀ (r : Ty), ∀ v ∈ aAk r, v.oneCell' = true
 | .int _, v, hv | .bool, v, hv | .str, v, hv | .sl _, v, hv | .noi, v, hv | .alt _ _ _ _, v, hv | .ern, v, hv => by simp [aAk] at hv; subst hv; rfl
 | .nil, v, hv => by cases hv
 | .cons a b, v, hv => by
  rcases List.mem_append.1 hv with hv | hv
  ·exact aMu a v hv
  exact aMu b v hv
theorem aJo (r : Ty) : ∀ (n : Nat), ∀ v ∈ aC5 n r, v.oneCell' = true
 | 0, v, hv => by cases hv
 | n + 1, v, hv => by
  rcases List.mem_append.1 hv with hv | hv
  ·exact aMu r v hv
  exact aJo r n v hv
theorem aHr (w : World) (pr : dU) (r : Ty) : (aAk r).length = r.n := (Rep.z w pr r).len
theorem aGw (w : World) (pr : dU) (r : Ty) : ∀ n : Nat, (aC5 n r).length = n * r.n ∧ Ab.Rows w pr r (List.replicate n r.z) (aC5 n r)
 | 0 => ⟨by simp [aC5], fun i x hx => by simp at hx⟩
 | n + 1 => by
  obtain ⟨h1, h2⟩ := aGw w pr r n
  refine ⟨by simp [aC5, h1, aHr w pr r, Nat.succ_mul]; omega, fun i x hx => ?_⟩
  cases i with
  | zero =>
   simp at hx; subst hx
   simp only [aC5, Nat.zero_mul, List.drop_zero]
   rw [List.take_append_of_le_length (by rw [aHr w pr r]; exact Nat.le_refl _), List.take_of_length_le (by rw [aHr w pr r]; exact Nat.le_refl _)]
   exact Rep.z w pr r
  | succ i =>
   simp only [aC5]
   have hl := aHr w pr r
   have hz : ((aAk r ++ aC5 n r).drop ((i + 1) * r.n)) = (aC5 n r).drop (i * r.n) := by
    rw [List.drop_append, List.drop_of_length_le (by rw [hl, Nat.succ_mul]; omega), List.nil_append, hl, Nat.succ_mul]
    congr 1; omega
   rw [hz]
   exact h2 i x (by rw [List.replicate_succ] at hx; simpa using hx)
theorem aE6 : ∀ {l : List CT} {m : List Value}, aKp l m = true → ∀ v ∈ m, v.oneCell' = true
 | [], [], _, v, hv => by cases hv
 | .a r n :: l, m, h, v, hv => by
  simp only [aKp] at h
  split at h
  ·rename_i m' hm
   rw [aSi hm] at hv
   rcases List.mem_append.1 hv with hv | hv
   ·exact aJo r n v hv
   ·exact aE6 h v hv
  ·cases h
 | .d c :: l, x :: m, h, v, hv => by
  simp only [aKp, Bool.and_eq_true] at h
  rcases List.mem_cons.1 hv with rfl | hv
  ·exact bAm h.1
  ·exact aE6 h.2 v hv
 | .s e r :: l, x :: m, h, v, hv => by
  simp only [aKp, Bool.and_eq_true] at h
  rcases List.mem_cons.1 hv with rfl | hv
  ·exact bAm h.1
  ·exact aE6 h.2 v hv
 | [], _ :: _, h, _, _ => by cases h
 | .d _ :: _, [], h, _, _ => by cases h
 | .s _ _ :: _, [], h, _, _ => by cases h
theorem aAl (h : Hp) : ∀ {l : List CT} {m : List Value}, aKp l m = true → Rp h ρ w pr (aDm l) m
 | [], [], _ => rfl
 | .a r n :: l, m, hh => by
  simp only [aKp] at hh
  split at hh
  ·rename_i m' hm
   obtain ⟨h1, h2⟩ := aGw w pr r n
   exact ⟨_, m', aSi hm, by simp, h1, h2, aAl h hh⟩
  ·cases hh
 | .s e r :: l, x :: m, hh => by
  simp only [aKp, Bool.and_eq_true] at hh
  refine ⟨x, m, rfl, ?_, aAl h hh.2⟩
  have := hh.1
  unfold ctB at this
  split at this <;> simp_all [Rp]
 | .d v :: l, x :: m, hh => by
  simp only [aKp, Bool.and_eq_true] at hh
  refine ⟨x, m, rfl, ?_, aAl h hh.2⟩
  have := hh.1
  unfold ctB at this
  split at this
  ·rename_i e; cases e; exact ⟨_, rfl⟩
  ·rename_i e; cases e; rfl
  ·rename_i e; cases e
   simp only [Bool.and_eq_true, decide_eq_true_eq] at this
   rw [aEz this.1, this.2]; exact ⟨rfl, rfl⟩
  ·rename_i e; cases e
   simp only [beq_iff_eq] at this
   rw [this]; exact ⟨rfl, rfl⟩
  ·rename_i e; cases e
   simp only [Bool.and_eq_true] at this
   rw [bDc this.1, bDc this.2]; exact ⟨rfl, rfl⟩
  ·rename_i e; cases e; rfl
  ·rename_i e; cases e
  ·cases this
 | [], _ :: _, h => by cases h
 | .d _ :: _, [], h => by cases h
 | .s _ _ :: _, [], h => by cases h
theorem Rp.drop {h : Hp} (n : Nat) {s : SV} {vs : List Value} (q : Rp h ρ w pr s vs) (hn : n ≤ s.len) : Rp h ρ w pr (s.drop n) (vs.drop n) := by
 induction s generalizing n vs with
 | cons a b _ ihb =>
  cases n with
  | zero => simpa [SV.drop] using q
  | succ n =>
   obtain ⟨v, d, rfl, _, q2⟩ := q
   simp only [SV.drop, List.drop_succ_cons]
   exact ihb n q2 (by simpa [SV.len] using hn)
 | seg r m xs b ih =>
  cases n with
  | zero => simpa [SV.drop] using q
  | succ n =>
   obtain ⟨c, d, rfl, h1, h2, h3, q2⟩ := q
   simp only [SV.drop]
   cases hb : Nat.ble (m * r.n) (n + 1) with
   | false => exact trivial
   | true =>
    have hb := Nat.le_of_ble_eq_true hb
    simp only [SV.len] at hn
    rw [List.drop_append, List.drop_of_length_le (by omega), List.nil_append, h2]
    exact ih _ q2 (by omega)
 | _ =>
  cases n with
  | zero => simpa [SV.drop] using q
  | succ n => simp [SV.len] at hn
theorem Rp.take {h : Hp} (n : Nat) {s : SV} {vs : List Value} (q : Rp h ρ w pr s vs) (hn : n ≤ s.len) : Rp h ρ w pr (s.take n) (vs.take n) ∧ n ≤ vs.length := by
 induction s generalizing n vs with
 | cons a b _ ihb =>
  cases n with
  | zero => exact ⟨rfl, Nat.zero_le _⟩
  | succ n =>
   obtain ⟨v, d, rfl, q1, q2⟩ := q
   obtain ⟨h1, h2⟩ := ihb n q2 (by simpa [SV.len] using hn)
   simp only [SV.take, List.take_succ_cons, List.length_cons]
   exact ⟨⟨v, _, rfl, q1, h1⟩, by omega⟩
 | seg r m xs b ih =>
  cases n with
  | zero => exact ⟨rfl, Nat.zero_le _⟩
  | succ n =>
   obtain ⟨c, d, rfl, h1, h2, h3, q2⟩ := q
   simp only [SV.take]
   simp only [SV.len] at hn
   cases hb : Nat.ble (m * r.n) (n + 1) with
   | false =>
    refine ⟨trivial, ?_⟩
    have : ¬ m * r.n ≤ n + 1 := fun h => by have h' : Nat.ble (m * r.n) (n + 1) = true := (by rw [Nat.ble_eq]; exact h); rw [h'] at hb; cases hb
    simp only [List.length_append]; omega
   | true =>
    have hb := Nat.le_of_ble_eq_true hb
    obtain ⟨g1, g2⟩ := ih (n + 1 - m * r.n) q2 (by omega)
    rw [List.take_append, List.take_of_length_le (by omega), h2]
    exact ⟨⟨c, _, rfl, h1, h2, h3, g1⟩, by simp only [List.length_append]; omega⟩
 | _ =>
  cases n with
  | zero => exact ⟨rfl, Nat.zero_le _⟩
  | succ n => simp [SV.len] at hn
theorem aE3 (n : Nat) {s : SV} (h : 0 < (s.drop n).len) : n ≤ s.len := by
 induction s generalizing n with
 | cons a b _ ihb =>
  cases n with
  | zero => exact Nat.zero_le _
  | succ n => simp only [SV.len]; have := ihb n h; omega
 | seg r m xs b ih =>
  cases n with
  | zero => exact Nat.zero_le _
  | succ n =>
   simp only [SV.drop] at h
   cases hb : Nat.ble (m * r.n) (n + 1) with
   | false => rw [hb] at h; simp [SV.len] at h
   | true =>
    rw [hb] at h
    have := ih _ h
    simp only [SV.len]; omega
 | _ =>
  cases n with
  | zero => exact Nat.zero_le _
  | succ n => simp [SV.drop, SV.len] at h
theorem Ty.one_n {t : Ty} (h : t.one = true) : t.n = 1 := by cases t <;> first | rfl | cases h
theorem Rp.llen {h : Hp} {s : SV} {vs : List Value} (hl : s.lst = true) (q : Rp h ρ w pr s vs) : vs.length = s.len := by
 induction s generalizing vs with
 | nil => rw [show vs = [] from q]; rfl
 | cons a s _ ih =>
  obtain ⟨v, d, rfl, _, q2⟩ := q
  simp only [List.length_cons, SV.len, ih hl q2]
 | seg r m xs s ih =>
  obtain ⟨c, d, rfl, h1, h2, h3, q2⟩ := q
  simp only [List.length_append, SV.len, ih hl q2, h2]
 | _ => cases hl
theorem Rp.over {h : Hp} (n : Nat) {s t : SV} {vs us : List Value} (q : Rp h ρ w pr s vs) (q' : Rp h ρ w pr t us) (ht : t.lst = true) (hn : n + t.len ≤ s.len) :
  Rp h ρ w pr (s.over n t) (vs.take n ++ us ++ vs.drop (n + us.length)) := by
 have hl := Rp.llen ht q'
 induction s generalizing n t vs us with
 | cons a s _ ih =>
  obtain ⟨v, d, rfl, q1, q2⟩ := q
  cases n with
  | zero =>
   cases t with
   | nil =>
    have : us = [] := q'
    subst this
    exact ⟨v, d, by simp, q1, q2⟩
   | cons b t =>
    obtain ⟨v', d', rfl, q1', q2'⟩ := q'
    simp only [SV.len, List.length_cons] at hl hn
    have := ih 0 q2 q2' ht (by omega) (by omega)
    refine ⟨v', _, ?_, q1', this⟩
    simp only [List.take_zero, List.nil_append, Nat.zero_add, List.length_cons, List.cons_append, List.drop_succ_cons]
   | seg r m xs t => exact trivial
   | _ => cases ht
  | succ n =>
   simp only [SV.len] at hn
   have := ih n q2 q' ht (by omega) hl
   refine ⟨v, _, ?_, q1, this⟩
   simp only [List.take_succ_cons, List.cons_append, List.append_assoc]
   rw [show n + 1 + us.length = n + us.length + 1 from by omega, List.drop_succ_cons]
 | seg r m xs s ih =>
  obtain ⟨c, d, rfl, h1, h2, h3, q2⟩ := q
  simp only [SV.len] at hn
  cases n with
  | zero =>
   cases t with
   | nil =>
    have : us = [] := q'
    subst this
    exact ⟨c, d, by simp, h1, h2, h3, q2⟩
   | cons b t => exact trivial
   | seg r' m' ys t =>
    simp only [SV.over]
    cases hb : (r.eq r' && Nat.beq m m') with
    | false => exact trivial
    | true =>
     simp only [Bool.and_eq_true] at hb
     have e1 := Ty.eq_eq hb.1
     have e2 := Nat.eq_of_beq_eq_true hb.2
     subst e1; subst e2
     obtain ⟨c', d', rfl, g1, g2, g3, q2'⟩ := q'
     simp only [SV.len, List.length_append] at hl hn
     have := ih 0 q2 q2' ht (by omega) (by omega)
     refine ⟨c', _, ?_, g1, g2, g3, this⟩
     simp only [List.take_zero, List.nil_append, Nat.zero_add, List.length_append, List.append_assoc]
     rw [List.drop_append, List.drop_of_length_le (by omega), List.nil_append]
     congr 3; omega
   | _ => cases ht
  | succ n =>
   simp only [SV.over]
   cases hb : Nat.ble (m * r.n) (n + 1) with
   | false => exact trivial
   | true =>
    have hb := Nat.le_of_ble_eq_true hb
    have := ih (n + 1 - m * r.n) q2 q' ht (by omega) hl
    refine ⟨c, _, ?_, h1, h2, h3, this⟩
    rw [List.take_append, List.take_of_length_le (l := c) (by omega), List.drop_append, List.drop_of_length_le (l := c) (by omega), List.nil_append, h2]
    simp only [List.append_assoc]
    congr 4; omega
 | any => exact (by cases n <;> exact trivial)
 | _ =>
  have e1 : us = [] := List.eq_nil_of_length_eq_zero (by simp only [SV.len] at hn; omega)
  have e2 : n = 0 := by simp only [SV.len] at hn; omega
  subst e1; subst e2
  simpa [SV.over] using q
end
end Ab
end
section
namespace Ab
open Go
section
variable {P : Program} {E : Env} {C : Cx} {σ : St} {ρ : Nat → Loc} {pr : dU} {f : Nat → Value} {w : World} {a : Act} {o : Oper} {g : Nat → Value}
theorem cZ (s : Sem Value) {v : Value} {w' : World} (h : s.run P w = .ok v w') : (do pure (.value (← s)) : Sem Next).run P w = .ok (.value v) w' := by
 simp only [Sem.run_bind, h, Result.andThen, Sem.run_pure]
theorem aNr (s : Sem Unit) {w' : World} (h : s.run P w = .ok () w') : (do s; pure .skip : Sem Next).run P w = .ok .skip w' := by
 simp only [Sem.run_bind, h, Result.andThen, Sem.run_pure]
theorem Rep.svs {h : Hp} : ∀ {t : Ty} {x : t.T} {vs : List Value}, t.wf = true → Rep w pr t x vs → Rp h ρ w pr (t.svs x) vs ∧ (t.svs x).len = t.n
 | .int k, x, vs, _, q => by have := q; rw [show vs = [.int k x] from q] at this ⊢; exact ⟨⟨_, [], rfl, ⟨rfl, rfl⟩, rfl⟩, rfl⟩
 | .bool, x, vs, _, q => by rw [show vs = [.bool x] from q]; exact ⟨⟨_, [], rfl, ⟨rfl, rfl⟩, rfl⟩, rfl⟩
 | .str, x, vs, _, q => by rw [show vs = [.string x] from q]; exact ⟨⟨_, [], rfl, ⟨rfl, rfl⟩, rfl⟩, rfl⟩
 | .sl r, x, vs, _, q => by
  have q' := q
  obtain ⟨A, c, h1, _⟩ := q
  rw [h1] at q' ⊢
  exact ⟨⟨_, [], rfl, ⟨rfl, q'⟩, rfl⟩, rfl⟩
 | .nil, x, vs, _, q => ⟨q, rfl⟩
 | .noi, x, vs, _, q => by rw [show vs = [.nilIface] from q]; exact ⟨⟨_, [], rfl, ⟨rfl, rfl⟩, rfl⟩, rfl⟩
 | .alt t g r s, x, vs, _, q => by
  have h1 := q.len
  match vs, h1 with
  | [v], _ => exact ⟨⟨_, [], rfl, ⟨rfl, q⟩, rfl⟩, rfl⟩
 | .ern, x, vs, _, q => by
  have h1 := q.len
  match vs, h1 with
  | [v], _ => exact ⟨⟨_, [], rfl, ⟨rfl, q⟩, rfl⟩, rfl⟩
 | .cons a b, x, vs, hw, q => by
  simp only [Ty.wf, Bool.and_eq_true] at hw
  obtain ⟨c, d, rfl, q1, q2⟩ := q
  obtain ⟨h1, h2⟩ := Rep.svs (h := h) hw.2 q2
  have hc := q1.len
  rw [Ty.one_n hw.1] at hc
  match c, hc with
  | [v], _ => exact ⟨⟨v, d, rfl, ⟨hw.1, q1⟩, h1⟩, by simp only [Ty.svs, SV.len, h2, Ty.n, Ty.one_n hw.1]; omega⟩
theorem aBd {t t' : Ty} {x : t.T} {y : t'.T} {vs : List Value} (hc : Ty.cast t t' x = some y) (q : Rep w pr t x vs) : Rep w pr t' y vs := by
 unfold Ty.cast at hc
 split at hc
 ·rename_i h
  cases hc
  have e := Ty.eq_eq h
  subst e
  exact q
 cases hc
theorem aF9 {r r' : Ty} {xs : List r.T} {ys : List r'.T} (hc : Ty.cast (.sl r) (.sl r') xs = some ys) : ∃ h : r = r', ys = h ▸ xs := by
 unfold Ty.cast at hc
 split at hc
 ·rename_i h
  have e : r = r' := Ty.eq_eq (show r.eq r' = true from h)
  subst e
  refine ⟨rfl, ?_⟩
  cases hc
  rfl
 cases hc
theorem Fz.left {l m : List Nat} {pr' : dU} (h : Fz σ ρ pr' (l ++ m)) : Fz σ ρ pr' l := fun k hk => h k (List.mem_append_left _ hk)
theorem Fz.right {l m : List Nat} {pr' : dU} (h : Fz σ ρ pr' (l ++ m)) : Fz σ ρ pr' m := fun k hk => h k (List.mem_append_right _ hk)
theorem aWk : ∀ {t : Ty} {y : t.T}, t.nilI = some y → Rep w pr t y [.nilIface]
 | .noi, _, _ => rfl
 | .alt _ _ _ s, y, h => by
  unfold Ty.nilI at h
  split at h
  ·rename_i z hz
   cases h
   exact ⟨fun _ => aWk hz, .inl rfl⟩
  ·cases h
 | .ern, _, h => by cases h; exact .inl ⟨rfl, rfl⟩
 | .int _, _, h | .bool, _, h | .str, _, h | .sl _, _, h | .nil, _, h | .cons _ _, _, h => by cases h
theorem kK {v : SV} {t : Ty} {y : t.T} {l : List Nat} {vs : List Value} {pr' : dU} (hp : PrLe w pr w pr') (ho : ∀ k o, σ.obj k = some o → RO σ.obj ρ w pr k o) (h : v.data σ t = some (y, l)) (q : Rp σ.obj ρ w pr v vs) (hz : Fz σ ρ pr' l) : Rep w pr' t y vs := by
 cases v with
 | val t' x =>
  simp only [SV.data, Option.bind_eq_some_iff] at h
  obtain ⟨z, h1, h2⟩ := h
  cases h2
  exact (aBd h1 q.2).mono hp
 | nsl =>
  unfold SV.data at h
  cases t <;> first | (cases h; done) | skip
  cases h
  rw [show vs = _ from q]
  exact ⟨none, 0, rfl, Nat.le_refl _, by simp [maxLen], .inl rfl⟩
 | nli =>
  unfold SV.data at h
  simp only at h
  split at h
  ·rename_i y' hy
   cases h
   rw [show vs = [.nilIface] from q]
   exact aWk hy
  ·cases h
 | hd k =>
  unfold SV.data at h
  cases t with
  | sl r =>
   simp only [Option.bind_eq_some_iff] at h
   obtain ⟨xs, h1, h2⟩ := h
   cases h2
   obtain ⟨⟨ob, hob, hnv⟩, rfl⟩ := q
   unfold St.rows at h1
   rw [hob] at h1
   cases ob with
   | var cs => cases hnv
   | map _ _ _ => cases hnv
   | chunk e r' ys =>
    obtain ⟨_, _, cells, c1, c2, _⟩ := ho k _ hob
    obtain ⟨e', hxs⟩ := aF9 h1
    subst e'
    subst hxs
    exact aEf c1 (c2.mono hp) (fun b hb => hz k (by simp) _ _ _ hob b hb)
   | ro r' ys => exact aBd h1 (Rep.mono hp (ho k _ hob))
  | _ => cases h
 | _ => cases h
theorem aFr {pr' : dU} (hp : PrLe w pr w pr') (ho : ∀ k o, σ.obj k = some o → RO σ.obj ρ w pr k o) : ∀ {r : Ty} {s : SV} {y : r.T} {l : List Nat} {vs : List Value},
  SV.row σ r s = some (y, l) → Rp σ.obj ρ w pr s vs → Fz σ ρ pr' l → Rep w pr' r y vs
 | .nil, s, y, l, vs, h, q, hz => by cases s <;> first | exact q | cases h
 | .cons a b, s, y, l, vs, h, q, hz => by
  cases s with
  | cons c s =>
   obtain ⟨v, d, rfl, q1, q2⟩ := q
   simp only [SV.row, Option.bind_eq_some_iff] at h
   obtain ⟨p, h1, q, h2, h3⟩ := h
   cases h3
   refine ⟨[v], d, rfl, ?_, ?_⟩
   ·rw [Ty.fst_mk]; exact kK hp ho h1 q1 hz.left
   ·rw [Ty.snd_mk]; exact aFr hp ho h2 q2 hz.right
  | _ => cases h
 | .int k, s, y, l, vs, h, q, hz => by
  cases s with
  | cons c t =>
   cases t with
   | nil =>
    obtain ⟨v, d, rfl, q1, q2⟩ := q
    rw [show d = [] from q2]
    exact kK (t := .int k) hp ho h q1 hz
   | _ => cases h
  | _ => cases h
 | .bool, s, y, l, vs, h, q, hz => by
  cases s with
  | cons c t =>
   cases t with
   | nil =>
    obtain ⟨v, d, rfl, q1, q2⟩ := q
    rw [show d = [] from q2]
    exact kK (t := .bool) hp ho h q1 hz
   | _ => cases h
  | _ => cases h
 | .str, s, y, l, vs, h, q, hz => by
  cases s with
  | cons c t =>
   cases t with
   | nil =>
    obtain ⟨v, d, rfl, q1, q2⟩ := q
    rw [show d = [] from q2]
    exact kK (t := .str) hp ho h q1 hz
   | _ => cases h
  | _ => cases h
 | .sl r, s, y, l, vs, h, q, hz => by
  cases s with
  | cons c t =>
   cases t with
   | nil =>
    obtain ⟨v, d, rfl, q1, q2⟩ := q
    rw [show d = [] from q2]
    exact kK (t := .sl r) hp ho h q1 hz
   | _ => cases h
  | _ => cases h
 | .noi, s, y, l, vs, h, q, hz => by
  cases s with
  | cons c t =>
   cases t with
   | nil =>
    obtain ⟨v, d, rfl, q1, q2⟩ := q
    rw [show d = [] from q2]
    exact kK (t := .noi) hp ho h q1 hz
   | _ => cases h
  | _ => cases h
 | .alt t g r s1, s, y, l, vs, h, q, hz => by
  cases s with
  | cons c t =>
   cases t with
   | nil =>
    obtain ⟨v, d, rfl, q1, q2⟩ := q
    rw [show d = [] from q2]
    exact kK (t := .alt t g r s1) hp ho h q1 hz
   | _ => cases h
  | _ => cases h
 | .ern, s, y, l, vs, h, q, hz => by
  cases s with
  | cons c t =>
   cases t with
   | nil =>
    obtain ⟨v, d, rfl, q1, q2⟩ := q
    rw [show d = [] from q2]
    exact kK (t := .ern) hp ho h q1 hz
   | _ => cases h
  | _ => cases h
theorem aBc {v c : SV} {x : Value} (ho : ∀ k o, σ.obj k = some o → RO σ.obj ρ w pr k o) (h : v.cells = some c) (q : Rp σ.obj ρ w pr v [x]) : Rp σ.obj ρ w pr c x.cells.toList ∧ ∀ u ∈ x.cells.toList, u.oneCell' = true := by
 have single : (x.oneCell' = true) → v.cells = some (.cons v .nil) → Rp σ.obj ρ w pr c x.cells.toList ∧ ∀ u ∈ x.cells.toList, u.oneCell' = true := by
  intro h1 h2
  rw [h2] at h; cases h
  have hc : x.cells.toList = [x] := by cases x <;> first | rfl | cases h1
  rw [hc]
  exact ⟨⟨x, [], rfl, q, rfl⟩, by simpa using h1⟩
 cases v with
 | agg s =>
  cases h
  obtain ⟨cs, h1, h2, h3⟩ := q
  simp only [List.cons.injEq, and_true] at h1
  subst h1
  exact ⟨by simpa [Value.cells] using h3, by simpa [Value.cells] using h2⟩
 | val t y => exact single (q.2.oneCell x (by simp)) rfl
 | nsl => exact single (by have h1 : [x] = _ := q; cases h1; rfl) rfl
 | nilp => exact single (by have h1 : [x] = _ := q; cases h1; rfl) rfl
 | nli => exact single (by have h1 : [x] = _ := q; cases h1; rfl) rfl
 | fn f s => exact single (by obtain ⟨cs, h1, _⟩ := q; cases h1; rfl) rfl
 | mp k => exact single (by have h1 := q.2; cases h1; rfl) rfl
 | ptr k o => exact single (by have h1 := q.2; cases h1; rfl) rfl
 | hd k =>
  refine single ?_ rfl
  obtain ⟨⟨ob, hob, hn⟩, h1⟩ := q
  simp only [List.cons.injEq, and_true] at h1
  subst h1
  cases ob with
  | var cs => cases hn
  | map _ _ _ => cases hn
  | chunk e r ys =>
   obtain ⟨_, _, cells, c1, _⟩ := ho k _ hob
   rcases c1.2 with ⟨e, _⟩ | ⟨g, cap, cur, e, _⟩ <;> rw [e] <;> rfl
  | ro r ys => exact Rep.oneCell (ho k _ hob) _ (by simp)
 | rop t y => exact single (by obtain ⟨b, o, cs, h1, _⟩ := q; cases h1; rfl) rfl
 | _ => cases h
theorem aZ9 {x : Operand} {σ' : St} {v' : SV} (M : Mo C σ ρ pr (fa g a) w) (ho : o.op = .move x ∨ o.op = .assign x) {t k : Nat} (h : σ.own E t k (σ.ev x) = some (σ', v')) : DoneR P C g o a w (σ'.setd o.dst v') := by
 obtain ⟨ρ', M', q', _⟩ := M.ownS h (dZ M x)
 refine DoneR.value (v := a.eval x) (fun u => ?_) M' q'
 rcases ho with ho | ho <;> (unfold execOp; simp only [ho]; rfl)
theorem aZ8 {c x y : Operand} {t : Bool} {tc : Ty} (M : Mo C σ ρ pr (fa g a) w) (ho : o.op = .pick c x y) (hc : σ.ev c = .val .bool t) {sv : SV}
  (hs : Rp σ.obj ρ w pr sv [if t then a.eval x else a.eval y]) : DoneR P C g o a w (σ.setd o.dst sv) := by
 refine DoneR.value (fun u => ?_) M hs
 have q := dZ M c
 rw [hc] at q
 have hb : a.eval c = .bool t := by have := q.2; simp only [Rep, List.cons.injEq, and_true] at this; exact this
 unfold execOp; simp only [ho, hb]
 simp [asBool]
theorem bEg {t : Nat} {ti : TI} {σ' : St} {cs : SV} (hT : TTok P E.tt) (M : Mo C σ ρ pr (fa g a) w) (ho : o.op = .alloc t) (ht : E.tt t = some ti) {k : Nat} (h : pI k ti.z (aDm ti.z) σ = some (σ', cs)) {j : Nat} (hj : σ'.free j = true) :
  Done P C g o a σ ρ w [] ((σ'.put j (.var cs)).setd o.dst (.ptr j 0)) := by
 obtain ⟨I⟩ := hT.info ht
 obtain ⟨ρ1, M1, q1, _⟩ := Mo.mkC ti.z M h (aAl σ.obj I.hc)
 obtain ⟨ρ2, M2, q2, _⟩ := M1.addVar (E := t) hj (aE6 I.hc) q1
 refine Done.value ?_ M2 q2 (fun b hb _ => ((RowKit.Below.refl w.heap.size w).alloc (Nat.le_refl _) _).block b hb)
 unfold execOp; simp only [ho]
 refine cZ _ ?_
 simp [Instr.alloc, zeroValue, typeInfo, I.hi, I.hz, newVar, newRow]
theorem bHu {t : Nat} {x : Operand} {c : SV} {cts : List CT} {σ' : St} {cs : SV} (M : Mo C σ ρ pr (fa g a) w) (ho : o.op = .box t x) (hc : (σ.ev x).cells = some c) {k : Nat} (h : pI k cts c σ = some (σ', cs)) {j : Nat} (hj : σ'.free j = true) :
  Done P C g o a σ ρ w [] ((σ'.put j (.var cs)).setd o.dst (.ptr j 0)) := by
 obtain ⟨qc, h1⟩ := aBc M.hp hc (dZ M x)
 obtain ⟨ρ1, M1, q1, _⟩ := Mo.mkC cts M h qc
 obtain ⟨ρ2, M2, q2, _⟩ := M1.addVar (E := t) hj h1 q1
 refine Done.value ?_ M2 q2 (fun b hb _ => ((RowKit.Below.refl w.heap.size w).alloc (Nat.le_refl _) _).block b hb)
 unfold execOp; simp only [ho]
 refine cZ _ ?_
 simp [Instr.box, newVar, newRow]
theorem aJy {t : Nat} {ti : TI} (I : aDh P t ti) : (isAgg t).run P w = .ok ti.ag w := by
 have hd := bG1 I.hd
 have hu := run_underlying I.hu w
 unfold isAgg
 simp only [Sem.run_bind, hu, Result.andThen]
 rw [← hd]
 generalize I.d = d
 cases d <;> rfl
theorem aEd {t : Nat} {ti : TI} (I : aDh P t ti) {b ofs : Nat} {cs : List Value} (hag : ti.ag = true) (hl : cs.length = ti.n) (h : Rd w b ofs cs) : (loadVar t ⟨b, ofs, none⟩).run P w = .ok (.agg cs.toArray) w := by
 unfold loadVar
 simp only [Sem.run_bind, aJy I, Result.andThen, hag, if_true, Go.sizeOf, typeInfo, run_program, I.hi, Sem.run_pure, I.hn]
 rw [← hl, run_loadCells_list w _ cs (fun j v hj => by rw [Addr.add_lit]; exact h j v hj)]
theorem aL2 {t : Nat} {ti : TI} (I : aDh P t ti) {b ofs : Nat} {v : Value} (hag : ti.ag = false) (h : w.cell? ⟨b, ofs, none⟩ = some v) : (loadVar t ⟨b, ofs, none⟩).run P w = .ok v w := by
 unfold loadVar
 simp only [Sem.run_bind, aJy I, Result.andThen, hag, Bool.false_eq_true, if_false, run_load, h]
theorem aIe {t : Nat} {ti : TI} (I : aDh P t ti) {h : Hp} {s : SV} {cs : List Value} {b ofs : Nat} {sv : SV} (hs : s.read ti.ag ti.n = some sv) (q : Rp h ρ w pr s cs) (h1 : ∀ v ∈ cs, v.oneCell' = true) :
  ∃ v, (∀ u, Rd u b ofs cs → (loadVar t ⟨b, ofs, none⟩).run P u = .ok v u) ∧ Rp h ρ w pr sv [v] := by
 unfold SV.read at hs
 cases hag : ti.ag with
 | true =>
  rw [hag] at hs
  simp only at hs
  cases hb : Nat.ble ti.n s.len with
  | false => rw [hb] at hs; cases hs
  | true =>
   rw [hb] at hs; cases hs
   obtain ⟨q1, hle⟩ := q.take ti.n (Nat.le_of_ble_eq_true hb)
   refine ⟨.agg (cs.take ti.n).toArray, fun u hr => aEd I hag (by simp; omega) (fun j v hj => hr j v ?_), _, rfl, fun v hv => h1 v (List.mem_of_mem_take hv), q1⟩
   rw [List.getElem?_take] at hj
   split at hj
   ·exact hj
   ·cases hj
 | false =>
  rw [hag] at hs
  simp only at hs
  cases s with
  | cons x s =>
   cases hs
   obtain ⟨v, d, rfl, q1, q2⟩ := q
   exact ⟨v, fun u hr => aL2 I hag (by simpa using hr 0 v rfl), q1⟩
  | _ => cases hs
theorem aF4 {ag : Bool} {n k : Nat} {s sv : SV} (h : (s.drop k).read ag n = some sv) (hn : 0 < n) : k ≤ s.len := by
 apply aE3
 unfold SV.read at h
 cases ag with
 | true =>
  simp only at h
  cases hb : Nat.ble n (s.drop k).len with
  | false => rw [hb] at h; cases h
  | true => have := Nat.le_of_ble_eq_true hb; omega
 | false =>
  simp only at h
  cases hs : s.drop k <;> rw [hs] at h <;> first | (cases h; done) | simp [SV.len]
theorem Rd.drop {b ofs k : Nat} {cs : List Value} (h : Rd w b ofs cs) : Rd w b (ofs + k) (cs.drop k) := fun j v hj => by
 rw [List.getElem?_drop] at hj
 rw [Nat.add_assoc]; exact h _ _ hj
end
end Ab
end
section
namespace Ab
open Go
section
variable {P : Program} {E : Env} {C : Cx} {σ : St} {ρ : Nat → Loc} {pr : dU} {f : Nat → Value} {w : World} {a : Act} {o : Oper} {g : Nat → Value}
theorem Rd.var {b : Nat} {arr : Array Value} {e : Nat} (h : w.heap[b]? = some (.cells arr e (0, 0))) : Rd w b 0 arr.toList := fun j v hj => by
 rw [Nat.zero_add, cell_of_row w b j arr e (0, 0) h]; simpa using hj
theorem Rd.take {b ofs k : Nat} {cs : List Value} (h : Rd w b ofs cs) : Rd w b ofs (cs.take k) := fun j v hj => by
 rw [List.getElem?_take] at hj
 split at hj
 ·exact h j v hj
 cases hj
theorem sF {r : Ty} {xs : List r.T} {i : Int} (_h0 : 0 ≤ i) (h1 : i < (xs.length : Int)) : xs[i.toNat]? = some (iG r xs i) := by
 have hi : i.toNat < xs.length := by omega
 unfold iG
 rw [List.getD_eq_getElem?_getD, List.getElem?_eq_getElem hi]; rfl
theorem aCt {i : Int} {n : Nat} (h : inb i n = true) : 0 ≤ i ∧ i < (n : Int) := by simpa [inb] using h
theorem bA1 {α : Type} (l L : List α) (k N : Nat) (h : k + L.length ≤ N) (hN : N ≤ l.length) :
  (l.take k ++ L ++ l.drop (k + L.length)).take N = (l.take N).take k ++ L ++ (l.take N).drop (k + L.length) := by
 have hA : (l.take k ++ L).length = k + L.length := by simp; omega
 rw [List.take_append, hA, List.take_of_length_le (by rw [hA]; exact h), List.take_take, Nat.min_eq_left (by omega), List.drop_take]
theorem aNt {α : Type} (l L : List α) (b ofs n : Nat) (h : ofs + L.length ≤ n) (hl : b + n ≤ l.length) :
  ((l.take (b + ofs) ++ L ++ l.drop (b + ofs + L.length)).drop b).take n = ((l.drop b).take n).take ofs ++ L ++ ((l.drop b).take n).drop (ofs + L.length) := by
 apply List.ext_getElem?
 intro j
 simp only [List.getElem?_take, List.getElem?_drop, List.getElem?_append, List.length_append, List.length_take, List.length_drop]
 by_cases h1 : j < n
 ·by_cases h2 : j < ofs
  ·simp only [h1, if_true]
   rw [if_pos (by omega), if_pos (by omega), if_pos (by omega), if_pos (by omega), if_pos (by omega), if_pos (by omega)]
  by_cases h3 : j < ofs + L.length
  ·simp only [h1, if_true]
   rw [if_pos (by omega), if_neg (by omega), if_pos (by omega), if_neg (by omega)]
   congr 1; omega
  simp only [h1, if_true]
  rw [if_neg (by omega), if_neg (by omega), if_pos (by omega)]
  congr 1; omega
 simp only [h1, if_false]
 by_cases h3 : j < ofs + L.length
 ·omega
 rw [if_neg (by omega), if_neg (by omega)]
theorem aJ1 {α : Type} (l L : List α) (b c n : Nat) (h : c + n ≤ b ∨ b + L.length ≤ c) (hl : b + L.length ≤ l.length) :
  ((l.take b ++ L ++ l.drop (b + L.length)).drop c).take n = (l.drop c).take n := by
 apply List.ext_getElem?
 intro j
 simp only [List.getElem?_take, List.getElem?_drop, List.getElem?_append, List.length_append, List.length_take]
 by_cases h1 : j < n
 ·simp only [h1, if_true]
  rcases h with h | h
  ·rw [if_pos (by omega), if_pos (by omega), if_pos (by omega)]
  rw [if_neg (by omega)]
  congr 1; omega
 simp only [h1, if_false]
theorem aOw (M : Mo C σ ρ pr f w) {t : Nat} {ti : TI} (I : aDh P t ti) {p v : SV} {x : Value} (hpos : 0 < ti.n) (h : aIy σ ti p = some v) (q : Rp σ.obj ρ w pr p [x]) :
  ∃ ad u, x = .pointer (some ad) ∧ (∀ w', w'.heap[ad.block]? = w.heap[ad.block]? → (loadVar t ad).run P w' = .ok u w') ∧ Rp σ.obj ρ w pr v [u] := by
 unfold aIy at h
 cases p with
 | ptr k ofs =>
  simp only at h
  split at h
  ·rename_i cs hk
   obtain ⟨_, hv⟩ := q
   obtain ⟨arr, e, h1, h2, h3⟩ := M.hp k _ hk
   have hd := aF4 h hpos
   obtain ⟨u, hu, qu⟩ := aIe (b := (ρ k).blk) (ofs := ofs) I h (h3.drop ofs hd) (fun v hv => h2 v (List.mem_of_mem_drop hv))
   have hrd := (Rd.var h1).drop (k := ofs)
   rw [Nat.zero_add] at hrd
   exact ⟨_, u, by simpa using hv, fun w' hw' => hu w' (hrd.move hw'), qu⟩
  ·cases h
 | elp k i ofs =>
  simp only at h
  split at h
  ·rename_i e r xs hk
   cases hw : r.wf with
   | false => rw [hw] at h; cases h
   | true =>
    rw [hw] at h
    simp only [cond_true] at h
    obtain ⟨_, y, hv, hx⟩ := q
    obtain ⟨i0, i1, hy⟩ := hx _ _ _ hk
    obtain ⟨_, hB, cells, c1, c2, c3⟩ := M.hp k _ hk
    have hlen : i.toNat < xs.length := by omega
    obtain ⟨q1, q2⟩ := Rep.svs (h := σ.obj) (ρ := ρ) hw (c2 _ _ (sF i0 i1))
    have hd := aF4 h hpos
    rcases c1.2 with ⟨_, hn⟩ | ⟨g, cap, cur, hh, _, hg, hle, hcap, hsz, htake⟩
    ·omega
    ·have hblk : (ρ k).blk = g := hB g (by rw [hh]; rfl)
     have hr : Rd w g 0 cells := fun j v hj => by
      have := c1.cells (g := g) (by rw [hh]; rfl) j v hj
      simpa [Addr.add_lit] using this
     obtain ⟨u, hu, qu⟩ := aIe (b := g) (ofs := i.toNat * r.n + ofs) I h (q1.drop ofs hd) (fun v hv => c3 v (List.mem_of_mem_drop (List.mem_of_mem_take (List.mem_of_mem_drop hv))))
     have hrd := ((hr.drop (k := i.toNat * r.n)).take (k := r.n)).drop (k := ofs)
     rw [Nat.zero_add] at hrd
     exact ⟨_, u, by rw [show x = y by simpa using hv, hy], fun w' hw' => by rw [hblk] at hw' ⊢; exact hu w' (hrd.move hw'), qu⟩
  ·cases h
 | rop t' y =>
  simp only at h
  cases hw : t'.wf with
  | false => rw [hw] at h; cases h
  | true =>
   rw [hw] at h
   simp only [cond_true] at h
   obtain ⟨b, ofs, cs, hv, _, h3, h4, h5⟩ := q
   obtain ⟨q1, _⟩ := Rep.svs (h := σ.obj) (ρ := ρ) hw h5
   obtain ⟨u, hu, qu⟩ := aIe (b := b) (ofs := ofs) I h q1 h5.oneCell
   exact ⟨_, u, by simpa using hv, fun w' hw' => hu w' (h4.move hw'), qu⟩
 | _ => cases h
theorem bGm {t : Nat} {ti : TI} {x : Operand} {v : SV} (hT : TTok P E.tt) (M : Mo C σ ρ pr (fa g a) w) (ho : o.op = .load t x) (ht : E.tt t = some ti) (hpos : 0 < ti.n) (h : aIy σ ti (σ.ev x) = some v) :
  Done P C g o a σ ρ w [] (σ.setd o.dst v) := by
 obtain ⟨I⟩ := hT.info ht
 obtain ⟨ad, u, hx, hr, q⟩ := aOw M I hpos h (dZ M x)
 refine Done.value ?_ M q (Same.refl _ _ _ _)
 unfold execOp; simp only [ho]
 refine cZ _ ?_
 simp only [Instr.loadAt, hx, Instr.sureAddr, Sem.run_bind, Sem.run_pure, Result.andThen, hr w rfl]
theorem aTj {t : Nat} {ti : TI} {x : Operand} {v : SV} (hT : TTok P E.tt) (M : Mo C σ ρ pr (fa g a) w) (ho : o.op = .load t x) (ht : E.tt t = some ti) (hpos : 0 < ti.n) (h : aIy σ ti (σ.ev x) = some v) :
  ∃ ad u, a.eval x = .pointer (some ad) ∧ (∀ w', w'.heap[ad.block]? = w.heap[ad.block]? → (execOp a.eval o).run P w' = .ok (.value u) w') ∧ Mo C (σ.setd o.dst v) ρ pr (fd o.dst u (fa g a)) w := by
 obtain ⟨I⟩ := hT.info ht
 obtain ⟨ad, u, hx, hr, q⟩ := aOw M I hpos h (dZ M x)
 refine ⟨ad, u, hx, fun w' hw' => ?_, M.setd o.dst v u q⟩
 unfold execOp; simp only [ho]
 refine cZ _ ?_
 simp only [Instr.loadAt, hx, Instr.sureAddr, Sem.run_bind, Sem.run_pure, Result.andThen, hr w' hw']
theorem vM {t : Nat} {ti : TI} (I : aDh P t ti) {b ofs e : Nat} {arr : Array Value} {x : Value} (hb : w.heap[b]? = some (.cells arr e (0, 0))) (hl : x.cells.toList.length = ti.n) (hfit : ofs + ti.n ≤ arr.size) (h1 : ∀ u ∈ x.cells.toList, u.oneCell' = true) :
  (storeVar t ⟨b, ofs, none⟩ x).run P w = .ok () (w.setRow b (arr.toList.take ofs ++ x.cells.toList ++ arr.toList.drop (ofs + x.cells.toList.length)).toArray) := by
 unfold storeVar
 have hs : x.cells.size = ti.n := by simpa using hl
 simp only [Sem.run_bind, Go.sizeOf, typeInfo, run_program, Result.andThen, I.hi, Sem.run_pure, I.hn, hs, ne_eq, not_true_eq_false, if_false]
 have := run_storeCells_at P b ofs e x.cells.toList 0 arr w hb (by rw [hl]; omega) h1
 simpa using this
theorem nY {b : Nat} {cs : Array Value} : (w.setRow b cs).os = w.os ∧ (w.setRow b cs).tape = w.tape ∧ (w.setRow b cs).output = w.output ∧ w.heap.size ≤ (w.setRow b cs).heap.size ∧ ∀ k, k ≠ b → (w.setRow b cs).heap[k]? = w.heap[k]? :=
 ⟨rfl, rfl, rfl, by simp, fun k hk => setRow_other w b k cs hk⟩
theorem bHr {t k : Nat} {v v' : SV} {σ1 : St} (h : σ.own E t k v = some (σ1, v')) (x : Operand) : σ1.ev x = σ.ev x := by
 have : σ1.sl = σ.sl := by
  unfold St.own at h
  split at h
  ·split at h
   ·split at h
    ·rename_i ti _ _ _
     cases hc : (σ.free k && Nat.blt 0 ti.er.n) <;> rw [hc] at h <;> cases h
     rfl
    ·cases h
   ·cases h
  ·cases h; rfl
 cases x <;> simp [St.ev, St.slot, this]
theorem bGj {t k : Nat} {v v' : SV} {σ1 : St} (h : σ.own E t k v = some (σ1, v')) {j : Nat} {ob : Obj} (hj : σ.obj j = some ob) : σ1.obj j = some ob := by
 unfold St.own at h
 split at h
 ·split at h
  ·split at h
   ·rename_i ti _ _ _
    cases hc : (σ.free k && Nat.blt 0 ti.er.n) with
    | false => rw [hc] at h; cases h
    | true =>
     rw [hc] at h; cases h
     simp only [Bool.and_eq_true] at hc
     have hf := free_spec hc.1
     rw [St.obj_put, if_neg (fun e => by subst e; rw [hf] at hj; cases hj)]; exact hj
   cases h
  cases h
 cases h; exact hj
theorem bD7 {t k : Nat} {ti : TI} {x y : Operand} {σ1 σ' : St} {sv : SV} (hT : TTok P E.tt) (M : Mo C σ ρ pr (fa g a) w) (ho : o.op = .store t x y) (ht : E.tt t = some ti) (h : σ.own E t k (σ.ev y) = some (σ1, sv)) (hs : aXy σ1 ti.n sv (σ1.ev x) = some σ') :
  Done P C g o a σ ρ w (wr o σ) (σ'.setd o.dst .dead) := by
 obtain ⟨I⟩ := hT.info ht
 have qx0 := dZ M x
 have hev := bHr h x
 have hwr : wr o σ = match σ1.ev x with | .ptr k _ | .elp k _ _ | .arp k _ | .sgp k _ _ _ _ _ => [k] | _ => [] := by unfold wr; rw [ho]; simp only; rw [hev]; rfl
 rw [← hev] at qx0
 obtain ⟨ρ1, M1, q1, _⟩ := M.ownS h (dZ M y)
 have qx := dZ M1 x
 unfold aXy at hs
 have fin : ∀ {ad : Addr} {w' : World} {ρ' : Nat → Loc} {pr' : dU}, a.eval x = .pointer (some ad) → (storeVar t ad (a.eval y)).run P w = .ok () w' → Mo C σ' ρ' pr' (fa g a) w' → Same σ ρ w w' (wr o σ) → Done P C g o a σ ρ w (wr o σ) (σ'.setd o.dst .dead) := by
  intro ad w' ρ' pr' hx hr M' hs
  refine ⟨.skip, undef, w', ρ', pr', ?_, .inr ⟨rfl, rfl⟩, M'.setd o.dst .dead undef ⟨_, rfl⟩, hs⟩
  unfold execOp; simp only [ho]
  refine aNr _ ?_
  simp only [Instr.storeAt, hx, Instr.sureAddr, Sem.run_bind, Sem.run_pure, Result.andThen, hr]
 cases hp : σ1.ev x with
 | ptr j ofs =>
  rw [hp] at hs qx qx0 hwr
  simp only at hs hwr
  split at hs
  ·rename_i cs hk
   simp only [Option.bind_eq_some_iff] at hs
   obtain ⟨c, hc, hs⟩ := hs
   cases hcond : (c.lst && Nat.beq c.len ti.n && Nat.ble (ofs + ti.n) cs.len) with
   | false => rw [hcond] at hs; cases hs
   | true =>
    rw [hcond] at hs; cases hs
    simp only [Bool.and_eq_true] at hcond
    have hcl := Nat.eq_of_beq_eq_true hcond.1.2
    have hle := Nat.le_of_ble_eq_true hcond.2
    obtain ⟨_, hv⟩ := qx
    simp only [List.cons.injEq, and_true] at hv
    obtain ⟨arr, e, h1, h2, h3⟩ := M1.hp j _ hk
    obtain ⟨qc, o1⟩ := aBc M1.hp hc q1
    have hlen : (a.eval y).cells.toList.length = c.len := Rp.llen hcond.1.1 qc
    have hasz : cs.len ≤ arr.size := by have := (Rp.take cs.len h3 (Nat.le_refl _)).2; simpa using this
    have hr := vM (w := w) I (ofs := ofs) h1 (hlen.trans hcl) (by omega) o1
    have hbk : own σ.obj ρ j = some (ρ1 j).blk := by
     obtain ⟨⟨c0, hc0⟩, hv0⟩ := qx0
     rw [hv] at hv0
     simp only [List.cons.injEq, and_true, Value.pointer.injEq, Option.some.injEq, Addr.mk.injEq] at hv0
     simp [own, hc0, hv0]
    refine fin (ρ' := ρ1) (pr' := pr) hv hr ?_ (fun b _ hne => nY.2.2.2.2 b (fun e => hne j (by rw [hwr]; simp) (by rw [hbk, e])))
    have hset := @nY w (ρ1 j).blk (arr.toList.take ofs ++ (a.eval y).cells.toList ++ arr.toList.drop (ofs + (a.eval y).cells.toList.length)).toArray
    refine (M1.upd hk (o' := .var (cs.over ofs c)) (by simp [OLe]) hset.1 hset.2.1 hset.2.2.1 hset.2.2.2.1 (fun b _ hne => hset.2.2.2.2 b (fun e => hne (by rw [e]; simp [own, hk]))) (fun hm => ?_) ?_).1
    ·refine ⟨_, e, setRow_heap w _ arr _ e (0, 0) h1, ?_, ?_⟩
     ·intro v hv
      simp only [List.mem_append] at hv
      rcases hv with (hv | hv) | hv
      ·exact h2 v (List.mem_of_mem_take hv)
      ·exact o1 v hv
      ·exact h2 v (List.mem_of_mem_drop hv)
     ·have := Rp.over ofs h3 qc hcond.1.1 (by rw [hcl]; exact hle)
      exact hm _ _ this
    ·simp [own, hk, St.obj_put]
  ·cases hs
 | elp j i ofs =>
  rw [hp] at hs qx qx0 hwr
  simp only at hs hwr
  split at hs
  ·rename_i e r xs hk
   simp only [Option.bind_eq_some_iff] at hs
   obtain ⟨c, hc, hs⟩ := hs
   cases hcond : (r.wf && c.lst && Nat.beq c.len ti.n && Nat.ble (ofs + ti.n) r.n) with
   | false => rw [hcond] at hs; cases hs
   | true =>
    rw [hcond] at hs
    simp only [cond_true, Option.bind_eq_some_iff] at hs
    obtain ⟨p, hrow, hs⟩ := hs
    cases hmem : jI j p.2 with
    | true => rw [hmem] at hs; cases hs
    | false =>
     rw [hmem] at hs; cases hs
     simp only [Bool.and_eq_true] at hcond
     have hcl := Nat.eq_of_beq_eq_true hcond.1.2
     have hle := Nat.le_of_ble_eq_true hcond.2
     obtain ⟨_, y', hv, hx⟩ := qx
     obtain ⟨i0, i1, hy⟩ := hx _ _ _ hk
     have hv : a.eval x = y' := by simpa using hv
     obtain ⟨hr0, hB, cells, c1, c2, c3⟩ := M1.hp j _ hk
     obtain ⟨qc, o1⟩ := aBc M1.hp hc q1
     have hlen : (a.eval y).cells.toList.length = c.len := Rp.llen hcond.1.1.2 qc
     obtain ⟨s1, s2⟩ := Rep.svs (h := σ1.obj) (ρ := ρ1) hcond.1.1.1 (c2 _ _ (sF i0 i1))
     have hnj : j ∉ p.2 := eY.1 hmem
     obtain ⟨pr2, M2, hple, m2, z2⟩ := M1.freezes p.2
     have hk2 : (σ1.freezes p.2).obj j = some (.chunk e r xs) := by rw [qH j _ _ hnj]; exact hk
     have hover := Rp.over ofs s1 qc hcond.1.1.2 (by rw [s2, hcl]; exact hle)
     have hrow2 := aFr hple M1.hp hrow hover z2
     have hil : i.toNat < xs.length := by omega
     rcases c1.2 with ⟨_, hn⟩ | ⟨g', cap, cur, hh, _, hg, hlen', hcap, hsz, htake⟩
     ·omega
     ·have hblk : (ρ1 j).blk = g' := hB g' (by rw [hh]; rfl)
      have hcl2 : cells.length = xs.length * r.n := c1.1
      have hfit0 : i.toNat * r.n + r.n ≤ xs.length * r.n := by rw [← Nat.succ_mul]; exact Nat.mul_le_mul_right _ hil
      have hcurle : xs.length * r.n ≤ cur.size := by rw [hsz]; exact Nat.mul_le_mul_right _ hlen'
      have hr := vM (w := w) I hg (hlen.trans hcl) (ofs := i.toNat * r.n + ofs) (x := a.eval y) (by omega) o1
      rw [hy, hblk] at hv
      have hbk : own σ.obj ρ j = some g' := by
       obtain ⟨hs0, v0, hv0, hx0⟩ := qx0
       obtain ⟨ob, hob⟩ := Option.isSome_iff_exists.1 hs0
       have hob1 := bGj h hob
       rw [hk] at hob1; cases hob1
       obtain ⟨_, _, hy0⟩ := hx0 _ _ _ hob
       simp only [List.cons.injEq, and_true] at hv0
       rw [← hv0, hv] at hy0
       simp only [Value.pointer.injEq, Option.some.injEq, Addr.mk.injEq] at hy0
       obtain ⟨_, hB0, cells0, c01, _⟩ := M.hp j _ hob
       rcases c01.2 with ⟨_, hn0⟩ | ⟨g0, cap0, cur0, hh0, _⟩
       ·omega
       ·have := hB0 g0 (by rw [hh0]; rfl)
        simp only [own, hob, hh0, Value.ownBlock]
        rw [hy0.1, this]
      refine fin (ρ' := ρ1) (pr' := pr2) hv hr ?_ (fun b _ hne => nY.2.2.2.2 b (fun e => hne j (by rw [hwr]; simp) (by rw [hbk, e])))
      generalize hL : (a.eval y).cells.toList = L at *
      have hLl : L.length = ti.n := hlen.trans hcl
      have hset := @nY w g' (cur.toList.take (i.toNat * r.n + ofs) ++ L ++ cur.toList.drop (i.toNat * r.n + ofs + L.length)).toArray
      refine (M2.upd hk2 (o' := .chunk e r (dP xs i p.1)) (by simp [OLe, dP]) hset.1 hset.2.1 hset.2.2.1 hset.2.2.2.1 (fun b _ hne => hset.2.2.2.2 b (fun e => hne (by rw [e]; simp [own, hk2, hh, Value.ownBlock]))) (fun hm => ?_) ?_).1
      ·refine ⟨hr0, hB, cells.take (i.toNat * r.n + ofs) ++ L ++ cells.drop (i.toNat * r.n + ofs + L.length), ⟨?_, .inr ⟨g', cap, _, ?_, Nat.zero_le _, setRow_heap w g' cur _ e (0, 0) hg, ?_, hcap, ?_, ?_⟩⟩, ?_, ?_⟩
       ·simp [dP]; omega
       ·rw [hh]; simp [dP]
       ·simpa [dP] using hlen'
       ·simp; omega
       ·rw [show (dP xs i p.1).length = xs.length by simp [dP], List.toList_toArray, bA1 _ _ _ _ (by omega) (by simpa using hcurle), htake]
       ·intro i' x' hx'
        have hp2 : PrLe w pr2 (w.setRow g' (cur.toList.take (i.toNat * r.n + ofs) ++ L ++ cur.toList.drop (i.toNat * r.n + ofs + L.length)).toArray) pr2 := fun b t hb =>
         ⟨hb, hset.2.2.2.2 b (fun e => (M2.prot b t hb).2 j (by rw [e]; simp [own, hk2, hh, Value.ownBlock]))⟩
        have hi' : i' < xs.length := by have := (List.getElem?_eq_some_iff.1 hx').1; simpa [dP] using this
        have hfit' : i' * r.n + r.n ≤ xs.length * r.n := by rw [← Nat.succ_mul]; exact Nat.mul_le_mul_right _ hi'
        by_cases e : i' = i.toNat
        ·subst e
         have : x' = p.1 := by simpa [dP, hil] using hx'.symm
         subst this
         rw [aNt _ _ _ _ _ (by omega) (by omega)]
         exact Rep.mono hp2 hrow2
        ·have hx2 : xs[i']? = some x' := by
          unfold dP at hx'
          rw [List.getElem?_set, if_neg (fun h => e h.symm)] at hx'; exact hx'
         have hdist : i' * r.n + r.n ≤ i.toNat * r.n + ofs ∨ i.toNat * r.n + ofs + L.length ≤ i' * r.n := by
          rcases Nat.lt_or_gt_of_ne e with h | h
          ·left; have : (i' + 1) * r.n ≤ i.toNat * r.n := Nat.mul_le_mul_right _ h
           rw [Nat.succ_mul] at this; omega
          ·right; have : (i.toNat + 1) * r.n ≤ i' * r.n := Nat.mul_le_mul_right _ h
           rw [Nat.succ_mul] at this; omega
         rw [aJ1 _ _ _ _ _ hdist (by omega)]
         exact Rep.mono hp2 ((c2 i' x' hx2).mono hple)
       ·intro v hv
        simp only [List.mem_append] at hv
        rcases hv with (hv | hv) | hv
        ·exact c3 v (List.mem_of_mem_take hv)
        ·exact o1 v hv
        ·exact c3 v (List.mem_of_mem_drop hv)
      ·simp [own, hk2, St.obj_put]
  ·cases hs
 | _ => rw [hp] at hs; cases hs
end
end Ab
end
section
namespace Ab
open Go
section
variable {P : Program} {E : Env} {C : Cx} {σ : St} {ρ : Nat → Loc} {pr : dU} {f : Nat → Value} {w : World} {a : Act} {o : Oper} {g : Nat → Value}
theorem aEj {x : Operand} {sv : SV} (M : Mo C σ ρ pr (fa g a) w) (ho : o.op = .nilCheck x) (hx : σ.ev x = sv)
  (hs : (∃ k ofs, sv = .ptr k ofs) ∨ (∃ t y, sv = .rop t y) ∨ (∃ k i ofs e r xs, sv = .elp k i ofs ∧ σ.obj k = some (.chunk e r xs))) : DoneR P C g o a w (σ.setd o.dst sv) := by
 have q := dZ M x
 rw [hx] at q
 refine DoneR.value (v := a.eval x) (fun u => ?_) M q
 have : ∃ ad, a.eval x = .pointer (some ad) := by
  rcases hs with ⟨k, ofs, rfl⟩ | ⟨t, y, rfl⟩ | ⟨k, i, ofs, e, r, xs, rfl, hk⟩
  ·have := q.2; simp only [List.cons.injEq, and_true] at this; exact ⟨_, this⟩
  ·obtain ⟨b, ofs, cs, h, _⟩ := q; simp only [List.cons.injEq, and_true] at h; exact ⟨_, h⟩
  ·obtain ⟨_, v, hv, hx⟩ := q; simp only [List.cons.injEq, and_true] at hv; rw [hv]; exact ⟨_, (hx _ _ _ hk).2.2⟩
 obtain ⟨ad, had⟩ := this
 unfold execOp; simp only [ho, had]; rfl
theorem jZ {h : Hp} {k : IntKind} {n : Int} {v : Value} (q : Rp h ρ w pr (.val (.int k) n) [v]) : v = .int k n := by
 have := q.2; simp only [Rep, List.cons.injEq, and_true] at this; exact this
theorem oN {h : Hp} {b : Bool} {v : Value} (q : Rp h ρ w pr (.val .bool b) [v]) : v = .bool b := by
 have := q.2; simp only [Rep, List.cons.injEq, and_true] at this; exact this
theorem qJ {h : Hp} {s : ByteArray} {v : Value} (q : Rp h ρ w pr (.val .str s) [v]) : v = .string s := by
 have := q.2; simp only [Rep, List.cons.injEq, and_true] at this; exact this
theorem bFg {op : BinOp} {t : TypeId} {k : IntKind} {x y : Int} {ok : Bool} {sv : SV} (h : bIf op k x y = some (ok, sv)) (hok : ok = true) :
    ∃ v, (∀ u, (binOp op t (.int k x) (.int k y)).run P u = .ok v u) ∧ ∀ hp, Rp hp ρ w pr sv [v] := by
  unfold bIf at h
  cases op <;> simp only at h <;> first | (cases h; done) | skip
  all_goals
    simp only [Option.some.injEq, Prod.mk.injEq] at h
    obtain ⟨rfl, rfl⟩ := h
  all_goals first
    | (refine ⟨_, fun u => by simp only [binOp_add, binOp_sub, binOp_mul, Op.intArith]; rfl, fun _ => ⟨rfl, rfl⟩⟩; done)
    | (refine ⟨_, fun u => by simp only [binOp_and, binOp_or, binOp_xor, Op.intBits]; rfl, fun _ => ⟨rfl, rfl⟩⟩; done)
    | (refine ⟨_, fun u => by simp only [binOp_eql, binOp_neq, binOp_lss, binOp_leq, binOp_gtr, binOp_geq]; rfl, fun _ => ⟨rfl, rfl⟩⟩; done)
    | (have hy : ¬ y = 0 := by simpa using hok
       refine ⟨_, fun u => by simp only [binOp_quo, binOp_rem, Op.intDiv, hy, if_false]; rfl, fun _ => ⟨rfl, rfl⟩⟩)
theorem bEf {op : BinOp} {t t' : TypeId} {x y : Operand} {ok : Bool} {sv : SV} (M : Mo C σ ρ pr (fa g a) w) (ho : o.op = .binOp op t x y t') (h : bIe op (σ.ev x) (σ.ev y) = some (ok, sv)) (hok : ok = true) :
  DoneR P C g o a w (σ.setd o.dst sv) := by
 have qx := dZ M x
 have qy := dZ M y
 unfold bIe at h
 split at h
 ·rename_i k n k' n' e1 e2
  rw [e1] at qx; rw [e2] at qy
  split at h
  ·rename_i p hp
   cases h
   unfold shV at hp
   cases op <;> simp only at hp <;> first | (cases hp; done) | skip
   all_goals
    simp only [Option.some.injEq, Prod.mk.injEq] at hp
    obtain ⟨hp1, rfl⟩ := hp
    rw [hok] at hp1
    have hb : ¬ n' < 0 := Int.not_lt.mpr (of_decide_eq_true hp1)
    refine DoneR.value (fun u => ?_) M ⟨rfl, rfl⟩
    unfold execOp; simp only [ho, jZ qx, jZ qy]
    refine cZ _ ?_
    simp only [eqGuard, binOp_shl, binOp_shr, Op.shift, hb, if_false, Sem.run_bind, Sem.run_pure, Result.andThen]
    rfl
  cases hk : kEq k k' with
  | false => rw [hk] at h; cases h
  | true =>
   rw [hk] at h
   have e := aEz hk
   subst e
   obtain ⟨v, hr, q⟩ := bFg (P := P) (t := t) (w := w) (ρ := ρ) (pr := pr) h hok
   refine DoneR.value (fun u => ?_) M (q _)
   unfold execOp; simp only [ho, jZ qx, jZ qy]
   refine cZ _ ?_
   rw [eqGuard_at_int]
   simpa using hr u
 ·rename_i s s' e1 e2
  rw [e1] at qx; rw [e2] at qy
  have hrun : ∀ v, (∀ u, (Op.stringOp op s s').run P u = .ok v u) → ∀ u, (execOp a.eval o).run P u = .ok (.value v) u := by
   intro v hv u
   unfold execOp; simp only [ho, qJ qx, qJ qy]
   refine cZ _ ?_
   rw [eqGuard_at_string]
   have : binOp op t (.string s) (.string s') = Op.stringOp op s s' := by cases op <;> rfl
   rw [this]
   simpa using hv u
  cases op <;> simp only at h <;> first | (cases h; done) | skip
  all_goals
   simp only [Option.some.injEq, Prod.mk.injEq] at h
   obtain ⟨rfl, rfl⟩ := h
  ·refine DoneR.value (hrun (.string (s ++ s')) fun u => ?_) M ⟨rfl, rfl⟩
   have hle : s.size + s'.size ≤ 9223372036854775807 := by simpa [kM] using hok
   have hn : ¬ (((s.size + s'.size : Nat) : Int) > IntKind.i64.max) := by rw [IntKind.max_i64]; omega
   simp only [Op.stringOp, hn, if_false]; rfl
  ·exact DoneR.value (hrun (.bool (eqS s s')) fun _ => rfl) M ⟨rfl, rfl⟩
  exact DoneR.value (hrun (.bool (!(eqS s s'))) fun _ => rfl) M ⟨rfl, rfl⟩
 cases h
theorem bAk {h : Hp} (d : Nat) {u : World} {cs ds : Array Value} : ∀ {ks : List TK} {fs : List Field} {k : Nat} {x y : SV} {xs ys : List Value} {r : Bool}, bE7 P k ks fs = true → eqC ks x y = some r → Rp h ρ w pr x xs → Rp h ρ w pr y ys →
  (∀ i v, xs[i]? = some v → cs[k + i]? = some v) → (∀ i v, ys[i]? = some v → ds[k + i]? = some v) → (Op.eqFields (d + 1) cs ds fs).run P u = .ok r u
 | [], [], _, x, y, _, _, r, _, he, _, _, _, _ => by
  unfold eqC at he
  split at he <;> first | (cases he; rfl) | (rename_i h1 _ _; cases h1) | (cases he)
 | [], _ :: _, _, _, _, _, _, _, hf, _, _, _, _, _ => by cases hf
 | _ :: _, [], _, _, _, _, _, _, hf, _, _, _, _, _ => by simp [bE7] at hf
 | q :: ks, f :: fs, k, x, y, xs, ys, r, hf, he, qx, qy, hcs, hds => by
  simp only [bE7, Bool.and_eq_true] at hf
  obtain ⟨⟨⟨hf1, hf2⟩, hf3⟩, hf4⟩ := hf
  have ho := Nat.eq_of_beq_eq_true hf1
  have hnm : f.name ≠ "_" := by simpa using hf2
  have fin : ∀ {c c' s t : SV} {b r' : Bool}, x = .cons c s → y = .cons c' t → (∀ {v v' : Value}, Rp h ρ w pr c [v] → Rp h ρ w pr c' [v'] → (Op.equalIn (d + 1) f.type v v').run P u = .ok b u ∧
    (∀ (as : Array Value) (z : Value), as[f.offset]? = some z → (part f.type as f.offset).run P u = .ok z u)) → eqC ks s t = some r' → (Op.eqFields (d + 1) cs ds (f :: fs)).run P u = .ok (b && r') u := by
   intro c c' s t b r' ex ey hb hr
   subst ex; subst ey
   obtain ⟨v, xs', rfl, qv, qs⟩ := qx
   obtain ⟨v', ys', rfl, qv', qt⟩ := qy
   have h0 : cs[f.offset]? = some v := by have := hcs 0 v rfl; rw [ho]; exact this
   have h0' : ds[f.offset]? = some v' := by have := hds 0 v' rfl; rw [ho]; exact this
   obtain ⟨e1, e2⟩ := hb qv qv'
   have rest := bAk d (u := u) (cs := cs) (ds := ds) hf4 hr qs qt
    (fun i z hz => by have := hcs (i + 1) z (by simpa using hz); rw [← this]; congr 1; omega) (fun i z hz => by have := hds (i + 1) z (by simpa using hz); rw [← this]; congr 1; omega)
   simp only [Op.eqFields, hnm, ne_eq, not_false_eq_true, if_true, Sem.run_bind, e2 cs v h0, e2 ds v' h0', Result.andThen_ok, e1]
   cases b
   ·simp
   ·simpa using rest
  unfold eqC at he
  split at he
  ·rename_i h1; cases h1
  ·rename_i q0 l k1 a s k2 b t h1
   cases h1
   cases hk : (kEq k1 q0 && kEq k2 q0) with
   | false => rw [hk] at he; cases he
   | true =>
    rw [hk] at he
    rw [Bool.and_eq_true] at hk
    have e1 := aEz hk.1
    have e2 := aEz hk.2
    subst e1; subst e2
    simp only [cond_true, Option.map_eq_some_iff] at he
    obtain ⟨r', hr, rfl⟩ := he
    cases hu : P.underlying f.type with
    | none => rw [hu] at hf3; cases hf3
    | some kd =>
    rw [hu] at hf3
    cases kd <;> simp only at hf3 <;> first | (cases hf3; done) | skip
    refine fin rfl rfl (fun {v v'} qv qv' => ?_) hr
    rw [jZ qv, jZ qv']
    exact ⟨run_equalIn_int u d _ _ _ _ _ hu, fun as z hz => by simp [part, isAgg, run_underlying hu, hz]⟩
  ·rename_i l a s b t h1
   cases h1
   simp only [Option.map_eq_some_iff] at he
   obtain ⟨r', hr, rfl⟩ := he
   cases hu : P.underlying f.type with
   | none => rw [hu] at hf3; cases hf3
   | some kd =>
   rw [hu] at hf3
   cases kd <;> simp only at hf3 <;> first | (cases hf3; done) | skip
   refine fin rfl rfl (fun {v v'} qv qv' => ?_) hr
   rw [oN qv, oN qv']
   exact ⟨run_equalIn_bool' u d _ _ _ hu, fun as z hz => by simp [part, isAgg, run_underlying hu, hz]⟩
  ·rename_i l a s b t h1
   cases h1
   simp only [Option.map_eq_some_iff] at he
   obtain ⟨r', hr, rfl⟩ := he
   cases hu : P.underlying f.type with
   | none => rw [hu] at hf3; cases hf3
   | some kd =>
   rw [hu] at hf3
   cases kd <;> simp only at hf3 <;> first | (cases hf3; done) | skip
   refine fin rfl rfl (fun {v v'} qv qv' => ?_) hr
   rw [qJ qv, qJ qv']
   exact ⟨run_equalIn_string u d _ _ _ hu, fun as z hz => by simp [part, isAgg, run_underlying hu, hz]⟩
  ·cases he
theorem bBr {op : BinOp} {t t' : TypeId} {x y : Operand} {sv : SV} (hT : TTok P E.tt) (M : Mo C σ ρ pr (fa g a) w) (ho : o.op = .binOp op t x y t') (h : bIg E op t (σ.ev x) (σ.ev y) = some sv) : DoneR P C g o a w (σ.setd o.dst sv) := by
 have qx := dZ M x
 have qy := dZ M y
 unfold bIg at h
 split at h
 ·rename_i b b' e1 e2
  rw [e1] at qx; rw [e2] at qy
  split at h
  ·rename_i ti ht
   obtain ⟨I⟩ := hT.info ht
   have eq : ∀ u, ti.k = .bool → (Op.equal t (.bool b) (.bool b')).run P u = .ok (b == b') u := fun u hk => by
    have hu := I.hu; rw [bB5 I.hd hk] at hu
    have e0 : Op.equal t (.bool b) (.bool b') = Op.equalIn (9999 + 1) t (.bool b) (.bool b') := rfl
    rw [e0, Op.equalIn]
    simp only [Sem.run_bind, run_underlying hu, Result.andThen]
    rfl
   split at h
   ·rename_i hk
    cases h
    refine DoneR.value (v := .bool (b == b')) (fun u => ?_) M ⟨rfl, rfl⟩
    unfold execOp; simp only [ho, oN qx, oN qy]
    refine cZ _ ?_
    simp only [eqGuard, binOp, Sem.run_bind, ite_self, Sem.run_pure, Result.andThen, eq u hk]
   ·rename_i hk
    cases h
    refine DoneR.value (v := .bool (!(b == b'))) (fun u => ?_) M ⟨rfl, rfl⟩
    unfold execOp; simp only [ho, oN qx, oN qy]
    refine cZ _ ?_
    simp only [eqGuard, binOp, Sem.run_bind, ite_self, Sem.run_pure, Result.andThen, eq u hk]
   cases h
  cases h
 ·rename_i s s' e1 e2
  rw [e1] at qx; rw [e2] at qy
  obtain ⟨cs, ecs, _, qcs⟩ := qx
  obtain ⟨ds, eds, _, qds⟩ := qy
  simp only [List.cons.injEq, and_true] at ecs eds
  split at h
  ·rename_i ti ht
   obtain ⟨I⟩ := hT.info ht
   cases hq : aS9 ti.eq with
   | false => rw [hq] at h; cases h
   | true =>
   rw [hq] at h
   have he := I.he hq
   unfold eqB at he
   split at he
   ·rename_i fs hfs
    simp only [Bool.and_eq_true, Bool.not_eq_true'] at he
    obtain ⟨⟨he1, he2⟩, he3⟩ := he
    have hfo : P.fieldsOf t = fs := by simp [Program.fieldsOf, hfs]
    have eq : ∀ (u : World) (r : Bool), eqC ti.eq s s' = some r → (Op.equalIn 10000 t (.agg cs.toArray) (.agg ds.toArray)).run P u = .ok r u := fun u r hr => by
     rw [show (10000 : Nat) = 9999 + 1 from rfl, run_equalIn_struct u 9999 t _ _ (by rw [hfo]; exact hfs) he1, hfo]
     exact bAk 9998 he3 hr qcs qds (fun i v hv => by simpa using hv) (fun i v hv => by simpa using hv)
    simp only [cond_true] at h
    split at h
    ·simp only [Option.map_eq_some_iff] at h
     obtain ⟨r, hr, rfl⟩ := h
     refine DoneR.value (v := .bool r) (fun u => ?_) M ⟨rfl, rfl⟩
     unfold execOp; simp only [ho, ecs, eds]
     refine cZ _ ?_
     simp only [Sem.run_bind, run_eqGuard_agg _ _ _ _ _ _ _ he2, Result.andThen_ok, run_eql_struct, eq u r hr]
    ·simp only [Option.map_eq_some_iff] at h
     obtain ⟨r, hr, rfl⟩ := h
     refine DoneR.value (v := .bool (!r)) (fun u => ?_) M ⟨rfl, rfl⟩
     unfold execOp; simp only [ho, ecs, eds]
     refine cZ _ ?_
     simp only [Sem.run_bind, run_eqGuard_agg _ _ _ _ _ _ _ he2, Result.andThen_ok, run_neq_struct, eq u r hr]
    cases h
   cases he
  cases h
 cases h
theorem bGk {op : UnOp} {t : TypeId} {x : Operand} {sv : SV} (M : Mo C σ ρ pr (fa g a) w) (ho : o.op = .unOp op t x) (h : unV op (σ.ev x) = some sv) : DoneR P C g o a w (σ.setd o.dst sv) := by
 have qx := dZ M x
 unfold unV at h
 split at h
 ·rename_i b e
  rw [e] at qx
  cases op <;> simp only at h <;> first | (cases h; done) | skip
  cases h
  refine DoneR.value (v := .bool (!b)) (fun u => ?_) M ⟨rfl, rfl⟩
  unfold execOp; simp only [ho, oN qx]; rfl
 ·rename_i k n e
  rw [e] at qx
  cases op <;> simp only at h <;> first | (cases h; done) | skip
  cases h
  refine DoneR.value (v := .int k (k.wrap (0 - n))) (fun u => ?_) M ⟨rfl, rfl⟩
  unfold execOp; simp only [ho, jZ qx]; rfl
 cases h
theorem aY9 {s t : TypeId} {ti : TI} {x : Operand} {sv : SV} (hT : TTok P E.tt) (M : Mo C σ ρ pr (fa g a) w) (ho : o.op = .convert s t x) (ht : E.tt t = some ti) (hs : (P.underlying s).isSome = true) (h : bAn ti.k (σ.ev x) = some sv) :
  DoneR P C g o a w (σ.setd o.dst sv) := by
 obtain ⟨I⟩ := hT.info ht
 obtain ⟨ds, hds⟩ := Option.isSome_iff_exists.1 hs
 have qx := dZ M x
 unfold bAn at h
 split at h
 ·rename_i k n e
  rw [e] at qx
  cases hk : ti.k <;> rw [hk] at h <;> simp only at h <;> first | (cases h; done) | skip
  rename_i k'
  cases h
  have hd := aW5 I.hd hk
  have hu := I.hu; rw [hd] at hu
  refine DoneR.value (v := .int k' (k'.wrap n)) (fun u => ?_) M ⟨rfl, rfl⟩
  unfold execOp; simp only [ho, jZ qx]
  refine cZ _ ?_
  simp only [convert, Sem.run_bind, run_underlying hds, run_underlying hu, Result.andThen]
  cases ds <;> rfl
 ·rename_i s e
  rw [e] at qx
  cases hk : ti.k <;> rw [hk] at h <;> simp only at h <;> first | (cases h; done) | skip
  cases h
  have hd := aE4 I.hd hk
  have hu := I.hu; rw [hd] at hu
  refine DoneR.value (v := .string s) (fun u => ?_) M ⟨rfl, rfl⟩
  unfold execOp; simp only [ho, qJ qx]
  refine cZ _ ?_
  simp only [convert, Sem.run_bind, run_underlying hds, run_underlying hu, Result.andThen]
  cases ds <;> rfl
 cases h
theorem aWx : ∀ {t : Ty} {x : t.T} {n : Nat} {q : (t : Ty) × t.T} {cs : List Value}, Ty.from t x n = some q → Rep w pr t x cs → n ≤ cs.length ∧ Rep w pr q.1 q.2 (cs.drop n) ∧ q.1.n = t.n - n
 | t, x, 0, q, cs, h, hr => by
  have : q = ⟨t, x⟩ := by cases t <;> (simp only [Ty.from] at h; cases h; rfl)
  subst this
  exact ⟨Nat.zero_le _, by simpa using hr, by simp⟩
 | .cons a b, x, n + 1, q, cs, h, hr => by
  obtain ⟨c, d, rfl, q1, q2⟩ := hr
  simp only [Ty.from] at h
  cases ha : a.one with
  | false => rw [ha] at h; cases h
  | true =>
   rw [ha] at h
   simp only [cond_true] at h
   have hc := q1.len
   rw [Ty.one_n ha] at hc
   obtain ⟨h1, h2, h3⟩ := aWx h q2
   match c, hc with
   | [v], _ =>
    refine ⟨by simp; omega, by simpa using h2, ?_⟩
    rw [h3]; simp only [Ty.n, Ty.one_n ha]; omega
 | .int _, _, _ + 1, _, _, h, _ | .bool, _, _ + 1, _, _, h, _ | .str, _, _ + 1, _, _, h, _ | .sl _, _, _ + 1, _, _, h, _ | .nil, _, _ + 1, _, _, h, _ => by cases h
theorem aTl {s : TypeId} {ti : TI} {x : Operand} {j : Nat} {p : Nat × Nat} {sv : SV} (hT : TTok P E.tt) (M : Mo C σ ρ pr (fa g a) w) (ho : o.op = .fieldAddr s x j) (ht : E.tt s = some ti) (hk : ti.k = .struct) (hp : aMf ti.fs j = some p) (hp2 : p.2 ≠ 0)
  (h : aHk σ p.1 (σ.ev x) = some sv) : DoneR P C g o a w (σ.setd o.dst sv) := by
 obtain ⟨I⟩ := hT.info ht
 obtain ⟨fs, hd, hsz, hfb, _⟩ := zU I.hd hk
 obtain ⟨fd, i, d, h1, h2, h3, h4, h5⟩ := wD hfb hp
 have hu := I.hu; rw [hd] at hu
 have hfj : fs[j]? = some fd := by simpa using h1
 have hrun : ∀ b ofs, a.eval x = .pointer (some ⟨b, ofs, none⟩) → ∀ u, (execOp a.eval o).run P u = .ok (.value (.pointer (some ⟨b, ofs + p.1, none⟩))) u := by
  intro b ofs hx u
  unfold execOp; simp only [ho, hx]
  refine cZ _ ?_
  simp [Instr.fieldAt, run_underlying hu, hfj, Instr.sureAddr, fieldPlace, Go.sizeOf, typeInfo, h3, h4, hp2, h2, Addr.add_lit]
 have qx := dZ M x
 unfold aHk at h
 split at h
 ·rename_i k ofs e
  rw [e] at qx
  cases h
  obtain ⟨hc, hv⟩ := qx
  simp only [List.cons.injEq, and_true] at hv
  exact DoneR.value (hrun _ _ hv) M ⟨hc, rfl⟩
 ·rename_i k i' ofs e
  rw [e] at qx
  split at h
  ·rename_i e' r xs hk
   cases h
   obtain ⟨hs, v, hv, hx⟩ := qx
   obtain ⟨i0, i1, hy⟩ := hx _ _ _ hk
   simp only [List.cons.injEq, and_true] at hv
   rw [hy] at hv
   refine DoneR.value (hrun _ _ hv) M ⟨hs, _, rfl, fun e2 r2 ys hk2 => ?_⟩
   rw [hk] at hk2; cases hk2
   exact ⟨i0, i1, by rw [Nat.add_assoc]⟩
  cases h
 ·rename_i t y e
  rw [e] at qx
  simp only [Option.bind_eq_some_iff] at h
  obtain ⟨q, hq, h⟩ := h
  cases h
  obtain ⟨b, ofs, cs, hv, hb, hl, hr, hrep⟩ := qx
  simp only [List.cons.injEq, and_true] at hv
  obtain ⟨q1, q2, q3⟩ := aWx hq hrep
  exact DoneR.value (hrun _ _ hv) M ⟨b, ofs + p.1, cs.drop p.1, rfl, hb, by rw [List.length_drop, hl, q3], hr.drop, q2⟩
 cases h
theorem bEc {s : TypeId} {ti : TI} {x : Operand} {j : Nat} {p : Nat × Nat} {c sv : SV} (hT : TTok P E.tt) (M : Mo C σ ρ pr (fa g a) w) (ho : o.op = .field s x j) (ht : E.tt s = some ti) (hk : ti.k = .struct) (hp : aMf ti.fs j = some p) (hx : σ.ev x = .agg c)
  (hpos : 0 < p.2) (h : (c.drop p.1).read (aZn ti.fg j) p.2 = some sv) : DoneR P C g o a w (σ.setd o.dst sv) := by
 obtain ⟨I⟩ := hT.info ht
 obtain ⟨fs, hd, hsz, hfb, hgb⟩ := zU I.hd hk
 obtain ⟨fd, i, d, h1, h2, h3, h4, h5⟩ := wD hfb hp
 have hu := I.hu; rw [hd] at hu
 have hfj : fs[j]? = some fd := by simpa using h1
 have qx := dZ M x
 rw [hx] at qx
 obtain ⟨cs, hv, hone, q⟩ := qx
 simp only [List.cons.injEq, and_true] at hv
 have hle := aF4 h hpos
 have qd := q.drop p.1 hle
 have hagg : ∀ u, (isAgg fd.type).run P u = .ok (aZn ti.fg j) u := by
  intro u
  rw [← aSf hgb h1 h5]
  unfold isAgg
  simp only [Sem.run_bind, run_underlying h5, Result.andThen]
  cases d <;> rfl
 have hrun : ∀ v, (∀ u, (part fd.type cs.toArray p.1).run P u = .ok v u) → ∀ u, (execOp a.eval o).run P u = .ok (.value v) u := by
  intro v hv' u
  unfold execOp; simp only [ho, hv]
  refine cZ _ ?_
  simp only [Instr.field, Sem.run_bind, run_underlying hu, Result.andThen, hfj, asAgg, Sem.run_pure, h2, hv']
 unfold SV.read at h
 cases hg : aZn ti.fg j with
 | true =>
  rw [hg] at h
  simp only at h
  cases hb : Nat.ble p.2 (c.drop p.1).len with
  | false => rw [hb] at h; cases h
  | true =>
   rw [hb] at h; cases h
   obtain ⟨q1, hlen⟩ := qd.take p.2 (Nat.le_of_ble_eq_true hb)
   refine DoneR.value (v := .agg ((cs.drop p.1).take p.2).toArray) (hrun _ fun u => ?_) M ⟨_, rfl, fun v hv => hone v (List.mem_of_mem_drop (List.mem_of_mem_take hv)), q1⟩
   simp only [part, Sem.run_bind, hagg, hg, Result.andThen, if_true, Go.sizeOf, typeInfo, run_program, h3, Sem.run_pure, h4]
   congr 2
   apply Array.ext'
   simp [List.drop_take]
 | false =>
  rw [hg] at h
  simp only at h
  split at h
  ·rename_i u s' hc
   cases h
   rw [hc] at qd
   obtain ⟨v, d', hcs, q1, _⟩ := qd
   have hpart : cs[p.1]? = some v := by
    have := congrArg (fun l => l[0]?) hcs
    simpa [List.getElem?_drop] using this
   refine DoneR.value (v := v) (hrun _ fun u => ?_) M q1
   simp only [part, Sem.run_bind, hagg, hg, Result.andThen, Bool.false_eq_true, if_false]
   simp [hpart]
  ·cases h
theorem aTk {t : TypeId} {ti : TI} {x y : Operand} {k : IntKind} {n : Int} {ok : Bool} {sv : SV} (hT : TTok P E.tt) (M : Mo C σ ρ pr (fa g a) w) (ho : o.op = .indexAddr t x y) (ht : E.tt t = some ti) (hk : ti.k = .slice) (hy : σ.ev y = .val (.int k) n)
  (h : aHi σ ti.er.n n (σ.ev x) = some (ok, sv)) (hok : ok = true) :
  DoneR P C g o a w (σ.setd o.dst sv) := by
 obtain ⟨I⟩ := hT.info ht
 obtain ⟨hd, _, i, z, hi, hn, _, _, _⟩ := kQ I.hd hk
 have hu := I.hu; rw [hd] at hu
 have qy := dZ M y
 rw [hy] at qy
 have hyv := jZ qy
 have hrun : ∀ b ofs len cap, a.eval x = .slice (some ⟨b, ofs, none⟩) len cap → 0 ≤ n → n < (len : Int) → ∀ u, (execOp a.eval o).run P u = .ok (.value (.pointer (some ⟨b, ofs + n.toNat * ti.er.n, none⟩))) u := by
  intro b ofs len cap hx h0 h1 u
  unfold execOp; simp only [ho, hx, hyv]
  refine cZ _ ?_
  simp [Instr.indexAt, run_underlying hu, asIntOf, h0, h1, Go.sizeOf, typeInfo, hi, hn, Addr.add_lit]
 have qx := dZ M x
 have robs : ∀ {r : Ty} {xs : List r.T} {vs : List Value}, Rep w pr (.sl r) xs vs → vs = [a.eval x] → inb n xs.length = true → r.n = ti.er.n → DoneR P C g o a w (σ.setd o.dst (.rop r (iG r xs n))) := by
  intro r xs vs hr hvs hb hrn
  obtain ⟨h0, h1⟩ := aCt hb
  obtain ⟨A, c, e1, _, _, e4⟩ := hr
  rw [e1] at hvs
  simp only [List.cons.injEq, and_true] at hvs
  rcases e4 with e4 | ⟨b, ofs, hA, hpb, hel⟩
  ·omega
  ·obtain ⟨cs, hl, hrd, hrep⟩ := hel n.toNat _ (sF h0 h1)
   refine DoneR.value (hrun b ofs xs.length c (by rw [← hvs, hA]) h0 h1) M ⟨b, ofs + n.toNat * ti.er.n, cs, rfl, by rw [hpb]; rfl, hl, by rw [← hrn]; exact hrd, hrep⟩
 unfold aHi at h
 split at h
 ·rename_i k' e
  split at h
  ·rename_i e' r xs hob
   cases hrn : Nat.beq r.n ti.er.n <;> rw [hrn] at h <;> cases h
   have hrn := Nat.eq_of_beq_eq_true hrn
   obtain ⟨h0, h1⟩ := aCt hok
   rw [e] at qx
   obtain ⟨_, hv⟩ := qx
   simp only [List.cons.injEq, and_true] at hv
   obtain ⟨_, hB, cells, c1, c2, c3⟩ := M.hp k' _ hob
   rcases c1.2 with ⟨_, hn0⟩ | ⟨g, cap, cur, hh, _, hg, hle, hcap, hsz, htake⟩
   ·omega
   refine DoneR.value (hrun g 0 xs.length cap (by rw [hv, hh]) h0 h1) M ⟨by rw [hob]; rfl, _, rfl, fun e2 r2 ys hk2 => ?_⟩
   rw [hob] at hk2; cases hk2
   exact ⟨h0, h1, by rw [hB g (by rw [hh]; rfl), hrn, Nat.zero_add, Nat.add_zero]⟩
  ·rename_i r xs hob
   cases hrn : Nat.beq r.n ti.er.n <;> rw [hrn] at h <;> cases h
   have hrn := Nat.eq_of_beq_eq_true hrn
   rw [e] at qx
   obtain ⟨_, hv⟩ := qx
   exact robs (M.hp k' _ hob) hv.symm hok hrn
  cases h
 ·rename_i r xs e
  cases hrn : Nat.beq r.n ti.er.n <;> rw [hrn] at h <;> cases h
  have hrn := Nat.eq_of_beq_eq_true hrn
  rw [e] at qx
  exact robs qx.2 rfl hok hrn
 cases h
theorem bEa {t : TypeId} {ti : TI} {x y : Operand} {k : IntKind} {n : Int} {s : ByteArray} (hT : TTok P E.tt) (M : Mo C σ ρ pr (fa g a) w) (ho : o.op = .index t x y) (ht : E.tt t = some ti) (hk : ti.k = .str) (hx : σ.ev x = .val .str s) (hy : σ.ev y = .val (.int k) n)
  (hok : inb n s.size = true) : DoneR P C g o a w (σ.setd o.dst (.val (.int .u8) (iH s n))) := by
 obtain ⟨I⟩ := hT.info ht
 have hd := aE4 I.hd hk
 have hu := I.hu; rw [hd] at hu
 have qx := dZ M x
 have qy := dZ M y
 rw [hx] at qx; rw [hy] at qy
 obtain ⟨h0, h1⟩ := aCt hok
 refine DoneR.value (v := .int .u8 (iH s n)) (fun u => ?_) M ⟨rfl, rfl⟩
 unfold execOp; simp only [ho, qJ qx, jZ qy]
 refine cZ _ ?_
 have hi : n.toNat < s.size := by omega
 have hb : s[n.toNat]? = some s[n.toNat] := by simp [hi]
 have hbyte : iH s n = (s[n.toNat].toNat : Int) := by
  unfold iH
  rw [Array.getD_eq_getD_getElem?, Array.getElem?_eq_getElem (by simpa using hi)]
  rfl
 simp only [Instr.index, asIntOf, Sem.run_bind, Sem.run_pure, Result.andThen, run_underlying hu, h0, if_true, hb, hbyte]
theorem aY8 {x : Operand} {n : Nat} {s u v : SV} (M : Mo C σ ρ pr (fa g a) w) (ho : o.op = .extract x n) (hx : σ.ev x = .tup s) (h : s.drop n = .cons v u) : DoneR P C g o a w (σ.setd o.dst v) := by
 have qx := dZ M x
 rw [hx] at qx
 obtain ⟨cs, hv, q⟩ := qx
 simp only [List.cons.injEq, and_true] at hv
 have hle : n ≤ s.len := aE3 n (by rw [h]; simp [SV.len])
 have qd := q.drop n hle
 rw [h] at qd
 obtain ⟨y, d, hcs, q1, _⟩ := qd
 have hn : cs[n]? = some y := by
  have := congrArg (fun l => l[0]?) hcs
  simpa [List.getElem?_drop] using this
 refine DoneR.value (v := y) (fun u => ?_) M q1
 unfold execOp; simp only [ho, hv]
 refine cZ _ ?_
 simp [Instr.extract, hn]
end
end Ab
end
section
namespace Ab
open Go
section
variable {P : Program} {E : Env} {C : Cx} {σ : St} {ρ : Nat → Loc} {pr : dU} {f : Nat → Value} {w : World} {a : Act} {o : Oper} {g : Nat → Value}
theorem Mo.asData {v v' : SV} {σ' : St} {x : Value} (M : Mo C σ ρ pr f w) (h : σ.asData v = (σ', v')) (q : Rp σ.obj ρ w pr v [x]) :
  ∃ pr', Mo C σ' ρ pr' f w ∧ Rp σ'.obj ρ w pr' v' [x] ∧ ∀ u vs, Rp σ.obj ρ w pr u vs → Rp σ'.obj ρ w pr' u vs := by
 cases v with
 | hd k =>
  unfold St.asData at h
  simp only at h
  obtain ⟨_, hv⟩ := q
  split at h
  ·rename_i e r xs hob
   cases h
   obtain ⟨pr', M', hp, hm, hz, _⟩ := M.freeze k
   refine ⟨pr', M', ⟨rfl, ?_⟩, hm⟩
   obtain ⟨_, _, cells, c1, c2, _⟩ := M.hp k _ hob
   rw [hv]
   exact aEf c1 (c2.mono hp) (fun b hb => hz _ _ _ hob b hb)
  ·rename_i r xs hob
   cases h
   exact ⟨pr, M, ⟨rfl, by rw [hv]; exact M.hp k _ hob⟩, fun _ _ q => q⟩
  ·cases h
   rename_i h1 h2
   exact ⟨pr, M, ⟨‹_›, hv⟩, fun _ _ q => q⟩
 | _ => cases h; exact ⟨pr, M, q, fun _ _ q => q⟩
theorem aR6 {lo hi : Int} {n : Nat} (h : eH lo hi n = true) : 0 ≤ lo ∧ lo ≤ hi ∧ hi ≤ (n : Int) := by simpa [eH] using h
theorem bG2 {r : Ty} {xs : List r.T} {A : Option Addr} {c l h : Nat} (hr : Rep w pr (.sl r) xs [.slice A xs.length c]) (hlh : l ≤ h) (hh : h ≤ xs.length) :
  Rep w pr (.sl r) ((xs.drop l).take (h - l)) [.slice (if c = l then A else A.map (·.add (l * r.n))) (h - l) (c - l)] := by
 obtain ⟨A', c', e1, hle, hm, e4⟩ := hr
 simp only [List.cons.injEq, Value.slice.injEq, and_true] at e1
 obtain ⟨rfl, _, rfl⟩ := e1
 have hlen : ((xs.drop l).take (h - l)).length = h - l := by simp; omega
 refine ⟨_, c - l, by rw [hlen], by rw [hlen]; omega, by omega, ?_⟩
 rw [hlen]
 by_cases hz : h - l = 0
 ·exact .inl hz
 refine .inr ?_
 rcases e4 with e4 | ⟨b, ofs, hA, hpb, hel⟩
 ·omega
 refine ⟨b, ofs + l * r.n, ?_, hpb, fun i x hx => ?_⟩
 ·rw [if_neg (by omega), hA]; simp [Addr.add_lit]
 have hx' : xs[l + i]? = some x := by
  rw [List.getElem?_take] at hx
  split at hx
  ·rwa [List.getElem?_drop] at hx
  ·cases hx
 obtain ⟨cs, h1, h2, h3⟩ := hel _ _ hx'
 refine ⟨cs, h1, ?_, h3⟩
 rw [Nat.add_mul] at h2
 rw [Nat.add_assoc]; exact h2
theorem run_sliceBound {k : IntKind} {n : Int} {y : Nat} {code : BoundsCode} (h0 : 0 ≤ n) (h1 : n ≤ (y : Int)) : (Instr.sliceBound (.int k n) y code).run P w = .ok n.toNat w := by
 simp [Instr.sliceBound, asIntOf, h0, h1]
theorem aDc {isS : Bool} {len cap : Nat} {lo hi : Option Value} {l h : Int} (h0 : 0 ≤ l) (h1 : l ≤ h) (h2 : h ≤ (cap : Int)) (hlo : lo = none ∧ l = 0 ∨ ∃ k, lo = some (.int k l)) (hhi : hi = none ∧ h = (len : Int) ∨ ∃ k, hi = some (.int k h)) :
  (Instr.sliceBounds isS len cap lo hi none).run P w = .ok (l.toNat, h.toNat, cap) w := by
 have hle : l ≤ ((h.toNat : Nat) : Int) := by omega
 rcases hlo with ⟨rfl, rfl⟩ | ⟨k, rfl⟩ <;> rcases hhi with ⟨rfl, rfl⟩ | ⟨k', rfl⟩
 ·simp [Instr.sliceBounds]
 ·simp [Instr.sliceBounds, run_sliceBound (by omega : (0 : Int) ≤ h) h2]
 ·have := run_sliceBound (P := P) (w := w) (k := k) (n := l) (y := len) (code := .sliceB) h0 h1
  simp [Instr.sliceBounds, this]
 have := run_sliceBound (P := P) (w := w) (k := k) (n := l) (y := h.toNat) (code := .sliceB) h0 hle
 simp [Instr.sliceBounds, run_sliceBound (by omega : (0 : Int) ≤ h) h2, this]
theorem bFf {x : Option Operand} (M : Mo C σ ρ pr (fa g a) w) : (∀ k n, x.map σ.ev = some (.val (.int k) n) → x.map a.eval = some (.int k n)) ∧ (x.map σ.ev = none → x.map a.eval = none) := by
 cases x with
 | none => exact ⟨fun _ _ h => (by cases h), fun _ => rfl⟩
 | some x =>
  refine ⟨fun k n h => ?_, fun h => (by cases h)⟩
  simp only [Option.map_some, Option.some.injEq] at h ⊢
  have q := dZ M x
  rw [h] at q
  exact jZ q
theorem aMp {x : Option Operand} (M : Mo C σ ρ pr (fa g a) w) {d n : Int} (h : bnd d (x.map σ.ev) = some n) : x.map a.eval = none ∧ n = d ∨ ∃ k, x.map a.eval = some (.int k n) := by
 obtain ⟨h1, h2⟩ := bFf (x := x) M
 cases hx : x.map σ.ev with
 | none => rw [hx] at h; cases h; exact .inl ⟨h2 hx, rfl⟩
 | some v =>
  rw [hx] at h
  cases v with
  | val t m =>
   cases t with
   | int k => cases h; exact .inr ⟨k, h1 k _ hx⟩
   | _ => cases h
  | _ => cases h
theorem bD8 {t : TypeId} {ti : TI} {x : Operand} {lo hi : Option Operand} {ok : Bool} {σ' : St} {v' sv : SV} (hT : TTok P E.tt) (M : Mo C σ ρ pr (fa g a) w) (ho : o.op = .slice t x lo hi none) (ht : E.tt t = some ti)
  (ha : σ.asData (σ.ev x) = (σ', v')) (h : aTa (lo.map σ.ev) (hi.map σ.ev) v' = some (ok, sv)) (hok : ok = true) (hst : sliceT ti v' = true) : DoneR P C g o a w (σ'.setd o.dst sv) := by
 obtain ⟨I⟩ := hT.info ht
 obtain ⟨pr', M', q', _⟩ := M.asData ha (dZ M x)
 cases v' with
 | val ty y =>
  cases ty with
  | str =>
   simp only [aTa, Option.bind_eq_some_iff, Option.some.injEq, Prod.mk.injEq] at h
   obtain ⟨l, hl, u, hu, rfl, rfl⟩ := h
   obtain ⟨h0, h1, h2⟩ := aR6 hok
   have hk : ti.k = .str := by unfold sliceT at hst; cases hk : ti.k <;> rw [hk] at hst <;> first | rfl | cases hst
   have hd := aE4 I.hd hk
   have hun := I.hu; rw [hd] at hun
   refine DoneR.value (v := .string (aHn y l u)) (fun W => ?_) M' ⟨rfl, rfl⟩
   unfold execOp; simp only [ho, qJ q']
   refine cZ _ ?_
   have hb := aDc (P := P) (w := W) (isS := false) (len := y.size) (cap := y.size) h0 h1 h2 (aMp M hl) (aMp M hu)
   simp only [Instr.sliceAt, Sem.run_bind, run_underlying hun, Result.andThen, Instr.slice, Option.map_none, Option.isSome_none, Bool.false_eq_true, if_false, Sem.run_pure, hb, aHn]
  | sl r =>
   simp only [aTa, Option.bind_eq_some_iff, Option.some.injEq, Prod.mk.injEq] at h
   obtain ⟨l, hl, u, hu, rfl, rfl⟩ := h
   obtain ⟨h0, h1, h2⟩ := aR6 hok
   have hkr : ti.k = .slice ∧ r.n = ti.er.n := by
    unfold sliceT at hst
    cases hk : ti.k <;> rw [hk] at hst <;> first | (cases hst; done) | exact ⟨rfl, Nat.eq_of_beq_eq_true hst⟩
   obtain ⟨hd, _, i, z, hi', hn, _, _, _⟩ := kQ I.hd hkr.1
   have hun := I.hu; rw [hd] at hun
   obtain ⟨_, q2⟩ := q'
   have q3 := q2
   obtain ⟨A, c, e1, hle, _, _⟩ := q2
   simp only [List.cons.injEq, and_true] at e1
   rw [e1] at q3
   have hrep := bG2 q3 (l := l.toNat) (h := u.toNat) (by omega) (by omega)
   refine DoneR.value (fun W => ?_) M' ⟨rfl, hrep⟩
   unfold execOp; simp only [ho, e1]
   refine cZ _ ?_
   have hb := aDc (P := P) (w := W) (isS := true) (len := y.length) (cap := c) h0 h1 (by omega) (aMp M hl) (aMp M hu)
   simp only [Instr.sliceAt, Sem.run_bind, run_underlying hun, Result.andThen, Instr.slice, Option.map_none, hb, Go.sizeOf, typeInfo, run_program, hi', Sem.run_pure, hn, hkr.2]
  | _ => cases h
 | _ => cases h
theorem Rows.app {r : Ty} {xs ys : List r.T} {cs ds : List Value} (h : Ab.Rows w pr r xs cs) (k : Ab.Rows w pr r ys ds) (hl : cs.length = xs.length * r.n) : Ab.Rows w pr r (xs ++ ys) (cs ++ ds) := by
 intro i x hx
 rw [List.getElem?_append] at hx
 by_cases hi : i < xs.length
 ·rw [if_pos hi] at hx
  have hfit : i * r.n + r.n ≤ xs.length * r.n := by rw [← Nat.succ_mul]; exact Nat.mul_le_mul_right _ hi
  have := h i x hx
  rw [List.drop_append, List.take_append, List.length_drop, show i * r.n - cs.length = 0 by omega, show r.n - (cs.length - i * r.n) = 0 by omega]
  simpa using this
 rw [if_neg hi] at hx
 have := k _ x hx
 have he : i * r.n - cs.length = (i - xs.length) * r.n := by rw [hl, Nat.sub_mul]
 have hge : cs.length ≤ i * r.n := by rw [hl]; exact Nat.mul_le_mul_right _ (by omega)
 rw [List.drop_append, List.drop_of_length_le hge, List.nil_append, he]
 exact this
theorem aFs {r : Ty} {xs : List r.T} {v : Value} (hr : Rep w pr (.sl r) xs [v]) :
  ∃ A c, v = .slice A xs.length c ∧ (xs.length = 0 ∨ ∃ ad cells, A = some ad ∧ cells.length = xs.length * r.n ∧ (∀ j u, cells[j]? = some u → w.cell? (ad.add j) = some u) ∧ Ab.Rows w pr r xs cells ∧ ∀ u ∈ cells, u.oneCell' = true) := by
 obtain ⟨A, c, e1, _, _, e4⟩ := hr
 simp only [List.cons.injEq, and_true] at e1
 refine ⟨A, c, e1, e4.imp id ?_⟩
 rintro ⟨b, ofs, hA, hpb, hel⟩
 have key : ∀ m, m ≤ xs.length → ∃ cells : List Value, cells.length = m * r.n ∧ Rd w b ofs cells ∧ Ab.Rows w pr r (xs.take m) cells ∧ ∀ u ∈ cells, u.oneCell' = true := by
  intro m
  induction m with
  | zero => exact fun _ => ⟨[], by simp, fun j v hj => by simp at hj, fun i x hx => by simp at hx, by simp⟩
  | succ m ih =>
   intro hm
   obtain ⟨cells, h1, h2, h3, h4⟩ := ih (by omega)
   have hx : xs[m]? = some xs[m] := List.getElem?_eq_getElem (by omega)
   obtain ⟨cs, k1, k2, k3⟩ := hel m _ hx
   refine ⟨cells ++ cs, by rw [List.length_append, h1, k1, Nat.succ_mul], fun j v hj => ?_, ?_, ?_⟩
   ·rw [List.getElem?_append] at hj
    split at hj
    ·exact h2 j v hj
    ·rename_i hge
     have := k2 _ _ hj
     rw [h1] at hge this
     rwa [show ofs + m * r.n + (j - m * r.n) = ofs + j by omega] at this
   ·rw [List.take_succ_eq_append_getElem (by omega)]
    refine Rows.app h3 ?_ (by rw [h1, List.length_take, Nat.min_eq_left (by omega)])
    intro i x hxi
    cases i with
    | zero => simp at hxi; subst hxi; rw [Nat.zero_mul, List.drop_zero, List.take_of_length_le (by omega)]; exact k3
    | succ i => simp at hxi
   ·intro u hu
    rcases List.mem_append.1 hu with hu | hu
    ·exact h4 u hu
    ·exact k3.oneCell u hu
 obtain ⟨cells, h1, h2, h3, h4⟩ := key xs.length (Nat.le_refl _)
 refine ⟨_, cells, hA, h1, fun j u hj => by rw [Addr.add_lit]; exact h2 j u hj, ?_, h4⟩
 rwa [List.take_of_length_le (Nat.le_refl _)] at h3
def HC (w : World) (pr : dU) (r : Ty) (xs : List r.T) (v : Value) : Prop :=
 ∃ A c, v = .slice A xs.length c ∧ (xs.length = 0 ∨ ∃ ad cells, A = some ad ∧ cells.length = xs.length * r.n ∧ (∀ j u, cells[j]? = some u → w.cell? (ad.add j) = some u) ∧ Ab.Rows w pr r xs cells ∧ ∀ u ∈ cells, u.oneCell' = true)
theorem bAe {v : SV} {r : Ty} {ys : List r.T} {x : Value} (M : Mo C σ ρ pr f w) (h : SV.list σ r v = some ys) (q : Rp σ.obj ρ w pr v [x]) : HC w pr r ys x := by
 unfold SV.list at h
 simp only [Option.map_eq_some_iff] at h
 obtain ⟨p, hp, rfl⟩ := h
 cases v with
 | val t' y =>
  simp only [SV.data, Option.bind_eq_some_iff] at hp
  obtain ⟨z, h1, h2⟩ := hp
  cases h2
  exact aFs (aBd h1 q.2)
 | nsl =>
  cases hp
  have : [x] = [.slice none 0 0] := q
  simp only [List.cons.injEq, and_true] at this
  exact ⟨none, 0, this, .inl rfl⟩
 | hd k =>
  simp only [SV.data, Option.bind_eq_some_iff] at hp
  obtain ⟨xs, h1, h2⟩ := hp
  cases h2
  obtain ⟨⟨ob, hob, hnv⟩, hv⟩ := q
  simp only [List.cons.injEq, and_true] at hv
  unfold St.rows at h1
  rw [hob] at h1
  cases ob with
  | var cs => cases hnv
  | map _ _ _ => cases hnv
  | chunk e r' ys =>
   obtain ⟨_, _, cells, c1, c2, c3⟩ := M.hp k _ hob
   obtain ⟨e', hxs⟩ := aF9 h1
   subst e'
   subst hxs
   rcases c1.2 with ⟨hh, hn⟩ | ⟨g, cap, cur, hh, _⟩
   ·exact ⟨none, 0, by rw [hv, hh, hn], .inl hn⟩
   ·exact ⟨some ⟨g, 0, none⟩, cap, by rw [hv, hh], .inr ⟨_, cells, rfl, c1.1, fun j u hj => c1.cells (g := g) (by rw [hh]; rfl) j u hj, c2, c3⟩⟩
  | ro r' ys =>
   rw [hv]
   exact aFs (aBd h1 (M.hp k _ hob))
 | _ => cases hp
theorem aHq {t e : Nat} {ti : TI} (I : aDh P t ti) (hk : ti.k = .slice) (hel : ti.el = e) {v s : Value} {n : Nat} {cells : List Value} (hown : w.ownsRow 0 e ti.er.n v n cells) {ys : List ti.er.T} (hs : HC w pr ti.er ys s)
  (hfit : fits (n + ys.length) ti.eb = true) {ty : TypeId} :
  ∃ v' w' news, (Builtin.append_ #[t, t] ty #[v, s]).run P w = .ok v' w' ∧ w'.ownsRow 0 e ti.er.n v' (n + ys.length) (cells ++ news) ∧ w.grownBy w' v.ownBlock ∧ Ab.Rows w pr ti.er ys news ∧ (∀ u ∈ news, u.oneCell' = true) ∧
   ∀ b, v'.ownBlock = some b → v.ownBlock = some b ∨ w.heap.size ≤ b := by
 obtain ⟨hd, hpos, i, z, hi, hn, hby, hz, hzc⟩ := kQ I.hd hk
 have hu := I.hu; rw [hd, hel] at hu
 rw [hel] at hi
 obtain ⟨A, c, rfl, hc⟩ := hs
 simp only [fits, decide_eq_true_eq] at hfit
 by_cases h0 : ys.length = 0
 ·have hnil : ys = [] := List.eq_nil_of_length_eq_zero h0
  subst hnil
  have hx : (Builtin.append_ #[t, t] ty #[v, .slice A 0 c]).run P w = .ok v w := by
   have hf0 : ∀ A' : Option Addr, (Builtin.firstCells i.size 0 (.slice A' 0 c)).run P w = .ok #[] w := by
    intro A'
    cases A' <;> simp [Builtin.firstCells, loadCells, loadCellsFrom]
   rcases hown.2 with ⟨rfl, rfl⟩ | ⟨g, cap, cur, rfl, _, _, hnc, _⟩
   ·simp [Builtin.append_, run_underlying hu, Go.sizeOf, typeInfo, hi, Builtin.lenOf, hf0]
   ·simp [Builtin.append_, run_underlying hu, Go.sizeOf, typeInfo, hi, Builtin.lenOf, hf0, hnc, storeCells]
  exact ⟨v, w, [], hx, by simpa using hown, ⟨rfl, rfl, rfl, Nat.le_refl _, fun _ _ _ => rfl⟩, fun i x hx => by simp at hx, by simp, fun b hb => .inl hb⟩
 rcases hc with hc | ⟨ad, news, rfl, hl, hnews, hrows, h1⟩
 ·exact absurd hc h0
 obtain ⟨v', w', hr, h2, h3, _⟩ := run_append_own (P := P) w 0 t ty e i z ti.er.n ti.eb hu hi hz hn hby (by have := congrArg List.length hzc; simp at this; rw [this]; exact (Rep.z w pr ti.er).len) hpos
  v n cells hown ad ys.length c news hl hnews h1 (by simp only [maxLen]; omega) hfit.1 (Nat.zero_le _)
 refine ⟨v', w', news, hr, h2, h3, hrows, h1, fun b hb => ?_⟩
 rcases hown.2 with ⟨rfl, rfl⟩ | ⟨g, cap, cur, rfl, _, hg, hnc, hcm, hcs, htake⟩
 ·have hr2 := run_append_nil (P := P) w t ty e i z hu hi hz ad ys.length c news (by rw [hn]; exact hl) hnews (by omega) (by omega) (by rw [hby]; have := hfit.1; simp only [Nat.zero_add] at this; omega)
  rw [hr] at hr2
  simp only [Result.ok.injEq] at hr2
  rw [hr2.1] at hb
  simp only [Value.ownBlock, Option.some.injEq] at hb
  exact .inr (by omega)
 by_cases hroom : n + ys.length ≤ cap
 ·obtain ⟨w2, hr2, _⟩ := run_append_fits (P := P) w 0 t ty e i ti.er.n hu hi hn g n cap cells hown ad ys.length c news hl hnews h1 hroom
  rw [hr] at hr2
  simp only [Result.ok.injEq] at hr2
  rw [hr2.1] at hb
  exact .inl hb
 have hr2 := run_append_grow (P := P) w t ty e i z hu hi hz ⟨g, 0, none⟩ n cap cells (by rw [hn]; exact hown.1) (hown.cells (g := g) rfl) ad ys.length c news (by rw [hn]; exact hl) hnews (by omega) (by omega) (growslice_fits (by omega) (by rw [hby]; exact hfit.1))
 rw [hr] at hr2
 simp only [Result.ok.injEq] at hr2
 rw [hr2.1] at hb
 simp only [Value.ownBlock, Option.some.injEq] at hb
 exact .inr (by omega)
end
end Ab
end
section
namespace Ab
open Go
section
variable {P : Program} {E : Env} {C : Cx} {σ : St} {ρ : Nat → Loc} {pr : dU} {f : Nat → Value} {w : World} {a : Act} {o : Oper} {g : Nat → Value}
theorem aJe {b : Builtin} {as : Array Operand} {ts : Array TypeId} (ho : o.op = .call { callee := .builtin b, args := as, argTypes := ts }) :
  execOp a.eval o = builtin b ts o.type (as.map fun | .const _ => true | _ => false) (as.map a.eval) := by
 unfold execOp
 simp only [ho, resolve, invoke]
 rfl
theorem bHt {t : TypeId} {ti : TI} {x : Operand} {as : Array Operand} {ts : Array TypeId} {sv : SV} (hT : TTok P E.tt) (M : Mo C σ ρ pr (fa g a) w) (ho : o.op = .call { callee := .builtin .len, args := as, argTypes := ts }) (has : as.toList = [x]) (hts : ts.toList = [t])
  (ht : E.tt t = some ti) (hlt : bH1 ti.k (σ.ev x) = true) (h : bH0 σ (σ.ev x) = some sv) : DoneR P C g o a w (σ.setd o.dst sv) := by
 obtain ⟨I⟩ := hT.info ht
 have hx : ∀ s, σ.ev x = .val .str s → ti.k = .str := fun s e => by rw [e] at hlt; cases hk : ti.k <;> rw [hk] at hlt <;> first | rfl | cases hlt
 have hx2 : (∀ s, σ.ev x ≠ .val .str s) → ti.k = .slice := fun hn => by
  cases hk : ti.k <;> rw [hk] at hlt <;> first | rfl | (cases hlt; done) | skip
  all_goals (cases he : σ.ev x <;> rw [he] at hlt <;> first | (cases hlt; done) | skip)
  rename_i ty y
  cases ty <;> first | (cases hlt; done) | exact absurd he (hn y)
 have has : as = #[x] := by apply Array.ext'; simpa using has
 have hts : ts = #[t] := by apply Array.ext'; simpa using hts
 subst has; subst hts
 have qx := dZ M x
 have hrun : ∀ v, (∀ u, (Builtin.len_ #[t] o.type #[a.eval x]).run P u = .ok v u) → ∀ u, (execOp a.eval o).run P u = .ok (.value v) u := by
  intro v hv u
  rw [aJe ho]
  exact cZ _ (by simpa using hv u)
 have slc : ∀ A n c, ti.k = .slice → a.eval x = .slice A n c → ∀ u, (Builtin.len_ #[t] o.type #[a.eval x]).run P u = .ok (.int .i64 (n : Int)) u := by
  intro A n c hs hv u
  obtain ⟨hd, _⟩ := kQ I.hd hs
  have hun := I.hu; rw [hd] at hun
  simp [Builtin.len_, hv, run_underlying hun, goInt]
 unfold bH0 at h
 split at h
 ·rename_i s e
  cases h
  have hd := aE4 I.hd (hx s e)
  have hun := I.hu; rw [hd] at hun
  rw [e] at qx
  refine DoneR.value (hrun (.int .i64 (s.size : Int)) fun u => ?_) M ⟨rfl, rfl⟩
  simp [Builtin.len_, qJ qx, run_underlying hun, goInt]
 ·rename_i r xs e
  cases h
  have hs := hx2 (fun s => by rw [e]; exact fun h => by cases h)
  rw [e] at qx
  obtain ⟨A, c, hv, _⟩ := qx.2
  simp only [List.cons.injEq, and_true] at hv
  exact DoneR.value (hrun _ (slc _ _ _ hs hv)) M ⟨rfl, rfl⟩
 ·rename_i k e
  have hs := hx2 (fun s => by rw [e]; exact fun h => by cases h)
  rw [e] at qx
  obtain ⟨_, hv⟩ := qx
  simp only [List.cons.injEq, and_true] at hv
  split at h
  ·rename_i e' r xs hob
   cases h
   obtain ⟨_, _, cells, c1, _⟩ := M.hp k _ hob
   rcases c1.2 with ⟨hh, hn⟩ | ⟨g, cap, cur, hh, _⟩
   ·rw [hh] at hv
    refine DoneR.value (hrun _ (slc _ _ _ hs hv)) M ⟨rfl, ?_⟩
    rw [hn]; rfl
   rw [hh] at hv
   exact DoneR.value (hrun _ (slc _ _ _ hs hv)) M ⟨rfl, rfl⟩
  ·rename_i r xs hob
   cases h
   obtain ⟨A, c, h1, _⟩ := M.hp k _ hob
   simp only [List.cons.injEq, and_true] at h1
   rw [h1] at hv
   exact DoneR.value (hrun _ (slc _ _ _ hs hv)) M ⟨rfl, rfl⟩
  cases h
 cases h
theorem bBt {t : TypeId} {ti : TI} {s x : Operand} {as : Array Operand} {ts : Array TypeId} {ok : Bool} {σ' : St} (hT : TTok P E.tt) (M : Mo C σ ρ pr (fa g a) w) (ho : o.op = .call { callee := .builtin .append, args := as, argTypes := ts }) (has : as.toList = [s, x]) (hts : ts.toList = [t, t])
  (ht : E.tt t = some ti) (hk : ti.k = .slice) (h : aJm σ o.dst ti (σ.ev s) (σ.ev x) = .one ok σ') (hok : ok = true) : Done P C g o a σ ρ w (wr o σ) σ' := by
 obtain ⟨I⟩ := hT.info ht
 have has : as = #[s, x] := by apply Array.ext'; simpa using has
 have hts : ts = #[t, t] := by apply Array.ext'; simpa using hts
 subst has; subst hts
 have hpos := (kQ I.hd hk).2.1
 have hwr : wr o σ = match σ.ev s with | .hd k => [k] | _ => [] := by unfold wr; rw [ho]; rfl
 have qs := dZ M s
 have qx := dZ M x
 have hrun : ∀ v w', (Builtin.append_ #[t, t] o.type #[a.eval s, a.eval x]).run P w = .ok v w' → (execOp a.eval o).run P w = .ok (.value v) w' := by
  intro v w' hv
  rw [aJe ho]
  exact cZ _ (by simpa using hv)
 unfold aJm at h
 split at h
 ·cases h
 rename_i ys hys
 have hrep := bAe M hys qx
 split at h
 ·rename_i k e
  rw [e] at qs hwr
  simp only at hwr
  obtain ⟨_, hv⟩ := qs
  simp only [List.cons.injEq, and_true] at hv
  split at h
  ·rename_i e' r xs hob
   cases hc : (Nat.beq e' ti.el && r.eq ti.er) with
   | false => rw [hc] at h; cases h
   | true =>
    rw [hc] at h
    simp only [Bool.and_eq_true] at hc
    have he := Nat.eq_of_beq_eq_true hc.1
    have hr := Ty.eq_eq hc.2
    clear hc
    simp only [cond_true] at h
    split at h
    ·rename_i zs hcast
     obtain ⟨_, hzs⟩ := aF9 hcast
     cases h
     obtain ⟨hr0, hB, cells, c1, c2, c3⟩ := M.hp k _ hob
     subst he
     have key : ∀ {r : Ty} (er : r = ti.er) (xs : List r.T) (zs : List ti.er.T), zs = er ▸ xs → w.ownsRow 0 ti.el r.n (ρ k).hdr xs.length cells → Ab.Rows w pr r xs cells →
       w.ownsRow 0 ti.el ti.er.n (ρ k).hdr zs.length cells ∧ Ab.Rows w pr ti.er zs cells := by
      intro r er xs zs hz h1 h2; subst er; subst hz; exact ⟨h1, h2⟩
     obtain ⟨c1, c2⟩ := key hr xs zs hzs c1 c2
     obtain ⟨v', w', news, hr1, o1, g1, r1, n1, hlt⟩ := aHq I hk rfl c1 hrep hok (ty := o.type)
     rw [← hv] at hr1
     have hh : own σ.obj ρ k = (ρ k).hdr.ownBlock := by simp [own, hob]
     have hp : PrLe w pr w' pr := fun b t hb => ⟨hb, g1.block b (M.prot b t hb).1 (by rw [← hh]; exact fun h => (M.prot b t hb).2 k h.symm)⟩
     have hobj : ((σ.stale k).put k (.chunk ti.el ti.er (zs ++ ys))).obj k = some (.chunk ti.el ti.er (zs ++ ys)) := by rw [St.obj_put, if_pos rfl]
     have := M.repl (o' := .chunk ti.el ti.er (zs ++ ys)) (ρ' := fun j => if j = k then ⟨v', match v'.ownBlock with | some b => b | none => 0⟩ else ρ j) hob (fun j e => by simp [e]) g1.os g1.tape g1.output g1.size
      (fun b hb hne => g1.block b hb (by rw [← hh]; exact fun h => hne h.symm))
      ⟨hpos, by simp only [if_true]; intro b hb; rw [hb], cells ++ news, by simpa using o1, Rows.app (c2.mono hp) (r1.mono hp) c1.1, fun u hu => by
       rcases List.mem_append.1 hu with hu | hu
       ·exact c3 u hu
       ·exact n1 u hu⟩
      (fun b hb => by simp [own, hobj] at hb; rw [hh]; exact hlt b hb)
     refine ⟨_, v', w', _, pr, hrun _ _ hr1, .inl rfl, this.1.setd o.dst (.hd k) v' ⟨⟨_, hobj, rfl⟩, by simp⟩, fun b hb hne => g1.block b hb (by rw [← hh]; exact fun h => hne k (by rw [hwr]; simp) h.symm)⟩
    ·cases h
  cases h
 ·rename_i e
  rw [e] at qs
  cases hfree : σ.free (tok o.dst) with
  | false => rw [hfree] at h; cases h
  | true =>
   rw [hfree] at h
   cases h
   have hv : a.eval s = .slice none 0 0 := by
    have : [a.eval s] = [.slice none 0 0] := qs
    simpa using this
   obtain ⟨v', w', news, hr1, o1, g1, r1, n1, hlt0⟩ := aHq I hk rfl (World.ownsRow_nil w 0 ti.el ti.er.n) hrep hok (ty := o.type)
   rw [← hv] at hr1
   have hbel : RowKit.Below w.heap.size w w' := ⟨g1.os, g1.tape, g1.output, g1.size, fun b hb => g1.block b hb (by simp [Value.ownBlock])⟩
   have hobj : (σ.put (tok o.dst) (.chunk ti.el ti.er ys)).obj (tok o.dst) = some (.chunk ti.el ti.er ys) := by rw [St.obj_put, if_pos rfl]
   have hp : PrLe w pr w' pr := fun b t hb => ⟨hb, hbel.block b (M.prot b t hb).1⟩
   have hlt : ∀ b, v'.ownBlock = some b → w.heap.size ≤ b := fun b hb => (hlt0 b hb).resolve_left (by simp [Value.ownBlock])
   have := M.add (o := .chunk ti.el ti.er ys) (ρ' := fun j => if j = tok o.dst then ⟨v', match v'.ownBlock with | some b => b | none => 0⟩ else ρ j) (free_spec hfree) (fun j e => by simp [e]) hbel
    (fun _ => ⟨hpos, by simp only [if_true]; intro b hb; rw [hb], news, by simpa using o1, r1.mono hp, n1⟩)
    (fun b hb => by simp [own, hobj] at hb; exact hlt b hb)
   exact ⟨_, v', w', _, pr, hrun _ _ hr1, .inl rfl, this.1.setd o.dst _ v' ⟨⟨_, hobj, rfl⟩, by simp⟩, fun b hb _ => hbel.block b hb⟩
 cases h
end
end Ab
end
section
namespace Ab
open Go
section
variable {P : Program} {E : Env} {C : Cx} {σ : St} {ρ : Nat → Loc} {pr : dU} {f : Nat → Value} {w : World} {a : Act} {o : Oper} {g : Nat → Value}
theorem aWz (ofs : Nat) : ∀ (us : List Value) (k : Nat) (cs : Array Value), ofs + k + us.length ≤ cs.size →
  ((us.zipIdx k).foldl (fun cs p => cs.setIfInBounds (ofs + p.2) p.1) cs).toList = cs.toList.take (ofs + k) ++ us ++ cs.toList.drop (ofs + k + us.length)
 | [], k, cs, _ => by simp
 | u :: us, k, cs, h => by
  simp only [List.length_cons] at h
  simp only [List.zipIdx_cons, List.foldl_cons]
  rw [aWz ofs us (k + 1) _ (by simp; omega)]
  simp only [Array.toList_setIfInBounds, List.length_cons]
  apply List.ext_getElem?
  intro j
  simp only [List.getElem?_append, List.getElem?_take, List.getElem?_drop, List.length_append, List.length_take, List.length_set, List.getElem?_set, Array.length_toList, List.length_cons]
  by_cases h1 : j < ofs + k
  ·rw [if_pos (by omega), if_pos (by omega), if_pos (by omega), if_neg (by omega), if_pos (by omega), if_pos (by omega), if_pos (by omega)]
  by_cases h2 : j = ofs + k
  ·subst h2
   rw [if_pos (by omega), if_pos (by omega), if_pos (by omega), if_pos rfl, if_pos (by omega), if_pos (by omega), if_neg (by omega)]
   simp [show ofs + k - min (ofs + k) cs.size = 0 by omega]
  by_cases h3 : j < ofs + k + 1 + us.length
  ·rw [if_pos (by omega), if_neg (by omega), if_pos (by omega), if_neg (by omega)]
   rw [show j - min (ofs + k) cs.size = (j - min (ofs + (k + 1)) cs.size) + 1 by omega]
   simp
  rw [if_neg (by omega), if_neg (by omega), if_neg (by omega)]
  congr 1; omega
theorem bE4 (ofs : Nat) (us cs : Array Value) (h : ofs + us.size ≤ cs.size) :
  (us.zipIdx.foldl (fun cs p => cs.setIfInBounds (ofs + p.2) p.1) cs).toList = cs.toList.take ofs ++ us.toList ++ cs.toList.drop (ofs + us.toList.length) := by
 rw [← Array.foldl_toList, Array.toList_zipIdx]
 have := aWz ofs us.toList 0 cs (by simpa using h)
 simpa using this
theorem aRz {place : Nat → Option (Nat × Nat)} {cells cs' : Array Value} {i ofs n : Nat} {v : Value} {rest : List (Nat × Value)} (hp : place i = some (ofs, n)) (hn : v.cells.size = n) (hf : ofs + n ≤ cells.size)
  (he : cs' = (cells.toList.take ofs ++ v.cells.toList ++ cells.toList.drop (ofs + v.cells.toList.length)).toArray) :
  Instr.fill place cells ((i, v) :: rest) = Instr.fill place cs' rest := by
 have : v.cells.zipIdx.foldl (fun cs p => cs.setIfInBounds (ofs + p.2) p.1) cells = cs' := by
  rw [he]
  apply Array.ext'
  rw [bE4 ofs v.cells cells (by omega)]
 rw [← this]
 conv => lhs; rw [Instr.fill]
 rw [hp]
 simp only [hn, ne_eq, not_true_eq_false, decide_false, Bool.false_or]
 rw [if_neg (by simp; omega)]
theorem bHy {l : List (Nat × Nat)} {i : Nat} : aMf l i = l[i]? := by
 induction l generalizing i with
 | nil => cases i <;> rfl
 | cons p l ih => cases i with
  | zero => rfl
  | succ i => simpa [aMf] using ih
theorem bAi {h : Hp} {place : Nat → Option (Nat × Nat)} (ho : ∀ k o, σ.obj k = some o → RO σ.obj ρ w pr k o) (hh : h = σ.obj) : ∀ {l : List (Nat × SV)} {m : List (Nat × Value)} {cells s : SV} {cs : Array Value},
  aW1 place cells l = some s → Rp h ρ w pr cells cs.toList → (∀ u ∈ cs.toList, u.oneCell' = true) → l.length = m.length → (∀ (j : Nat) (p : Nat × SV) (q : Nat × Value), l[j]? = some p → m[j]? = some q → p.1 = q.1 ∧ Rp h ρ w pr p.2 [q.2]) →
  ∃ out, Instr.fill place cs m = some out ∧ Rp h ρ w pr s out.toList ∧ ∀ u ∈ out.toList, u.oneCell' = true
 | [], [], cells, s, cs, hf, q, h1, _, _ => by cases hf; exact ⟨cs, rfl, q, h1⟩
 | (i, v) :: l, (i', x) :: m, cells, s, cs, hf, q, h1, hl, hc => by
  obtain ⟨e, qv⟩ := hc 0 _ _ rfl rfl
  simp only at e qv
  subst e
  unfold aW1 at hf
  split at hf
  ·rename_i ofs n hp
   split at hf
   ·rename_i c hcv
    cases hcond : (c.lst && Nat.beq c.len n && Nat.ble (ofs + n) cells.len) with
    | false => rw [hcond] at hf; cases hf
    | true =>
     rw [hcond] at hf
     simp only [cond_true] at hf
     simp only [Bool.and_eq_true] at hcond
     have hcl := Nat.eq_of_beq_eq_true hcond.1.2
     have hle := Nat.le_of_ble_eq_true hcond.2
     subst hh
     obtain ⟨qc, o1⟩ := aBc ho hcv qv
     have hlen := Rp.llen hcond.1.1 qc
     have hsz : cells.len ≤ cs.size := by have := (Rp.take cells.len q (Nat.le_refl _)).2; simpa using this
     have hxs : x.cells.size = n := by rw [← hcl, ← hlen]; simp
     rw [aRz hp hxs (by omega) rfl]
     have hov := Rp.over ofs q qc hcond.1.1 (by rw [hcl]; exact hle)
     refine bAi ho rfl hf (by simpa using hov) ?_ (by simpa using hl) (fun j p q hp hq => hc (j + 1) p q (by simpa using hp) (by simpa using hq))
     intro u hu
     simp only [List.toList_toArray, List.mem_append] at hu
     rcases hu with (hu | hu) | hu
     ·exact h1 u (List.mem_of_mem_take hu)
     ·exact o1 u hu
     ·exact h1 u (List.mem_of_mem_drop hu)
   ·cases hf
  ·cases hf
 | [], _ :: _, _, _, _, _, _, _, hl, _ => by simp at hl
 | _ :: _, [], _, _, _, _, _, _, hl, _ => by simp at hl
theorem aE1 {P : Program} : ∀ {l : List Field} {m : List (Nat × Nat)}, descB.fieldsB P l m = true → l.mapM (fun f => (P.info? f.type).map fun i => (f.offset, i.size)) = some m
 | [], [], _ => rfl
 | f :: l, p :: m, h => by
  simp only [descB.fieldsB, Bool.and_eq_true] at h
  obtain ⟨⟨h1, h2⟩, h3⟩ := h
  split at h2
  ·rename_i i hi
   simp only [Bool.and_eq_true] at h2
   simp [List.mapM_cons, hi, aE1 h3, Nat.eq_of_beq_eq_true h1, Nat.eq_of_beq_eq_true h2.1]
  ·cases h2
 | [], _ :: _, h => by cases h
 | _ :: _, [], h => by cases h
theorem bEe {t : TypeId} {ti : TI} {parts : Array (Nat × Operand)} {cs s' : SV} {σ' : St} {k : Nat} (hT : TTok P E.tt) (M : Mo C σ ρ pr (fa g a) w) (ho : o.op = .build t parts) (ht : E.tt t = some ti) (hk : ti.k = .struct)
  (hf : aW1 (aMf ti.fs) (aDm ti.z) (parts.toList.map fun p => (p.1, σ.ev p.2)) = some cs) (hm : pI k ti.z cs σ = some (σ', s')) : DoneR P C g o a w (σ'.setd o.dst (.agg s')) := by
 obtain ⟨I⟩ := hT.info ht
 obtain ⟨fs, hd, hsz, hfb, _⟩ := zU I.hd hk
 have hu := I.hu; rw [hd] at hu
 obtain ⟨out, h1, h2, h3⟩ := bAi (m := parts.toList.map fun p => (p.1, a.eval p.2)) M.hp rfl hf (aAl σ.obj I.hc) (aE6 I.hc) (by simp) (fun j p q hp hq => by
  simp only [List.getElem?_map, Option.map_eq_some_iff] at hp hq
  obtain ⟨p', hp', rfl⟩ := hp
  obtain ⟨q', hq', rfl⟩ := hq
  rw [hp'] at hq'; cases hq'
  exact ⟨rfl, dZ M _⟩)
 obtain ⟨ρ', M', q', _⟩ := Mo.mkC ti.z M hm h2
 refine DoneR.value (v := .agg out) (fun W => ?_) M' ⟨out.toList, by simp, h3, q'⟩
 unfold execOp; simp only [ho]
 refine cZ _ ?_
 refine run_build W t _ out ?_
 unfold Program.built
 simp only [I.hi, hu, I.hz, aE1 hfb]
 rw [← h1]
 have : (parts.map fun x => (x.1, a.eval x.2)).toList = parts.toList.map fun p => (p.1, a.eval p.2) := by simp
 rw [show (parts.map fun (i, x) => (i, a.eval x)).toList = parts.toList.map fun p => (p.1, a.eval p.2) from this]
 congr 1
 funext i
 rw [bHy]; simp
end
end Ab
end
