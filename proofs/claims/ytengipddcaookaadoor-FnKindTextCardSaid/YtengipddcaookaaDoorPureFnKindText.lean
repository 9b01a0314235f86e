/- Proved here: the pure form of the law FnKindText (kinds are read back) returns true for all arguments; conditions: none beyond those that the printed statement bears. -/
import Derived.Test.YtengipddcaookaaDoorPFnKindTextx18
import Derived.Test.YtengipddcaookaaDoorVFnKindTextZbt
-- dense
namespace Go.Proofs.YtengipddcaookaaDoor.Pure
open Go.RowKit Go.Proofs.YtengipddcaookaaDoor.X Go.Proofs.YtengipddcaookaaDoor.PFnKindText Go.Proofs.YtengipddcaookaaDoorW.PrintWords Go.Proofs.YtengipddcaookaaDoorW.PrintLast Go.Proofs.YtengipddcaookaaDoor.Z
set_option linter.unusedVariables false
set_option linter.unusedSimpArgs false

theorem run_unit {α R : Type} (fin : Unit → R) (r : List α) : run (fun (_ : Unit) (_ : α) => (.inr () : R ⊕ Unit)) fin r () = fin () := by
 induction r with
 | nil => rfl
 | cons c r ih => unfold run; exact ih

/-! Kinds: pairs of texts. -/
def e76 (p : Str × Str) : S29 := ⟨ofL p.1, ofL p.2⟩
def szp : List (Str × Str) → Nat
 | [] => 0
 | c :: r => c.1.length + c.2.length + szp r
theorem szp_mem {a : List (Str × Str)} {c : Str × Str} (h : c ∈ a) : c.1.length + c.2.length ≤ szp a := by
 induction a with
 | nil => cases h
 | cons d a ih =>
  simp only [szp]
  rcases List.mem_cons.mp h with rfl | h
  ·
   omega
  ·
   have := ih h; omega
theorem rd76_mid {ls p r : List (Str × Str)} {c : Str × Str} (h : ls = p ++ c :: r) : rd_T29 (ls.map e76) (p.length : Int) = e76 c := by
 unfold rd_T29
 rw [List.getD_eq_getElem?_getD, h]
 simp

/-! Letters and digits, boundaries: the model. -/
def letB (c : UInt8) : Bool := decide (97 ≤ (c.toNat : Int) ∧ (c.toNat : Int) ≤ 122) || decide (65 ≤ (c.toNat : Int) ∧ (c.toNat : Int) ≤ 90)
def digB (c : UInt8) : Bool := decide (48 ≤ (c.toNat : Int) ∧ (c.toNat : Int) ≤ 57)
def alnB (c : UInt8) : Bool := letB c || digB c
def isBd (l : Str) : Bool := decide (1 ≤ l.length) && decide (l.length ≤ 20) && l.all alnB
theorem isBd_len {l : Str} (h : isBd l = true) : l.length ≤ 20 := by
 unfold isBd at h; simp at h; exact h.1.2

theorem impl_isLetter_eq (c : UInt8) : impl_isLetter.f (c.toNat : Int) = some (letB c) := by
 unfold impl_isLetter.f letB
 by_cases h1 : 97 ≤ (c.toNat : Int) <;> by_cases h2 : (c.toNat : Int) ≤ 122 <;> by_cases h3 : 65 ≤ (c.toNat : Int) <;> by_cases h4 : (c.toNat : Int) ≤ 90 <;> simp [h1, h2, h3, h4]

theorem impl_isDigit_eq (c : UInt8) : impl_isDigit.f (c.toNat : Int) = some (digB c) := by
 unfold impl_isDigit.f digB
 by_cases h1 : 48 ≤ (c.toNat : Int) <;> by_cases h2 : (c.toNat : Int) ≤ 57 <;> simp [h1, h2]

theorem spec_l1Letter_eq (c : UInt8) : spec_l1Letter.f (c.toNat : Int) = some (alnB c) := by
 unfold spec_l1Letter.f alnB letB digB
 by_cases h1 : 97 ≤ (c.toNat : Int) <;> by_cases h2 : (c.toNat : Int) ≤ 122 <;> by_cases h3 : 65 ≤ (c.toNat : Int) <;> by_cases h4 : (c.toNat : Int) ≤ 90 <;> by_cases h5 : 48 ≤ (c.toNat : Int) <;> by_cases h6 : (c.toNat : Int) ≤ 57 <;> simp [h1, h2, h3, h4, h5, h6]

/-! Atoms: the model. -/
def atList : Str := [33, 35, 36, 37, 38, 39, 42, 43, 45, 47, 61, 63, 94, 95, 96, 123, 124, 125, 126]
def atB (c : UInt8) : Bool := alnB c || decide (c ∈ atList)
def atomV (l : Str) : Bool := decide (1 ≤ l.length) && decide (l.length ≤ 40) && l.all atB
theorem u8_all {p : UInt8 → Prop} (h : ∀ n : Nat, n < 256 → p (UInt8.ofNat n)) (c : UInt8) : p c := by
 have := h c.toNat c.toNat_lt
 rwa [UInt8.ofNat_toNat] at this
theorem impl_isAtomByte_eq (c : UInt8) : impl_isAtomByte.f (c.toNat : Int) = some (atB c) := by
 revert c
 exact u8_all (by decide +kernel)

theorem impl_allBytes_isAtomByte_ev (l : Str) (hl : l.length ≤ 1000000000000000) : Ev (fun k => impl_allBytes_isAtomByte.f k (ofL l)) (l.all atB) := by
 unfold impl_allBytes_isAtomByte.f
 rw [size_ofL]
 refine ev_eq (run_start (xs := l) (F := fun k (_ : Unit) i => impl_allBytes_isAtomByte.l0 k (ofL l) (l.length : Int) i) (st := fun _ c => if atB c = true then .inr () else .inl false) (fin := fun _ => true) (s := ()) (fun _ _ => True) trivial ?_ ?_) ?_
 ·
  intro p c r s h _
  have hz := len_mid h
  have e1 := bt_ofL_mid h
  have w1 : wrap64 ((p.length : Int) + 1) = (p.length : Int) + 1 := wrap_id (by omega) (by omega)
  simp only [impl_allBytes_isAtomByte.l0, e1, w1, size_ofL]
  clear w1 e1
  cases e : atB c with
  | true =>
   simp only [if_true]
   refine ⟨(fun v hv => by cases hv), fun s' hs => ⟨trivial, fun v hv => ?_⟩⟩
   refine ev_pos (by omega) (ev_pos (by omega) (ev_pos (by omega) (ev_bind0 (impl_isAtomByte_eq c) (ev_pos e hv))))
  | false =>
   refine ⟨(fun v hv => ?_), fun s' hs => by simp at hs⟩
   simp only [Bool.false_eq_true, if_false, Sum.inl.injEq] at hv
   subst hv
   refine ev_pos (by omega) (ev_pos (by omega) (ev_pos (by omega) (ev_bind0 (impl_isAtomByte_eq c) (ev_neg (by rw [e]; simp) (ev_some _)))))
 ·
  intro s _
  simp only [impl_allBytes_isAtomByte.l0]
  exact ev_neg (by omega) (ev_some _)
 ·
  clear hl
  induction l with
  | nil => rfl
  | cons c r ih =>
   unfold run
   cases e : atB c with
   | true => simp [e, ih]
   | false => simp [e]

theorem impl_AtomValid_ev (l : Str) (hl : l.length ≤ 1000000000000000) : Ev (fun k => impl_AtomValid.f k (ofL l)) (atomV l) := by
 unfold impl_AtomValid.f atomV
 rw [size_ofL]
 by_cases h1 : 1 ≤ l.length
 ·
  rw [decide_eq_true h1]
  refine ev_pos (by omega) ?_
  by_cases h2 : l.length ≤ 40
  ·
   rw [decide_eq_true h2]
   exact ev_pos (by omega) (ev_bind (impl_allBytes_isAtomByte_ev l hl) (ev_some _))
  ·
   rw [decide_eq_false h2]
   exact ev_neg (by omega) (ev_some _)
 ·
  rw [decide_eq_false h1]
  exact ev_neg (by omega) (ev_some _)

theorem spec_l1Atom_ev (c : UInt8) : Ev (fun k => spec_l1Atom.f k (c.toNat : Int)) (atB c) := by
 unfold spec_l1Atom.f
 have lit : (⟨#[33, 35, 36, 37, 38, 39, 42, 43, 45, 47, 61, 63, 94, 95, 96, 123, 124, 125, 126]⟩ : ByteArray) = ofL atList := rfl
 have hlen : atList.length = 19 := rfl
 refine ev_eq (run_start (xs := atList) (F := fun k (_ : Unit) i => spec_l1Atom.l0 k (c.toNat : Int) i) (st := fun _ d => if c = d then .inl true else .inr ()) (fin := fun _ => alnB c) (s := ()) (fun _ _ => True) trivial ?_ ?_) ?_
 ·
  intro p d r s h _
  have hz := len_mid h
  have e1 := bt_ofL_mid h
  have w1 : wrap64 ((p.length : Int) + 1) = (p.length : Int) + 1 := wrap_id (by omega) (by omega)
  simp only [spec_l1Atom.l0, lit, e1, w1]
  clear w1 e1
  by_cases e : c = d
  ·
   simp only [if_pos e]
   refine ⟨(fun v hv => ?_), fun s' hs => by cases hs⟩
   cases hv
   exact ev_pos (by omega) (ev_pos (by omega) (ev_pos (by rw [e]) (ev_some _)))
  ·
   simp only [if_neg e]
   refine ⟨(fun v hv => by cases hv), fun s' hs => ⟨trivial, fun v hv => ?_⟩⟩
   exact ev_pos (by omega) (ev_pos (by omega) (ev_neg (fun hh => e (UInt8.toNat_inj.mp (by omega))) hv))
 ·
  intro s _
  simp only [spec_l1Atom.l0]
  exact ev_neg (by omega) (ev_bind0 (spec_l1Letter_eq c) (ev_some _))
 ·
  have key : ∀ r : Str, run (fun (_ : Unit) d => if c = d then .inl true else .inr ()) (fun _ => alnB c) r () = (alnB c || decide (c ∈ r)) := by
   intro r
   induction r with
   | nil => simp [run]
   | cons d r ih =>
    unfold run
    by_cases e : c = d
    ·
     simp [e]
    ·
     simp [e, ih]
  exact key atList
theorem spec_AtomValid_ev (l : Str) (hl : l.length ≤ 1000000000000000) : Ev (fun k => spec_AtomValid.f k (ofL l)) (atomV l) := by
 unfold spec_AtomValid.f
 have hj' : ∀ i : Int, Ev (fun k => spec_AtomValid.j1 k (ofL l) i false) (decide (1 ≤ l.length) && decide (l.length ≤ 40)) := by
  intro i
  refine ev_succ ?_
  simp only [spec_AtomValid.j1, size_ofL]
  by_cases h1 : 1 ≤ l.length
  ·
   rw [decide_eq_true h1]
   refine ev_neg (by simp) (ev_pos (by omega) (ev_eq (ev_some _) ?_))
   rw [Bool.true_and]
   by_cases h2 : l.length ≤ 40
   ·
    rw [decide_eq_true h2]; exact decide_eq_true (by omega)
   ·
    rw [decide_eq_false h2]; exact decide_eq_false (by omega)
  ·
   rw [decide_eq_false h1]
   exact ev_neg (by simp) (ev_neg (by omega) (ev_some _))
 refine ev_eq (run_start (xs := l) (F := fun k (_ : Nat) i => spec_AtomValid.l0 k (ofL l) i) (st := fun n c => if n ≤ 40 then (if atB c = true then .inr (n + 1) else .inl false) else .inl (decide (1 ≤ l.length) && decide (l.length ≤ 40))) (fin := fun _ => decide (1 ≤ l.length) && decide (l.length ≤ 40)) (s := 0) (fun p n => n = p.length) rfl ?_ ?_) ?_
 ·
  intro p c r n h hn
  subst hn
  have hz := len_mid h
  have e1 := bt_ofL_mid h
  have w1 : wrap64 ((p.length : Int) + 1) = (p.length : Int) + 1 := wrap_id (by omega) (by omega)
  by_cases h20 : p.length ≤ 40
  ·
   simp only [if_pos h20]
   have hd : decide ((p.length : Int) ≤ 40) = true := decide_eq_true (by omega)
   simp only [spec_AtomValid.l0, hd, size_ofL]
   cases e : atB c with
   | true =>
    simp only [if_true]
    refine ⟨(fun v hv => by cases hv), fun s' hs => ⟨?_, fun v hv => ?_⟩⟩
    ·
     cases hs; simp
    ·
     refine ev_pos (by omega) (ev_succ ?_)
     simp only [spec_AtomValid.j1, e1, w1, size_ofL]
     clear w1 e1
     exact ev_pos trivial (ev_pos (by omega) (ev_pos (by omega) (ev_bind (spec_l1Atom_ev c) (ev_pos e hv))))
   | false =>
    refine ⟨(fun v hv => ?_), fun s' hs => by simp at hs⟩
    simp only [Bool.false_eq_true, if_false, Sum.inl.injEq] at hv
    subst hv
    refine ev_pos (by omega) (ev_succ ?_)
    simp only [spec_AtomValid.j1, e1, w1, size_ofL]
    clear w1 e1
    exact ev_pos trivial (ev_pos (by omega) (ev_pos (by omega) (ev_bind (spec_l1Atom_ev c) (ev_neg (by rw [e]; simp) (ev_some _)))))
  ·
   simp only [if_neg h20]
   have hd : decide ((p.length : Int) ≤ 40) = false := decide_eq_false (by omega)
   refine ⟨(fun v hv => ?_), fun s' hs => by cases hs⟩
   cases hv
   simp only [spec_AtomValid.l0, hd, size_ofL]
   clear w1 e1
   exact ev_pos (by omega) (hj' _)
 ·
  intro s hs
  subst hs
  simp only [spec_AtomValid.l0, size_ofL]
  exact ev_neg (by omega) (hj' _)
 ·
  unfold atomV
  have key : ∀ (r : Str) (n : Nat), n + r.length = l.length → run (fun n c => if n ≤ 40 then (if atB c = true then .inr (n + 1) else .inl false) else .inl (decide (1 ≤ l.length) && decide (l.length ≤ 40))) (fun _ => decide (1 ≤ l.length) && decide (l.length ≤ 40)) r n = (decide (1 ≤ l.length) && decide (l.length ≤ 40) && r.all atB) := by
   intro r
   induction r with
   | nil => intro n _; simp [run]
   | cons c r ih =>
    intro n hn
    simp only [List.length_cons] at hn
    unfold run
    by_cases h20 : n ≤ 40
    ·
     simp only [if_pos h20]
     cases e : atB c with
     | true => simp [e, ih (n + 1) (by omega)]
     | false => simp [e]
    ·
     simp only [if_neg h20]
     have : decide (l.length ≤ 40) = false := decide_eq_false (by omega)
     simp [this]
  exact key l 0 (by omega)

/-! Names, small letters: the model. -/
def nmB (c : UInt8) : Bool := alnB c || decide (c = 45)
def isNm (l : Str) : Bool := decide (l.length ≤ 30) && (match l with
 | [] => false
 | c :: _ => letB c) && l.all nmB
def lowB (c : UInt8) : UInt8 := if 65 ≤ c ∧ c ≤ 90 then c + 32 else c
def low (l : Str) : Str := l.map lowB
def isSmall (l : Str) : Bool := isNm l && decide (low l = l)
theorem isNm_len {l : Str} (h : isNm l = true) : l.length ≤ 30 := by
 unfold isNm at h; simp at h; exact h.1.1
theorem beq_dec (a b : Str) : (a == b) = decide (a = b) := by
 rw [Bool.eq_iff_iff]; simp
theorem lowB_num (c : UInt8) : lowI (c.toNat : Int) = ((lowB c).toNat : Int) := by
 revert c
 exact u8_all (by decide +kernel)
theorem zn_low (l : Str) : (zn l).map lowI = zn (low l) := by
 unfold zn low
 rw [List.map_map, List.map_map]
 exact List.map_congr_left (fun c _ => lowB_num c)
theorem low_idem (l : Str) : low (low l) = low l := by
 have h : ∀ c : UInt8, lowB (lowB c) = lowB c := u8_all (by decide +kernel)
 unfold low
 rw [List.map_map]
 exact List.map_congr_left (fun c _ => h c)
theorem low_len (l : Str) : (low l).length = l.length := by unfold low; simp
theorem impl_LowerText_eq (l : Str) (hl : l.length ≤ 140737488355328) : impl_LowerText.f (ofL l) = some (ofL (low l)) := by
 unfold impl_LowerText.f
 rw [size_ofL, if_pos hl, bytesOf_ofL, zn_low, strOfNums_zn]
theorem spec_LowerText_eq (l : Str) (hl : l.length ≤ 140737488355328) : spec_LowerText.f (ofL l) = some (ofL (low l)) := by
 unfold spec_LowerText.f
 rw [size_ofL, if_pos hl, bytesOf_ofL, zn_low, strOfNums_zn]
theorem impl_SameText_eq (a b : Str) (ha : a.length ≤ 140737488355328) (hb : b.length ≤ 140737488355328) : impl_SameText.f (ofL a) (ofL b) = some (decide (low a = low b)) := by
 unfold impl_SameText.f
 rw [impl_LowerText_eq a ha, impl_LowerText_eq b hb]
 simp only [Option.bind_some, toList_ofL, beq_dec]
theorem spec_SameText_eq (a b : Str) (ha : a.length ≤ 140737488355328) (hb : b.length ≤ 140737488355328) : spec_SameText.f (ofL a) (ofL b) = some (decide (low a = low b)) := by
 unfold spec_SameText.f
 rw [spec_LowerText_eq a ha, spec_LowerText_eq b hb]
 simp only [Option.bind_some, toList_ofL, beq_dec]
theorem impl_isName_1_eq (c : UInt8) : impl_isName_1.f (c.toNat : Int) = some (nmB c) := by
 unfold impl_isName_1.f nmB alnB
 rw [impl_isLetter_eq, impl_isDigit_eq]
 have := u8_eq c 45 (by omega)
 by_cases e : c = 45
 ·
  have h2 := this.mpr e
  cases letB c <;> cases digB c <;> simp [e, h2]
 ·
  have h2 : ¬ (c.toNat : Int) = 45 := fun hh => e (this.mp hh)
  cases letB c <;> cases digB c <;> simp [e, h2]

theorem impl_allBytes_isName_1_ev (l : Str) (hl : l.length ≤ 1000000000000000) : Ev (fun k => impl_allBytes_isName_1.f k (ofL l)) (l.all nmB) := by
 unfold impl_allBytes_isName_1.f
 rw [size_ofL]
 refine ev_eq (run_start (xs := l) (F := fun k (_ : Unit) i => impl_allBytes_isName_1.l0 k (ofL l) (l.length : Int) i) (st := fun _ c => if nmB c = true then .inr () else .inl false) (fin := fun _ => true) (s := ()) (fun _ _ => True) trivial ?_ ?_) ?_
 ·
  intro p c r s h _
  have hz := len_mid h
  have e1 := bt_ofL_mid h
  have w1 : wrap64 ((p.length : Int) + 1) = (p.length : Int) + 1 := wrap_id (by omega) (by omega)
  simp only [impl_allBytes_isName_1.l0, e1, w1, size_ofL]
  clear w1 e1
  cases e : nmB c with
  | true =>
   simp only [if_true]
   refine ⟨(fun v hv => by cases hv), fun s' hs => ⟨trivial, fun v hv => ?_⟩⟩
   refine ev_pos (by omega) (ev_pos (by omega) (ev_pos (by omega) (ev_bind0 (impl_isName_1_eq c) (ev_pos e hv))))
  | false =>
   refine ⟨(fun v hv => ?_), fun s' hs => by simp at hs⟩
   simp only [Bool.false_eq_true, if_false, Sum.inl.injEq] at hv
   subst hv
   refine ev_pos (by omega) (ev_pos (by omega) (ev_pos (by omega) (ev_bind0 (impl_isName_1_eq c) (ev_neg (by rw [e]; simp) (ev_some _)))))
 ·
  intro s _
  simp only [impl_allBytes_isName_1.l0]
  exact ev_neg (by omega) (ev_some _)
 ·
  clear hl
  induction l with
  | nil => rfl
  | cons c r ih =>
   unfold run
   cases e : nmB c with
   | true => simp [e, ih]
   | false => simp [e]

theorem impl_isName_ev (l : Str) (hl : l.length ≤ 1000000000000000) : Ev (fun k => impl_isName.f k (ofL l)) (isNm l) := by
 unfold impl_isName.f isNm
 rw [size_ofL]
 cases l with
 | nil => exact ev_neg (by simp) (ev_some _)
 | cons c r =>
  simp only [bt_zero]
  refine ev_pos (by simp only [List.length_cons]; omega) ?_
  by_cases h2 : (c :: r).length ≤ 30
  ·
   rw [decide_eq_true h2]
   refine ev_pos (by omega) (ev_pos (by simp) (ev_bind0 (impl_isLetter_eq c) ?_))
   cases e : letB c with
   | true => exact ev_pos rfl (ev_bind (impl_allBytes_isName_1_ev (c :: r) hl) (ev_some _))
   | false => exact ev_neg (by simp) (ev_some _)
  ·
   rw [decide_eq_false h2]
   exact ev_neg (by omega) (ev_some _)
theorem impl_isSmallName_ev (l : Str) (hl : l.length ≤ 140737488355328) : Ev (fun k => impl_isSmallName.f k (ofL l)) (isSmall l) := by
 unfold impl_isSmallName.f isSmall
 refine ev_bind (impl_isName_ev l (by omega)) ?_
 cases e : isNm l with
 | true =>
  refine ev_pos rfl (ev_bind0 (impl_LowerText_eq l hl) (ev_eq (ev_some _) ?_))
  simp only [toList_ofL, beq_dec, Bool.true_and]
 | false => exact ev_neg (by simp) (ev_some _)

theorem spec_l3Name_ev (l : Str) (hl : l.length ≤ 1000000000000000) : Ev (fun k => spec_l3Name.f k (ofL l)) (isNm l) := by
 unfold spec_l3Name.f
 have hj' : ∀ i : Int, Ev (fun k => spec_l3Name.j1 k (ofL l) i false) (decide (1 ≤ l.length) && decide (l.length ≤ 30)) := by
  intro i
  refine ev_succ ?_
  simp only [spec_l3Name.j1, size_ofL]
  by_cases h1 : 1 ≤ l.length
  ·
   rw [decide_eq_true h1]
   refine ev_neg (by simp) (ev_pos (by omega) (ev_eq (ev_some _) ?_))
   rw [Bool.true_and]
   by_cases h2 : l.length ≤ 30
   ·
    rw [decide_eq_true h2]; exact decide_eq_true (by omega)
   ·
    rw [decide_eq_false h2]; exact decide_eq_false (by omega)
  ·
   rw [decide_eq_false h1]
   exact ev_neg (by simp) (ev_neg (by omega) (ev_some _))
 refine ev_eq (run_start (xs := l) (F := fun k (_ : Nat) i => spec_l3Name.l0 k (ofL l) i) (st := fun n c => if n ≤ 30 then (if nmB c = true then (if n = 0 then (if letB c = true then .inr (n + 1) else .inl false) else .inr (n + 1)) else .inl false) else .inl (decide (1 ≤ l.length) && decide (l.length ≤ 30))) (fin := fun _ => decide (1 ≤ l.length) && decide (l.length ≤ 30)) (s := 0) (fun p n => n = p.length) rfl ?_ ?_) ?_
 ·
  intro p c r n h hn
  subst hn
  have hz := len_mid h
  have e1 := bt_ofL_mid h
  have w1 : wrap64 ((p.length : Int) + 1) = (p.length : Int) + 1 := wrap_id (by omega) (by omega)
  by_cases h20 : p.length ≤ 30
  ·
   simp only [if_pos h20]
   have hd : decide ((p.length : Int) ≤ 30) = true := decide_eq_true (by omega)
   simp only [spec_l3Name.l0, hd, size_ofL]
   have h45 := u8_eq c 45 (by omega)
   have hlet : nmB c = true → (letB c = true ↔ ¬ (c.toNat : Int) ≤ 57) := u8_all (p := fun c => nmB c = true → (letB c = true ↔ ¬ (c.toNat : Int) ≤ 57)) (by decide +kernel) c
   cases e : nmB c with
   | true =>
    have hlt := hlet e
    have go : ∀ v, Ev (fun k => if (p.length : Int) = 0 then (if (c.toNat : Int) ≤ 57 then some false else spec_l3Name.l0 k (ofL l) ((p.length : Int) + 1)) else spec_l3Name.l0 k (ofL l) ((p.length : Int) + 1)) v → Ev (fun k => if (p.length : Int) < (l.length : Int) then spec_l3Name.j1 (k + 0) (ofL l) (p.length : Int) true else spec_l3Name.j1 (k + 0) (ofL l) (p.length : Int) false) v := by
     intro v hv
     refine ev_pos (by omega) (ev_succ ?_)
     simp only [spec_l3Name.j1, e1, w1, size_ofL]
     clear w1 e1
     refine ev_pos trivial (ev_pos (by omega) (ev_pos (by omega) (ev_bind0 (spec_l1Letter_eq c) ?_)))
     cases ea : alnB c with
     | true => exact ev_pos rfl hv
     | false =>
      have : c = 45 := by
       unfold nmB at e
       rw [ea, Bool.false_or] at e
       exact of_decide_eq_true e
      exact ev_neg (by simp) (ev_pos (h45.mpr this) hv)
    simp only [if_true]
    by_cases h0 : p.length = 0
    ·
     simp only [if_pos h0]
     by_cases hL : letB c = true
     ·
      simp only [if_pos hL]
      refine ⟨(fun v hv => by cases hv), fun s' hs => ⟨?_, fun v hv => ?_⟩⟩
      ·
       cases hs; simp
      ·
       exact go v (ev_pos (by omega) (ev_neg (hlt.mp hL) hv))
     ·
      simp only [if_neg hL]
      refine ⟨(fun v hv => ?_), fun s' hs => by cases hs⟩
      cases hv
      exact go false (ev_pos (by omega) (ev_pos (Decidable.not_not.mp (fun hh => hL (hlt.mpr hh))) (ev_some _)))
    ·
     simp only [if_neg h0]
     refine ⟨(fun v hv => by cases hv), fun s' hs => ⟨?_, fun v hv => ?_⟩⟩
     ·
      cases hs; simp
     ·
      exact go v (ev_neg (by omega) hv)
   | false =>
    refine ⟨(fun v hv => ?_), fun s' hs => by simp at hs⟩
    simp only [Bool.false_eq_true, if_false, Sum.inl.injEq] at hv
    subst hv
    refine ev_pos (by omega) (ev_succ ?_)
    simp only [spec_l3Name.j1, e1, w1, size_ofL]
    clear w1 e1
    unfold nmB at e
    rw [Bool.or_eq_false_iff] at e
    exact ev_pos trivial (ev_pos (by omega) (ev_pos (by omega) (ev_bind0 (spec_l1Letter_eq c) (ev_neg (by rw [e.1]; simp) (ev_neg (fun hh => (of_decide_eq_false e.2) (h45.mp hh)) (ev_some _))))))
  ·
   simp only [if_neg h20]
   have hd : decide ((p.length : Int) ≤ 30) = false := decide_eq_false (by omega)
   refine ⟨(fun v hv => ?_), fun s' hs => by cases hs⟩
   cases hv
   simp only [spec_l3Name.l0, hd, size_ofL]
   clear w1 e1
   exact ev_pos (by omega) (hj' _)
 ·
  intro s hs
  subst hs
  simp only [spec_l3Name.l0, size_ofL]
  exact ev_neg (by omega) (hj' _)
 ·
  have key : ∀ (r : Str) (n : Nat), 1 ≤ n → n + r.length = l.length → run (fun n c => if n ≤ 30 then (if nmB c = true then (if n = 0 then (if letB c = true then .inr (n + 1) else .inl false) else .inr (n + 1)) else .inl false) else .inl (decide (1 ≤ l.length) && decide (l.length ≤ 30))) (fun _ => decide (1 ≤ l.length) && decide (l.length ≤ 30)) r n = (decide (l.length ≤ 30) && r.all nmB) := by
   intro r
   induction r with
   | nil => intro n h1 h2; have : decide (1 ≤ l.length) = true := decide_eq_true (by simp at h2; omega); simp only [run, this]; simp
   | cons c r ih =>
    intro n h1 hn
    simp only [List.length_cons] at hn
    unfold run
    have h1l : decide (1 ≤ l.length) = true := decide_eq_true (by omega)
    by_cases h20 : n ≤ 30
    ·
     simp only [if_pos h20, if_neg (show ¬ n = 0 by omega)]
     cases e : nmB c with
     | true => simp [e, ih (n + 1) (by omega) (by omega)]
     | false => simp [e]
    ·
     simp only [if_neg h20]
     have : decide (l.length ≤ 30) = false := decide_eq_false (by omega)
     simp [this]
  cases l with
  | nil => simp [run, isNm]
  | cons c r =>
   unfold run isNm
   have hc := key r 1 (by omega) (by simp; omega)
   simp only [if_pos (show (0 : Nat) ≤ 30 by omega), if_true]
   cases e : nmB c with
   | true =>
    cases e2 : letB c with
    | true => simp only [if_true]; rw [hc]; simp [e]
    | false => simp
   | false => simp [e]
theorem spec_l7Word_ev (l : Str) (hl : l.length ≤ 140737488355328) : Ev (fun k => spec_l7Word.f k (ofL l)) (isSmall l) := by
 unfold spec_l7Word.f isSmall
 refine ev_bind (spec_l3Name_ev l (by omega)) ?_
 cases e : isNm l with
 | true =>
  refine ev_pos rfl (ev_bind0 (spec_LowerText_eq l hl) (ev_eq (ev_some _) ?_))
  simp only [toList_ofL, beq_dec, Bool.true_and]
 | false => exact ev_neg (by simp) (ev_some _)

/-! The place of a name. -/
def fidx (n : Str) : List (Str × Str) → Nat → Int
 | [], _ => -1
 | c :: r, i => if low c.1 = low n then (i : Int) else fidx n r (i + 1)
def small (ls : List (Str × Str)) : Prop := ∀ x ∈ ls, x.1.length ≤ 1048576 ∧ x.2.length ≤ 1048576
theorem small_of {ls : List (Str × Str)} (h : szp ls ≤ 1048576) : small ls := fun x hx => by
 have := szp_mem hx
 exact ⟨by omega, by omega⟩
theorem fidx_range (n : Str) (r : List (Str × Str)) : ∀ i : Nat, fidx n r i = -1 ∨ ((i : Int) ≤ fidx n r i ∧ fidx n r i < i + r.length) := by
 induction r with
 | nil => intro i; exact Or.inl rfl
 | cons c r ih =>
  intro i
  unfold fidx
  split
  ·
   right; simp only [List.length_cons]; omega
  ·
   rcases ih (i + 1) with h | ⟨h1, h2⟩
   ·
    exact Or.inl h
   ·
    right; simp only [List.length_cons]; omega
theorem fidx_run (n : Str) (r : List (Str × Str)) : ∀ i : Nat, run (fun (i : Nat) (c : Str × Str) => if low c.1 = low n then .inl (i : Int) else .inr (i + 1)) (fun _ => (-1 : Int)) r i = fidx n r i := by
 induction r with
 | nil => intro i; rfl
 | cons c r ih =>
  intro i
  unfold run fidx
  by_cases e : low c.1 = low n
  ·
   simp only [if_pos e]
  ·
   simp only [if_neg e, ih]
theorem spec_l3Find_ev (ls : List (Str × Str)) (n : Str) (hs : small ls) (hn : n.length ≤ 1048576) (hl : ls.length ≤ 1048576) : Ev (fun k => spec_l3Find.f k (ls.map e76) (ofL n)) (fidx n ls 0) := by
 unfold spec_l3Find.f
 refine ev_eq (run_start (xs := ls) (F := fun k (_ : Nat) i => spec_l3Find.l0 k (ls.map e76) (ofL n) i) (st := fun i c => if low c.1 = low n then .inl (i : Int) else .inr (i + 1)) (fin := fun _ => (-1 : Int)) (s := 0) (fun p i => i = p.length) rfl ?_ ?_) (fidx_run n ls 0)
 ·
  intro p c r i h hi
  subst hi
  have hz := len_mid h
  have e1 := rd76_mid h
  have hc := hs c (by rw [h]; simp)
  have w1 : wrap64 ((p.length : Int) + 1) = (p.length : Int) + 1 := wrap_id (by omega) (by omega)
  have hq := spec_SameText_eq c.1 n (by omega) (by omega)
  simp only [spec_l3Find.l0, e1, w1, List.length_map, e76, hq]
  clear w1 e1
  by_cases e : low c.1 = low n
  ·
   simp only [if_pos e]
   refine ⟨(fun v hv => ?_), fun s' hs => by cases hs⟩
   cases hv
   exact ev_pos (by omega) (ev_pos (by omega) (ev_bind0 rfl (ev_pos (decide_eq_true e) (ev_some _))))
  ·
   simp only [if_neg e]
   refine ⟨(fun v hv => by cases hv), fun s' hs => ⟨?_, fun v hv => ?_⟩⟩
   ·
    cases hs; simp
   ·
    exact ev_pos (by omega) (ev_pos (by omega) (ev_bind0 rfl (ev_neg (by simp [e]) hv)))
 ·
  intro s _
  simp only [spec_l3Find.l0, List.length_map]
  exact ev_neg (by omega) (ev_some _)
theorem impl_fieldPlace_ev (ls : List (Str × Str)) (n : Str) (hs : small ls) (hn : n.length ≤ 1048576) (hl : ls.length ≤ 1048576) : Ev (fun k => impl_fieldPlace.f k (ls.map e76) (ofL n)) (fidx n ls 0) := by
 unfold impl_fieldPlace.f impl_Field_fieldPlace_1.f
 refine ev_bind ?_ (ev_some _)
 rw [List.length_map]
 refine ev_eq (run_start (xs := ls) (F := fun k (_ : Nat) i => impl_Field_fieldPlace_1.l0 k (ls.map e76) (ls.length : Int) i (ofL n)) (st := fun i c => if low c.1 = low n then .inl (i : Int) else .inr (i + 1)) (fin := fun _ => (-1 : Int)) (s := 0) (fun p i => i = p.length) rfl ?_ ?_) (fidx_run n ls 0)
 ·
  intro p c r i h hi
  subst hi
  have hz := len_mid h
  have e1 := rd76_mid h
  have hc := hs c (by rw [h]; simp)
  have w1 : wrap64 ((p.length : Int) + 1) = (p.length : Int) + 1 := wrap_id (by omega) (by omega)
  have hq := impl_SameText_eq c.1 n (by omega) (by omega)
  simp only [impl_Field_fieldPlace_1.l0, impl_fieldPlace_1.f, e1, w1, List.length_map, e76, hq, Option.bind_some]
  clear w1 e1
  by_cases e : low c.1 = low n
  ·
   simp only [if_pos e]
   refine ⟨(fun v hv => ?_), fun s' hs => by cases hs⟩
   cases hv
   exact ev_pos (by omega) (ev_pos (by omega) (ev_pos (by omega) (ev_pos (decide_eq_true e) (ev_some _))))
  ·
   simp only [if_neg e]
   refine ⟨(fun v hv => by cases hv), fun s' hs => ⟨?_, fun v hv => ?_⟩⟩
   ·
    cases hs; simp
   ·
    exact ev_pos (by omega) (ev_pos (by omega) (ev_pos (by omega) (ev_neg (by simp [e]) hv)))
 ·
  intro s _
  simp only [impl_Field_fieldPlace_1.l0]
  exact ev_neg (by omega) (ev_some _)

/-! Texts: the model. -/
def okB (c : UInt8) : Bool := 32 ≤ c && c ≤ 126
def tvalid (l : Str) : Bool := l.all okB && decide (l.length ≤ 200)
theorem okB_lo (c : UInt8) (h : (c.toNat : Int) < 32) : okB c = false := by
 have : c < 32 := (u8_lt c 32 (by omega)).mp h
 unfold okB
 simp [UInt8.le_iff_toNat_le, UInt8.lt_iff_toNat_lt] at this ⊢
 omega
theorem okB_hi (c : UInt8) (h : (c.toNat : Int) > 126) : okB c = false := by
 unfold okB
 simp [UInt8.le_iff_toNat_le, UInt8.lt_iff_toNat_lt]
 omega
theorem okB_mid (c : UInt8) (h : ¬ (c.toNat : Int) < 32) (h2 : ¬ (c.toNat : Int) > 126) : okB c = true := by
 unfold okB
 simp [UInt8.le_iff_toNat_le, UInt8.lt_iff_toNat_lt]
 omega
theorem tvalid_len {l : Str} (h : tvalid l = true) : l.length ≤ 200 := by
 unfold tvalid at h; simp at h; exact h.2

theorem impl_TextValid_loop (l : Str) (hl : l.length ≤ 1000000000000000) (r : Str) : ∀ (p : Str), l = p ++ r → Ev (fun k => impl_TextValid.l0 k (ofL l) (l.length : Int) (p.length : Int)) (r.all okB && decide (l.length ≤ 200)) := by
 induction r with
 | nil =>
  intro p h
  have hz : l.length = p.length := by rw [h, List.append_nil]
  refine ev_succ ?_
  simp only [impl_TextValid.l0, size_ofL]
  repeat (first | refine ev_pos (by first | assumption | omega | decide) ?_ | refine ev_neg (by first | assumption | omega | decide) ?_)
  exact ev_eq (ev_some _) (by simp; omega)
 | cons c r ih =>
  intro p h
  have hz : l.length = p.length + (r.length + 1) := by rw [h]; simp
  have e1 : bt (ofL l) (p.length : Int) = (c.toNat : Int) := by rw [h]; exact bt_mid p r c
  have := ih (p ++ [c]) (by rw [h]; simp)
  rw [len_snoc] at this
  refine ev_succ ?_
  simp (disch := omega) only [impl_TextValid.l0, size_ofL, e1, wrap_id]
  by_cases h1 : (c.toNat : Int) < 32
  ·
   repeat (first | refine ev_pos (by first | assumption | omega | decide) ?_ | refine ev_neg (by first | assumption | omega | decide) ?_)
   exact ev_eq (ev_some _) (by simp [okB_lo c h1])
  ·
   by_cases h2 : (c.toNat : Int) > 126
   ·
    repeat (first | refine ev_pos (by first | assumption | omega | decide) ?_ | refine ev_neg (by first | assumption | omega | decide) ?_)
    exact ev_eq (ev_some _) (by simp [okB_hi c h2])
   ·
    repeat (first | refine ev_pos (by first | assumption | omega | decide) ?_ | refine ev_neg (by first | assumption | omega | decide) ?_)
    exact ev_eq this (by simp [okB_mid c h1 h2])
theorem impl_TextValid_ev (l : Str) (hl : l.length ≤ 1000000000000000) : Ev (fun k => impl_TextValid.f k (ofL l)) (tvalid l) := by
 unfold impl_TextValid.f
 rw [size_ofL]
 exact impl_TextValid_loop l hl l [] rfl

theorem spec_TextValid_loop (l : Str) (hl : l.length ≤ 1000000000000000) (r : Str) : ∀ (p : Str), l = p ++ r → Ev (fun k => spec_TextValid.l0 k (ofL l) (p.length : Int)) (r.all okB && decide (l.length ≤ 200)) := by
 induction r with
 | nil =>
  intro p h
  have hz : l.length = p.length := by rw [h, List.append_nil]
  refine ev_succ ?_
  simp only [spec_TextValid.l0, size_ofL]
  repeat (first | refine ev_pos (by first | assumption | omega | decide) ?_ | refine ev_neg (by first | assumption | omega | decide) ?_)
  refine ev_succ ?_
  simp only [spec_TextValid.j1, size_ofL]
  repeat (first | refine ev_pos (by first | assumption | omega | decide) ?_ | refine ev_neg (by first | assumption | omega | decide) ?_)
  exact ev_eq (ev_some _) (by simp; omega)
 | cons c r ih =>
  intro p h
  have hz : l.length = p.length + (r.length + 1) := by rw [h]; simp
  have e1 : bt (ofL l) (p.length : Int) = (c.toNat : Int) := by rw [h]; exact bt_mid p r c
  have := ih (p ++ [c]) (by rw [h]; simp)
  rw [len_snoc] at this
  by_cases h0 : (p.length : Int) ≤ 200
  ·
   refine ev_succ ?_
   simp only [spec_TextValid.l0, size_ofL]
   repeat (first | refine ev_pos (by first | assumption | omega | decide) ?_ | refine ev_neg (by first | assumption | omega | decide) ?_)
   refine ev_succ ?_
   simp (disch := omega) only [spec_TextValid.j1, size_ofL, e1, wrap_id, decide_eq_true h0]
   by_cases h1 : (c.toNat : Int) < 32
   ·
    repeat (first | refine ev_pos (by first | assumption | omega | decide) ?_ | refine ev_neg (by first | assumption | omega | decide) ?_)
    exact ev_eq (ev_some _) (by simp [okB_lo c h1])
   ·
    by_cases h2 : (c.toNat : Int) > 126
    ·
     repeat (first | refine ev_pos (by first | assumption | omega | decide) ?_ | refine ev_neg (by first | assumption | omega | decide) ?_)
     exact ev_eq (ev_some _) (by simp [okB_hi c h2])
    ·
     repeat (first | refine ev_pos (by first | assumption | omega | decide) ?_ | refine ev_neg (by first | assumption | omega | decide) ?_)
     exact ev_eq this (by simp [okB_mid c h1 h2])
  ·
   refine ev_succ ?_
   simp only [spec_TextValid.l0, size_ofL]
   repeat (first | refine ev_pos (by first | assumption | omega | decide) ?_ | refine ev_neg (by first | assumption | omega | decide) ?_)
   refine ev_succ ?_
   simp only [spec_TextValid.j1, size_ofL, decide_eq_false h0]
   repeat (first | refine ev_pos (by first | assumption | omega | decide) ?_ | refine ev_neg (by first | assumption | omega | decide) ?_)
   have d1 : decide ((l.length : Int) ≤ 200) = false := decide_eq_false (by omega)
   have d2 : decide (l.length ≤ 200) = false := decide_eq_false (by omega)
   exact ev_eq (ev_some _) (by rw [d1, d2, Bool.and_false])
theorem spec_TextValid_ev (l : Str) (hl : l.length ≤ 1000000000000000) : Ev (fun k => spec_TextValid.f k (ofL l)) (tvalid l) := by
 unfold spec_TextValid.f
 exact spec_TextValid_loop l hl l [] rfl

/-! Words quoted. -/
def escB (c : UInt8) : Str := if c = 34 ∨ c = 92 then [92, c] else [c]
def esc : Str → Str
 | [] => []
 | c :: r => escB c ++ esc r
def quote (l : Str) : Str := 34 :: (esc l ++ [34])
def qw (l : Str) : Str := if tvalid l = true then (if atomV l = true then l else quote l) else []
theorem esc_append (a b : Str) : esc (a ++ b) = esc a ++ esc b := by
 induction a with
 | nil => rfl
 | cons c a ih => simp only [List.cons_append, esc, ih, List.append_assoc]
theorem escB_len (c : UInt8) : (escB c).length ≤ 2 := by unfold escB; split <;> simp
theorem esc_len (l : Str) : (esc l).length ≤ 2 * l.length := by
 induction l with
 | nil => simp [esc]
 | cons c r ih => have := escB_len c; simp only [esc, List.length_append, List.length_cons]; omega
theorem qw_len (l : Str) : (qw l).length ≤ 2 * l.length + 2 := by
 unfold qw quote
 have := esc_len l
 split
 ·
  split
  ·
   omega
  ·
   simp only [List.length_cons, List.length_append, List.length_nil]; omega
 ·
  simp
theorem impl_QuoteWord_ev (l : Str) (hl : l.length ≤ 1048576) : Ev (fun k => impl_QuoteWord.f k (ofL l)) (ofL (qw l)) := by
 have key : ∀ (r p : Str), l = p ++ r → Ev (fun k => impl_QuoteWord.l0 k (ofL l) (zn (34 :: esc p)) (l.length : Int) (p.length : Int)) (ofL (quote l)) := by
  intro r
  induction r with
  | nil =>
   intro p h
   rw [List.append_nil] at h
   subst h
   have h1 := esc_len l
   refine ev_succ ?_
   simp only [impl_QuoteWord.l0, zn_length]
   refine ev_neg (by omega) (ev_pos (by simp only [List.length_cons]; omega) (ev_eq (ev_some _) ?_))
   rw [show ([34] : List Int) = zn [34] from rfl, ← zn_append, strOfNums_zn]
   rfl
  | cons c r ih =>
   intro p h
   have hz := len_mid h
   have e1 := bt_ofL_mid h
   have h1 := esc_len p
   have hh := ih (p ++ [c]) (by rw [h]; simp)
   rw [len_snoc, esc_append] at hh
   have w1 : wrap64 ((p.length : Int) + 1) = (p.length : Int) + 1 := wrap_id (by omega) (by omega)
   have h34 := u8_eq c 34 (by omega)
   have h92 := u8_eq c 92 (by omega)
   have b1 : (34 :: esc p : Str).length < 140737488355328 := by simp only [List.length_cons]; omega
   have b2 : (34 :: esc p ++ [92] : Str).length < 140737488355328 := by simp only [List.length_cons, List.length_append, List.length_nil]; omega
   refine ev_succ ?_
   have e92 : ([92] : List Int) = zn [92] := rfl
   have ec : ([(c.toNat : Int)] : List Int) = zn [c] := rfl
   simp only [impl_QuoteWord.l0, e1, w1, size_ofL, zn_length, Option.bind_some, e92, ec, ← zn_append]
   clear w1 e1
   refine ev_pos (by omega) (ev_pos (by omega) (ev_pos (by omega) ?_))
   have two : escB c = [92, c] → (34 :: esc p ++ [92]) ++ [c] = 34 :: (esc p ++ (esc [c])) := fun h => by simp [esc, h]
   have one : escB c = [c] → (34 :: esc p) ++ [c] = 34 :: (esc p ++ (esc [c])) := fun h => by simp [esc, h]
   by_cases c1 : (c.toNat : Int) = 34
   ·
    have hc : c = 34 := h34.mp c1
    refine ev_pos c1 (ev_pos b1 (ev_pos b2 ?_))
    rw [two (by unfold escB; rw [if_pos (Or.inl hc)])]
    exact hh
   ·
    have hc : ¬ c = 34 := fun h => c1 (h34.mpr h)
    by_cases c2 : (c.toNat : Int) = 92
    ·
     have hc2 : c = 92 := h92.mp c2
     refine ev_neg c1 (ev_pos c2 (ev_pos b1 (ev_pos b2 ?_)))
     rw [two (by unfold escB; rw [if_pos (Or.inr hc2)])]
     exact hh
    ·
     have hc2 : ¬ c = 92 := fun h => c2 (h92.mpr h)
     refine ev_neg c1 (ev_neg c2 (ev_pos b1 ?_))
     rw [one (by unfold escB; rw [if_neg (by simp [hc, hc2])])]
     exact hh
 unfold impl_QuoteWord.f qw
 refine ev_bind (impl_TextValid_ev l (by omega)) ?_
 cases e1 : tvalid l with
 | false => exact ev_neg (by simp) (ev_eq (ev_some _) rfl)
 | true =>
  refine ev_pos rfl (ev_bind (impl_AtomValid_ev l (by omega)) ?_)
  cases e2 : atomV l with
  | true => exact ev_pos rfl (ev_some _)
  | false =>
   have := key l [] rfl
   simp only [size_ofL]
   exact ev_neg (by simp) this
theorem spec_QuoteWord_ev (l : Str) (hl : l.length ≤ 1048576) : Ev (fun k => spec_QuoteWord.f k (ofL l)) (ofL (qw l)) := by
 have key : ∀ (r p : Str), l = p ++ r → Ev (fun k => spec_l1Quote.l0 k (ofL l) (ofL (34 :: esc p)) (p.length : Int)) (ofL (quote l)) := by
  intro r
  induction r with
  | nil =>
   intro p h
   rw [List.append_nil] at h
   subst h
   have h1 := esc_len l
   refine ev_succ ?_
   simp only [spec_l1Quote.l0, size_ofL]
   refine ev_neg (by omega) (ev_pos (by simp only [List.length_cons]; omega) (ev_eq (ev_some _) ?_))
   rw [show (⟨#[34]⟩ : ByteArray) = ofL [34] from rfl, ofL_append]
   rfl
  | cons c r ih =>
   intro p h
   have hz := len_mid h
   have e1 := bt_ofL_mid h
   have h1 := esc_len p
   have hh := ih (p ++ [c]) (by rw [h]; simp)
   rw [len_snoc, esc_append] at hh
   have w1 : wrap64 ((p.length : Int) + 1) = ((p.length + 1 : Nat) : Int) := (wrap_id (by omega) (by omega)).trans (by omega)
   have w2 : ((p.length + 1 : Nat) : Int) = (p.length : Int) + 1 := by omega
   have h34 := u8_eq c 34 (by omega)
   have h92 := u8_eq c 92 (by omega)
   have e3 : strOfNums ([92] : List Int) = ofL [92] := strOfNums_zn [92]
   have e4 : (l.drop p.length).take (p.length + 1 - p.length) = [c] := by
    rw [h, List.drop_left, show p.length + 1 - p.length = 1 by omega]; rfl
   refine ev_succ ?_
   simp only [spec_l1Quote.l0, e1, w1, size_ofL, Option.bind_some, e3, Int.toNat_natCast, extract_ofL, e4, ofL_append]
   clear w1 e1 e3 e4
   simp only [w2]
   refine ev_pos (by omega) (ev_pos (by omega) ?_)
   have two : escB c = [92, c] → (34 :: esc p ++ [92]) ++ [c] = 34 :: (esc p ++ (esc [c])) := fun h => by simp [esc, h]
   have one : escB c = [c] → (34 :: esc p) ++ [c] = 34 :: (esc p ++ (esc [c])) := fun h => by simp [esc, h]
   have b1 : (34 :: esc p : Str).length + ([92] : Str).length ≤ 9223372036854775807 := by simp only [List.length_cons, List.length_nil]; omega
   have b2 : (34 :: esc p ++ [92] : Str).length + ([c] : Str).length ≤ 9223372036854775807 := by simp only [List.length_cons, List.length_append, List.length_nil]; omega
   have b3 : (34 :: esc p : Str).length + ([c] : Str).length ≤ 9223372036854775807 := by simp only [List.length_cons, List.length_nil]; omega
   by_cases c1 : (c.toNat : Int) = 34
   ·
    have hc : c = 34 := h34.mp c1
    refine ev_pos c1 (ev_pos b1 (ev_pos (by omega) (ev_pos (by omega) (ev_pos b2 ?_))))
    rw [two (by unfold escB; rw [if_pos (Or.inl hc)])]
    exact hh
   ·
    have hc : ¬ c = 34 := fun h => c1 (h34.mpr h)
    by_cases c2 : (c.toNat : Int) = 92
    ·
     have hc2 : c = 92 := h92.mp c2
     refine ev_neg c1 (ev_pos c2 (ev_pos b1 (ev_pos (by omega) (ev_pos (by omega) (ev_pos b2 ?_)))))
     rw [two (by unfold escB; rw [if_pos (Or.inr hc2)])]
     exact hh
    ·
     have hc2 : ¬ c = 92 := fun h => c2 (h92.mpr h)
     refine ev_neg c1 (ev_neg c2 (ev_pos (by omega) (ev_pos (by omega) (ev_pos b3 ?_))))
     rw [one (by unfold escB; rw [if_neg (by simp [hc, hc2])])]
     exact hh
 unfold spec_QuoteWord.f qw
 refine ev_bind (spec_TextValid_ev l (by omega)) ?_
 cases e1 : tvalid l with
 | false => exact ev_neg (by simp) (ev_eq (ev_some _) rfl)
 | true =>
  refine ev_pos rfl (ev_bind (spec_AtomValid_ev l (by omega)) ?_)
  cases e2 : atomV l with
  | true => exact ev_pos rfl (ev_some _)
  | false =>
   have := key l [] rfl
   unfold spec_l1Quote.f
   exact ev_neg (by simp) (ev_bind this (ev_some _))

/-! Kinds as texts, valid kinds. -/
def kpart (p : Str × Str) : Str := [59, 32] ++ p.1 ++ [61] ++ qw p.2
def ktail : List (Str × Str) → Str
 | [] => []
 | c :: r => kpart c ++ ktail r
def ktext (a b : Str) (ps : List (Str × Str)) : Str := (a ++ [47] ++ b) ++ ktail ps
def kfl (q : List (Str × Str)) : List (Str × Str) → Bool
 | [] => true
 | c :: r => isSmall c.1 && (tvalid c.2 && decide (c.2.length ≤ 40)) && decide (¬ (fidx c.1 q 0 ≥ 0)) && kfl (q ++ [c]) r
def kvalid (a b : Str) (ps : List (Str × Str)) : Bool := isSmall a && isSmall b && decide (¬ (ps.length > 4)) && kfl [] ps && decide ((ktext a b ps).length ≤ 150)
theorem kpart_len (p : Str × Str) : (kpart p).length = 3 + p.1.length + (qw p.2).length := by
 unfold kpart; simp only [List.length_append, List.length_cons, List.length_nil]
 omega
theorem ktail_append (a b : List (Str × Str)) : ktail (a ++ b) = ktail a ++ ktail b := by
 induction a with
 | nil => rfl
 | cons c a ih => simp only [List.cons_append, ktail, ih, List.append_assoc]
theorem ktail_len (ps : List (Str × Str)) : (ktail ps).length ≤ 2 * szp ps + 5 * ps.length := by
 induction ps with
 | nil => simp [ktail]
 | cons c r ih =>
  have h1 := kpart_len c
  have h2 := qw_len c.2
  simp only [ktail, szp, List.length_append, List.length_cons]
  omega
theorem szp_append (a b : List (Str × Str)) : szp (a ++ b) = szp a + szp b := by
 induction a with
 | nil => simp [szp]
 | cons c a ih => simp only [List.cons_append, szp, ih]; omega
theorem small_take {ls p r : List (Str × Str)} (h : ls = p ++ r) (hs : small ls) : small p := fun x hx => hs x (by rw [h]; exact List.mem_append_left _ hx)
theorem take_map_mid {ls p r : List (Str × Str)} (h : ls = p ++ r) : (ls.map e76).take p.length = p.map e76 := by
 rw [h, List.map_append]
 exact List.take_left' (by simp)
theorem impl_kindText_ev (a b : Str) (ps : List (Str × Str)) (ha : a.length ≤ 1048576) (hb : b.length ≤ 1048576) (hz : szp ps ≤ 1048576) (hn : ps.length ≤ 1048576) : Ev (fun k => impl_kindText.f k (ofL a) (ofL b) (ps.map e76)) (ofL (ktext a b ps)) := by
 have hs := small_of hz
 unfold impl_kindText.f
 have e47 : (⟨#[47]⟩ : ByteArray) = ofL [47] := rfl
 simp only [e47, ofL_append, size_ofL, List.length_map]
 refine ev_pos (by omega) (ev_pos (by first | omega | (simp only [List.length_append, List.length_cons, List.length_nil]; omega)) ?_)
 have key : ∀ (r p : List (Str × Str)), ps = p ++ r → Ev (fun k => impl_kindText.l0 k (ofL (a ++ [47] ++ b ++ ktail p)) (ps.map e76) (ps.length : Int) (p.length : Int)) (ofL (ktext a b ps)) := by
  intro r
  induction r with
  | nil =>
   intro p h
   rw [List.append_nil] at h
   subst h
   refine ev_succ ?_
   simp only [impl_kindText.l0]
   exact ev_neg (by omega) (ev_some _)
  | cons c r ih =>
   intro p h
   have hz2 := len_mid h
   have e1 := rd76_mid h
   have hc := hs c (by rw [h]; simp)
   have hh := ih (p ++ [c]) (by rw [h]; simp)
   rw [len_snoc, ktail_append] at hh
   have hq := qw_len c.2
   have hp : (ktail p).length ≤ 20000000 := by
    have h1 := ktail_len p
    have h2 : szp p ≤ szp ps := by rw [h, szp_append]; omega
    omega
   have hi := impl_QuoteWord_ev c.2 (by omega)
   have w1 : wrap64 ((p.length : Int) + 1) = (p.length : Int) + 1 := wrap_id (by omega) (by omega)
   have e59 : (⟨#[59, 32]⟩ : ByteArray) = ofL [59, 32] := rfl
   have e61 : (⟨#[61]⟩ : ByteArray) = ofL [61] := rfl
   refine ev_succ ?_
   simp only [impl_kindText.l0, e1, w1, e76, e59, e61, size_ofL, ofL_append, List.length_map]
   clear w1 e1
   refine ev_pos (by omega) (ev_pos (by omega) (ev_pos (by omega) (ev_pos (by first | omega | (simp only [List.length_cons, List.length_nil]; omega)) (ev_pos (by first | omega | (simp only [List.length_append, List.length_cons, List.length_nil]; omega)) (ev_bind hi ?_)))))
   simp only [size_ofL, ofL_append]
   refine ev_pos (by first | omega | (simp only [List.length_append, List.length_cons, List.length_nil]; omega)) (ev_pos (by first | omega | (simp only [List.length_append, List.length_cons, List.length_nil]; omega)) ?_)
   have e : a ++ [47] ++ b ++ ktail p ++ ([59, 32] ++ c.1 ++ [61] ++ qw c.2) = a ++ [47] ++ b ++ (ktail p ++ ktail [c]) := by
    simp [ktail, kpart]
   rw [e]
   exact hh
 have := key ps [] rfl
 simpa [ktail] using this
theorem impl_KindValid_ev (a b : Str) (ps : List (Str × Str)) (ha : a.length ≤ 1048576) (hb : b.length ≤ 1048576) (hz : szp ps ≤ 1048576) (hn : ps.length ≤ 1048576) : Ev (fun k => impl_KindValid.f k (ofL a) (ofL b) (ps.map e76)) (kvalid a b ps) := by
 have hs := small_of hz
 have ht := impl_kindText_ev a b ps ha hb hz hn
 have hbad : Ev (fun k => impl_KindValid.j0 k true (ofL a) (ofL b) (ps.map e76)) false := by
  refine ev_succ ?_
  simp only [impl_KindValid.j0]
  exact ev_pos trivial (ev_some _)
 have key : ∀ (r p : List (Str × Str)), ps = p ++ r → Ev (fun k => impl_KindValid.l0 k (ps.map e76) (ps.length : Int) (p.length : Int) (ofL a) (ofL b) (ps.map e76)) (kfl p r && decide ((ktext a b ps).length ≤ 150)) := by
  intro r
  induction r with
  | nil =>
   intro p h
   rw [List.append_nil] at h
   subst h
   refine ev_succ ?_
   simp only [impl_KindValid.l0, kfl, Bool.true_and]
   refine ev_neg (by omega) (ev_bind ht (ev_eq (ev_some _) ?_))
   rw [size_ofL]
   by_cases h1 : (ktext a b ps).length ≤ 150
   ·
    rw [decide_eq_true h1]; exact decide_eq_true (by omega)
   ·
    rw [decide_eq_false h1]; exact decide_eq_false (by omega)
  | cons c r ih =>
   intro p h
   have hz2 := len_mid h
   have e1 := rd76_mid h
   have hc := hs c (by rw [h]; simp)
   have hh := ih (p ++ [c]) (by rw [h]; simp)
   rw [len_snoc] at hh
   have w1 : wrap64 ((p.length : Int) + 1) = (p.length : Int) + 1 := wrap_id (by omega) (by omega)
   have i1 := impl_isSmallName_ev c.1 (by omega)
   have i2 := impl_TextValid_ev c.2 (by omega)
   have i3 := impl_fieldPlace_ev p c.1 (small_take h hs) hc.1 (by omega)
   have e3 := take_map_mid h
   refine ev_succ ?_
   simp only [impl_KindValid.l0, kfl, e1, w1, e76, size_ofL, List.length_map, Int.toNat_natCast]
   clear w1 e1
   refine ev_pos (by omega) (ev_pos (by omega) (ev_pos (by omega) (ev_bind i1 ?_)))
   cases q1 : isSmall c.1 with
   | false => exact ev_neg (by simp) (ev_some _)
   | true =>
    refine ev_pos rfl (ev_bind i2 ?_)
    cases q2 : tvalid c.2 with
    | false => exact ev_neg (by simp) (ev_some _)
    | true =>
     refine ev_pos rfl ?_
     by_cases q3 : c.2.length ≤ 40
     ·
      rw [decide_eq_true q3]
      refine ev_neg (by omega) (ev_pos (by omega) ?_)
      rw [e3]
      refine ev_bind i3 ?_
      by_cases q4 : fidx c.1 p 0 ≥ 0
      ·
       refine ev_pos q4 (ev_eq (ev_some _) ?_)
       rw [decide_eq_false (fun hn => hn q4)]; rfl
      ·
       refine ev_neg q4 ?_
       rw [decide_eq_true q4]
       simpa using hh
     ·
      rw [decide_eq_false q3]
      exact ev_pos (by omega) (ev_some _)
 unfold impl_KindValid.f kvalid
 refine ev_bind (impl_isSmallName_ev a (by omega)) ?_
 cases q1 : isSmall a with
 | false => exact ev_neg (by simp) hbad
 | true =>
  refine ev_pos rfl (ev_bind (impl_isSmallName_ev b (by omega)) ?_)
  cases q2 : isSmall b with
  | false => exact ev_neg (by simp) hbad
  | true =>
   refine ev_pos rfl (ev_succ ?_)
   simp only [impl_KindValid.j0, List.length_map]
   by_cases q3 : ps.length > 4
   ·
    refine ev_pos (decide_eq_true (by omega)) (ev_eq (ev_some _) ?_)
    rw [decide_eq_false (fun hn => hn q3)]; rfl
   ·
    refine ev_neg (by simp; omega) ?_
    rw [decide_eq_true q3]
    have := key ps [] rfl
    simpa using this
theorem spec_l2Name_ev (l : Str) (hl : l.length ≤ 1000000000) : Ev (fun k => spec_l2Name.f k (ofL l)) (tvalid l && decide (l.length ≤ 40)) := by
 unfold spec_l2Name.f
 refine ev_bind (spec_TextValid_ev l (by omega)) ?_
 cases q2 : tvalid l with
 | false => exact ev_neg (by simp) (ev_some _)
 | true =>
  refine ev_pos rfl (ev_eq (ev_some _) ?_)
  rw [size_ofL, Bool.true_and]
  by_cases h1 : l.length ≤ 40
  ·
   rw [decide_eq_true h1]; exact decide_eq_true (by omega)
  ·
   rw [decide_eq_false h1]; exact decide_eq_false (by omega)
theorem spec_KindValid_ev (a b : Str) (ps : List (Str × Str)) (ha : a.length ≤ 1048576) (hb : b.length ≤ 1048576) (hz : szp ps ≤ 1048576) (hn : ps.length ≤ 1048576) : Ev (fun k => spec_KindValid.f k (ofL a) (ofL b) (ps.map e76)) (kvalid a b ps) := by
 have hs := small_of hz
 have hbad : Ev (fun k => spec_KindValid.j0 k true (ofL a) (ofL b) (ps.map e76)) false := by
  refine ev_succ ?_
  simp only [spec_KindValid.j0]
  exact ev_pos trivial (ev_some _)
 have key : ∀ (r p : List (Str × Str)), ps = p ++ r → Ev (fun k => spec_KindValid.l0 k (((a ++ [47] ++ b ++ ktail p : Str).length : Nat) : Int) (p.length : Int) (ofL a) (ofL b) (ps.map e76)) (kfl p r && decide ((ktext a b ps).length ≤ 150)) := by
  intro r
  induction r with
  | nil =>
   intro p h
   rw [List.append_nil] at h
   subst h
   refine ev_succ ?_
   simp only [spec_KindValid.l0, kfl, Bool.true_and, List.length_map]
   refine ev_neg (by omega) (ev_eq (ev_some _) ?_)
   have e : a ++ [47] ++ b ++ ktail ps = ktext a b ps := rfl
   rw [e]
   by_cases h1 : (ktext a b ps).length ≤ 150
   ·
    rw [decide_eq_true h1]; exact decide_eq_true (by omega)
   ·
    rw [decide_eq_false h1]; exact decide_eq_false (by omega)
  | cons c r ih =>
   intro p h
   have hz2 := len_mid h
   have e1 := rd76_mid h
   have hc := hs c (by rw [h]; simp)
   have hh := ih (p ++ [c]) (by rw [h]; simp)
   rw [len_snoc] at hh
   have hp : (ktail p).length ≤ 20000000 := by
    have h1 := ktail_len p
    have h2 : szp p ≤ szp ps := by rw [h, szp_append]; omega
    omega
   have hq := qw_len c.2
   have hk := kpart_len c
   have i1 := spec_l7Word_ev c.1 (by omega)
   have i2 := spec_l2Name_ev c.2 (by omega)
   have i3 := spec_l3Find_ev p c.1 (small_take h hs) hc.1 (by omega)
   have i4 := spec_QuoteWord_ev c.2 (by omega)
   have e3 := take_map_mid h
   have en : (a ++ [47] ++ b ++ ktail (p ++ [c]) : Str).length = (a ++ [47] ++ b ++ ktail p : Str).length + 3 + c.1.length + (qw c.2).length := by
    rw [ktail_append]
    simp only [List.length_append, ktail, List.length_nil, hk]
    omega
   have hm : (a ++ [47] ++ b ++ ktail p : Str).length ≤ 30000000 := by
    simp only [List.length_append, List.length_cons, List.length_nil]; omega
   rw [en] at hh
   generalize (a ++ [47] ++ b ++ ktail p : Str).length = m at hh hm
   have w1 : Unit → wrap64 ((p.length : Int) + 1) = (p.length : Int) + 1 ∧ wrap64 (wrap64 (wrap64 ((m : Int) + 3) + (c.1.length : Int)) + ((qw c.2).length : Int)) = ((m + 3 + c.1.length + (qw c.2).length : Nat) : Int) := by
    intro _
    have x1 : wrap64 ((m : Int) + 3) = (m : Int) + 3 := wrap_id (by omega) (by omega)
    rw [x1]
    clear x1
    have x2 : wrap64 ((m : Int) + 3 + (c.1.length : Int)) = (m : Int) + 3 + (c.1.length : Int) := wrap_id (by omega) (by omega)
    rw [x2]
    clear x2
    exact ⟨wrap_id (by omega) (by omega), (wrap_id (by omega) (by omega)).trans (by omega)⟩
   refine ev_succ ?_
   simp only [spec_KindValid.l0, kfl, e1, (w1 ()).1, e76, size_ofL, List.length_map, Int.toNat_natCast]
   refine ev_pos (by omega) (ev_pos (by omega) (ev_bind i1 ?_))
   cases q1 : isSmall c.1 with
   | false => exact ev_neg (by simp) (ev_some _)
   | true =>
    refine ev_pos rfl (ev_bind i2 ?_)
    cases q2 : (tvalid c.2 && decide (c.2.length ≤ 40)) with
    | false => exact ev_neg (by simp) (ev_some _)
    | true =>
     refine ev_pos rfl (ev_pos (by omega) ?_)
     rw [e3]
     refine ev_bind i3 ?_
     by_cases q4 : fidx c.1 p 0 ≥ 0
     ·
      refine ev_pos q4 (ev_eq (ev_some _) ?_)
      rw [decide_eq_false (fun hn => hn q4)]; rfl
     ·
      refine ev_neg q4 (ev_bind i4 ?_)
      rw [decide_eq_true q4]
      simp only [size_ofL, (w1 ()).2]
      simpa using hh
 unfold spec_KindValid.f kvalid
 refine ev_bind (spec_l7Word_ev a (by omega)) ?_
 cases q1 : isSmall a with
 | false => exact ev_neg (by simp) hbad
 | true =>
  refine ev_pos rfl (ev_bind (spec_l7Word_ev b (by omega)) ?_)
  cases q2 : isSmall b with
  | false => exact ev_neg (by simp) hbad
  | true =>
   refine ev_pos rfl (ev_succ ?_)
   simp only [spec_KindValid.j0, List.length_map, size_ofL]
   by_cases q3 : ps.length > 4
   ·
    refine ev_pos (decide_eq_true (by omega)) (ev_eq (ev_some _) ?_)
    rw [decide_eq_false (fun hn => hn q3)]; rfl
   ·
    refine ev_neg (by simp; omega) ?_
    rw [decide_eq_true q3]
    have := key ps [] rfl
    have x1 : wrap64 ((a.length : Int) + (b.length : Int)) = (a.length : Int) + (b.length : Int) := wrap_id (by omega) (by omega)
    rw [x1]
    clear x1
    have x2 : wrap64 ((a.length : Int) + (b.length : Int) + 1) = (((a ++ [47] ++ b ++ ktail [] : Str).length : Nat) : Int) := by
     refine (wrap_id (by omega) (by omega)).trans ?_
     simp only [ktail, List.length_append, List.length_cons, List.length_nil]
     omega
    rw [x2]
    simpa using this

theorem spec_FormatKind_ev (a b : Str) (ps : List (Str × Str)) (ha : a.length ≤ 1048576) (hb : b.length ≤ 1048576) (hz : szp ps ≤ 1048576) (hn : ps.length ≤ 1048576) : Ev (fun k => spec_FormatKind.f k (ofL a) (ofL b) (ps.map e76)) (ofL (if kvalid a b ps = true then ktext a b ps else [])) := by
 have hs := small_of hz
 have e47 : (⟨#[47]⟩ : ByteArray) = ofL [47] := rfl
 have key : ∀ (r p : List (Str × Str)), ps = p ++ r → Ev (fun k => spec_FormatKind.l0 k (ofL (a ++ [47] ++ b ++ ktail p)) (p.length : Int) (ofL a) (ofL b) (ps.map e76)) (ofL (ktext a b ps)) := by
  intro r
  induction r with
  | nil =>
   intro p h
   rw [List.append_nil] at h
   subst h
   refine ev_succ ?_
   simp only [spec_FormatKind.l0, List.length_map]
   exact ev_neg (by omega) (ev_some _)
  | cons c r ih =>
   intro p h
   have hz2 := len_mid h
   have e1 := rd76_mid h
   have hc := hs c (by rw [h]; simp)
   have hh := ih (p ++ [c]) (by rw [h]; simp)
   rw [len_snoc, ktail_append] at hh
   have hq := qw_len c.2
   have hp : (ktail p).length ≤ 20000000 := by
    have h1 := ktail_len p
    have h2 : szp p ≤ szp ps := by rw [h, szp_append]; omega
    omega
   have hi := spec_QuoteWord_ev c.2 (by omega)
   have w1 : wrap64 ((p.length : Int) + 1) = (p.length : Int) + 1 := wrap_id (by omega) (by omega)
   have e59 : (⟨#[59, 32]⟩ : ByteArray) = ofL [59, 32] := rfl
   have e61 : (⟨#[61]⟩ : ByteArray) = ofL [61] := rfl
   refine ev_succ ?_
   simp only [spec_FormatKind.l0, e1, w1, e76, e59, e61, size_ofL, ofL_append, List.length_map]
   clear w1 e1
   refine ev_pos (by omega) (ev_pos (by first | omega | (simp only [List.length_append, List.length_cons, List.length_nil]; omega)) (ev_pos (by omega) (ev_pos (by first | omega | (simp only [List.length_append, List.length_cons, List.length_nil]; omega)) (ev_pos (by first | omega | (simp only [List.length_append, List.length_cons, List.length_nil]; omega)) (ev_bind hi ?_)))))
   simp only [size_ofL, ofL_append]
   refine ev_pos (by first | omega | (simp only [List.length_append, List.length_cons, List.length_nil]; omega)) ?_
   have e : a ++ [47] ++ b ++ ktail p ++ [59, 32] ++ c.1 ++ [61] ++ qw c.2 = a ++ [47] ++ b ++ (ktail p ++ ktail [c]) := by
    simp [ktail, kpart]
   rw [e]
   exact hh
 unfold spec_FormatKind.f
 refine ev_bind (spec_KindValid_ev a b ps ha hb hz hn) ?_
 cases e : kvalid a b ps with
 | false => exact ev_neg (by simp) (ev_eq (ev_some _) rfl)
 | true =>
  have := key ps [] rfl
  simp only [e47, ofL_append, size_ofL, if_true]
  refine (ev_pos (by omega) (ev_pos (by first | omega | (simp only [List.length_append, List.length_cons, List.length_nil]; omega)) ?_))
  simpa [ktail] using this
theorem impl_FormatKind_ev (a b : Str) (ps : List (Str × Str)) (ha : a.length ≤ 1048576) (hb : b.length ≤ 1048576) (hz : szp ps ≤ 1048576) (hn : ps.length ≤ 1048576) : Ev (fun k => impl_FormatKind.f k (ofL a) (ofL b) (ps.map e76)) (ofL (if kvalid a b ps = true then ktext a b ps else [])) := by
 unfold impl_FormatKind.f
 refine ev_bind (impl_KindValid_ev a b ps ha hb hz hn) ?_
 cases e : kvalid a b ps with
 | false => exact ev_neg (by simp) (ev_eq (ev_some _) rfl)
 | true => exact ev_pos rfl (ev_bind (impl_kindText_ev a b ps ha hb hz hn) (ev_some _))

/-! Kinds parsed: the model. -/
def rdq : Str → Option (Str × Str)
 | [] => none
 | c :: r => if c = 34 then some ([], r) else if c = 92 then (match r with
   | [] => none
   | d :: t => (rdq t).map fun q => (d :: q.1, q.2)) else (rdq r).map fun q => (c :: q.1, q.2)
theorem rdq_cons (c : UInt8) (r : Str) : rdq (c :: r) = if c = 34 then some ([], r) else if c = 92 then (match r with
   | [] => none
   | d :: t => (rdq t).map fun q => (d :: q.1, q.2)) else (rdq r).map fun q => (c :: q.1, q.2) := by rw [rdq.eq_def]; rfl
def nq (q : Nat) (c : UInt8) : Nat := if q = 2 then 1 else if q = 1 then (if c = 34 then 0 else if c = 92 then 2 else 1) else (if c = 34 then 1 else 0)
def cut0 (b : UInt8) : Nat → Str → Option (Str × Str)
 | _, [] => none
 | q, c :: r => if q = 0 ∧ c = b then some ([], r) else (cut0 b (nq q c) r).map fun x => (c :: x.1, x.2)
def hd1 (c : UInt8) : List Str → List Str
 | [] => [[c]]
 | x :: r => (c :: x) :: r
def parts (b : UInt8) : Nat → Str → List Str
 | _, [] => [[]]
 | q, c :: r => if q = 0 ∧ c = b then [] :: parts b 0 r else hd1 c (parts b (nq q c) r)
theorem rdq_suf (b : UInt8) : ∀ (n : Nat) (r w t : Str), r.length ≤ n → rdq r = some (w, t) → ∃ m, r = m ++ t ∧ w.length < m.length ∧ cut0 b 1 r = (cut0 b 0 t).map fun x => (m ++ x.1, x.2) := by
 intro n
 induction n with
 | zero => intro r w t h h2; cases r with
  | nil => cases h2
  | cons c r => simp at h
 | succ n ih =>
  intro r w t h h2
  cases r with
  | nil => cases h2
  | cons c r =>
   simp only [List.length_cons] at h
   rw [rdq_cons] at h2
   by_cases c1 : c = 34
   ·
    rw [if_pos c1] at h2
    cases h2
    refine ⟨[c], rfl, by simp, ?_⟩
    rw [cut0, if_neg (by simp), c1]
    rfl
   ·
    rw [if_neg c1] at h2
    by_cases c2 : c = 92
    ·
     rw [if_pos c2] at h2
     cases r with
     | nil => cases h2
     | cons d r =>
      simp only [List.length_cons] at h
      simp only [Option.map_eq_some_iff] at h2
      obtain ⟨⟨w1, t1⟩, e1, e2⟩ := h2
      cases e2
      obtain ⟨m, e3, e4, e5⟩ := ih r w1 t1 (by omega) e1
      refine ⟨c :: d :: m, by rw [e3]; rfl, by simp only [List.length_cons]; omega, ?_⟩
      rw [cut0, if_neg (by simp), c2, cut0, if_neg (by simp [nq])]
      have : nq (nq 1 92) d = 1 := by simp [nq]
      rw [this, e5]
      cases cut0 b 0 t1 <;> rfl
    ·
     rw [if_neg c2] at h2
     simp only [Option.map_eq_some_iff] at h2
     obtain ⟨⟨w1, t1⟩, e1, e2⟩ := h2
     cases e2
     obtain ⟨m, e3, e4, e5⟩ := ih r w1 t1 (by omega) e1
     refine ⟨c :: m, by rw [e3]; rfl, by simp only [List.length_cons]; omega, ?_⟩
     have : nq 1 c = 1 := by simp [nq, c1, c2]
     rw [cut0, if_neg (by simp), this, e5]
     cases cut0 b 0 t1 <;> rfl
theorem rdq_none (b : UInt8) : ∀ (n : Nat) (r : Str), r.length ≤ n → rdq r = none → cut0 b 1 r = none := by
 intro n
 induction n with
 | zero => intro r h h2; cases r with
  | nil => rfl
  | cons c r => simp at h
 | succ n ih =>
  intro r h h2
  cases r with
  | nil => rfl
  | cons c r =>
   simp only [List.length_cons] at h
   rw [rdq_cons] at h2
   by_cases c1 : c = 34
   ·
    rw [if_pos c1] at h2; cases h2
   ·
    rw [if_neg c1] at h2
    by_cases c2 : c = 92
    ·
     rw [if_pos c2] at h2
     cases r with
     | nil => rw [cut0, if_neg (by simp)]; rfl
     | cons d r =>
      simp only [List.length_cons] at h
      simp only [Option.map_eq_none_iff] at h2
      rw [cut0, if_neg (by simp), c2, cut0, if_neg (by simp [nq])]
      have : nq (nq 1 92) d = 1 := by simp [nq]
      rw [this, ih r (by omega) h2]; rfl
    ·
     rw [if_neg c2] at h2
     simp only [Option.map_eq_none_iff] at h2
     have : nq 1 c = 1 := by simp [nq, c1, c2]
     rw [cut0, if_neg (by simp), this, ih r (by omega) h2]; rfl
theorem cut0_eq (b : UInt8) (s : Str) : ∀ (q : Nat) (x t : Str), cut0 b q s = some (x, t) → s = x ++ b :: t := by
 induction s with
 | nil => intro q x t h; cases h
 | cons c r ih =>
  intro q x t h
  rw [cut0] at h
  split at h
  ·
   rename_i hc; cases h; rw [hc.2]; rfl
  ·
   simp only [Option.map_eq_some_iff] at h
   obtain ⟨⟨w1, t1⟩, e1, e2⟩ := h
   cases e2
   rw [ih _ _ _ e1]; rfl
theorem parts_cut (b : UInt8) (s : Str) : ∀ q : Nat, parts b q s = match cut0 b q s with
  | none => [s]
  | some x => x.1 :: parts b 0 x.2 := by
 induction s with
 | nil => intro q; rfl
 | cons c r ih =>
  intro q
  rw [parts, cut0]
  by_cases h : q = 0 ∧ c = b
  ·
   rw [if_pos h, if_pos h]
  ·
   rw [if_neg h, if_neg h, ih]
   cases cut0 b (nq q c) r <;> rfl
theorem parts_len (b : UInt8) (s : Str) : ∀ q : Nat, 1 ≤ (parts b q s).length ∧ (parts b q s).length ≤ s.length + 1 := by
 induction s with
 | nil => intro q; exact ⟨Nat.le_refl _, Nat.le_refl _⟩
 | cons c r ih =>
  intro q
  rw [parts]
  split
  ·
   have := ih 0; simp only [List.length_cons]; omega
  ·
   have := ih (nq q c)
   cases e : parts b (nq q c) r with
   | nil => rw [e] at this; simp at this
   | cons y l => rw [e] at this; simp only [hd1, List.length_cons] at this ⊢; omega
/-- Each part is a piece of the text. -/
theorem parts_mem (b : UInt8) (s : Str) : ∀ (q : Nat) (x : Str), x ∈ parts b q s → x.length ≤ s.length ∧ ∀ c ∈ x, c ∈ s := by
 induction s with
 | nil => intro q x h; simp only [parts, List.mem_singleton] at h; subst h; simp
 | cons c r ih =>
  intro q x h
  rw [parts] at h
  split at h
  ·
   rcases List.mem_cons.mp h with rfl | h
   ·
    simp
   ·
    obtain ⟨h1, h2⟩ := ih _ x h
    exact ⟨by simp only [List.length_cons]; omega, fun d hd => List.mem_cons_of_mem _ (h2 d hd)⟩
  ·
   cases e : parts b (nq q c) r with
   | nil => have := parts_len b r (nq q c); rw [e] at this; simp at this
   | cons y l =>
    rw [e, hd1] at h
    rcases List.mem_cons.mp h with rfl | h
    ·
     obtain ⟨h1, h2⟩ := ih (nq q c) y (by rw [e]; simp)
     refine ⟨by simp only [List.length_cons]; omega, fun d hd => ?_⟩
     rcases List.mem_cons.mp hd with rfl | hd
     ·
      simp
     ·
      exact List.mem_cons_of_mem _ (h2 d hd)
    ·
     obtain ⟨h1, h2⟩ := ih (nq q c) x (by rw [e]; exact List.mem_cons_of_mem _ h)
     exact ⟨by simp only [List.length_cons]; omega, fun d hd => List.mem_cons_of_mem _ (h2 d hd)⟩
/-! Words. -/
def wds : Nat → Bool → Str → Option (List Str)
 | 0, _, _ => none
 | _ + 1, _, [] => some []
 | n + 1, a, c :: r => if c = 32 then wds n true r else if a = false then none else if c = 34 then (match rdq r with
   | none => none
   | some q => (wds n false q.2).map (q.1 :: ·)) else if (c :: r).takeWhile atB = [] then none else (wds n false ((c :: r).dropWhile atB)).map ((c :: r).takeWhile atB :: ·)
def words (s : Str) : Option (List Str) := wds (s.length + 1) true s
/-! Cut at a byte. -/
def cutB (b : UInt8) : Str → Option (Str × Str)
 | [] => none
 | c :: r => if c = b then some ([], r) else (cutB b r).map fun x => (c :: x.1, x.2)
theorem cutB_eq (b : UInt8) (s : Str) : ∀ (x t : Str), cutB b s = some (x, t) → s = x ++ b :: t := by
 induction s with
 | nil => intro x t h; cases h
 | cons c r ih =>
  intro x t h
  rw [cutB] at h
  split at h
  ·
   rename_i hc; cases h; rw [hc]; rfl
  ·
   simp only [Option.map_eq_some_iff] at h
   obtain ⟨⟨w1, t1⟩, e1, e2⟩ := h
   cases e2
   rw [ih _ _ e1]; rfl
theorem index_B (b : UInt8) (s : Str) : Lib.index s [b] = match cutB b s with
  | none => -1
  | some x => (x.1.length : Int) := by
 induction s with
 | nil => rfl
 | cons c r ih =>
  rw [Lib.index, cutB]
  by_cases h : c = b
  ·
   rw [if_pos (by simp [List.isPrefixOf, h]), if_pos h]; rfl
  ·
   rw [if_neg (by simp only [List.isPrefixOf, Bool.and_true, beq_iff_eq]; exact fun e => h e.symm), if_neg h, ih]
   cases e : cutB b r with
   | none => rfl
   | some q =>
    simp only [Option.map_some, List.length_cons]
    rw [if_neg (by simp)]
    rfl
theorem cut_B (b : UInt8) (s : Str) : Lib.cut s [b] = match cutB b s with
  | none => (s, [], false)
  | some x => (x.1, x.2, true) := by
 unfold Lib.cut
 rw [index_B]
 cases e : cutB b s with
 | none => rfl
 | some q =>
  obtain ⟨x, t⟩ := q
  have := cutB_eq b s x t e
  simp only
  rw [if_pos (by omega)]
  subst this
  simp
def trim (l : Str) : Str := Lib.trimB l 32
theorem dropWhile_suf (p : UInt8 → Bool) (l : Str) : ∃ m, l = m ++ l.dropWhile p ∧ ∀ c ∈ m, p c = true := by
 induction l with
 | nil => exact ⟨[], rfl, by simp⟩
 | cons c r ih =>
  cases e : p c with
  | true =>
   obtain ⟨m, h1, h2⟩ := ih
   refine ⟨c :: m, by simp [List.dropWhile, e]; exact h1, fun d hd => ?_⟩
   rcases List.mem_cons.mp hd with rfl | hd
   ·
    exact e
   ·
    exact h2 d hd
  | false => exact ⟨[], by simp [List.dropWhile, e], by simp⟩
/-- What is trimmed: spaces ahead and behind. -/
theorem trim_split (l : Str) : ∃ i j, l = List.replicate i 32 ++ trim l ++ List.replicate j 32 := by
 unfold trim Lib.trimB Lib.trimLeftB Lib.trimRightB
 have rep : ∀ m : Str, (∀ c ∈ m, (c == 32) = true) → m = List.replicate m.length 32 := fun m h => List.eq_replicate_iff.mpr ⟨rfl, fun c hc => by simpa using h c hc⟩
 obtain ⟨m, h1, h2⟩ := dropWhile_suf (· == 32) l.reverse
 obtain ⟨m2, h3, h4⟩ := dropWhile_suf (· == 32) (l.reverse.dropWhile (· == 32)).reverse
 refine ⟨m2.length, m.length, ?_⟩
 rw [← rep m2 h4, ← h3]
 have e : m.reverse = List.replicate m.length 32 := by
  have := rep m.reverse (fun c hc => h2 c (List.mem_reverse.mp hc))
  rwa [List.length_reverse] at this
 rw [← e, ← List.reverse_append, ← h1, List.reverse_reverse]
theorem trim_len (l : Str) : (trim l).length ≤ l.length := by
 obtain ⟨i, j, h⟩ := trim_split l
 have := congrArg List.length h
 simp only [List.length_append] at this
 omega
theorem trim_mem (l : Str) : ∀ c ∈ trim l, c ∈ l := by
 obtain ⟨i, j, h⟩ := trim_split l
 intro c hc
 rw [h]
 simp [hc]
theorem mem_trim (l : Str) (c : UInt8) (hc : c ∈ l) (h32 : c ≠ 32) : c ∈ trim l := by
 obtain ⟨i, j, h⟩ := trim_split l
 rw [h] at hc
 simp only [List.mem_append, List.mem_replicate] at hc
 rcases hc with (⟨_, h⟩ | h) | ⟨_, h⟩
 ·
  exact absurd h h32
 ·
  exact h
 ·
  exact absurd h h32
theorem trim_cons (l : Str) : trim (32 :: l) = trim l := by
 unfold trim Lib.trimB Lib.trimLeftB Lib.trimRightB
 rw [List.reverse_cons, List.dropWhile_append]
 split
 ·
  rename_i h
  have : l.reverse.dropWhile (· == 32) = [] := by simpa using h
  rw [this]; rfl
 ·
  rw [List.reverse_append]; simp
theorem trim_snoc (l : Str) : trim (l ++ [32]) = trim l := by
 unfold trim Lib.trimB Lib.trimRightB
 rw [List.reverse_append]; simp
theorem trim_free (l : Str) (h : ∀ c ∈ l, c ≠ 32) : trim l = l := by
 obtain ⟨i, j, e⟩ := trim_split l
 have h1 : i = 0 := by
  cases i with
  | zero => rfl
  | succ i => exact absurd rfl (h 32 (by rw [e]; simp))
 have h2 : j = 0 := by
  cases j with
  | zero => rfl
  | succ j => exact absurd rfl (h 32 (by rw [e]; simp))
 subst h1; subst h2
 simpa using e.symm
/-- One parameter; all of them; a kind. -/
def par1 (s : Str) : Option (Str × Str) := match cutB 61 s with
 | none => none
 | some x => match words x.2 with
  | some [w] => some (low (trim x.1), w)
  | _ => none
def pars : List Str → Option (List (Str × Str))
 | [] => some []
 | s :: r => match par1 s with
  | none => none
  | some x => (pars r).map (x :: ·)
def pkO (o : Option (Str × Str)) (ps : Option (List (Str × Str))) : Option (Str × Str × List (Str × Str)) := match o, ps with
 | some x, some ps => if kvalid (low x.1) (low x.2) ps = true then some (low x.1, low x.2, ps) else none
 | _, _ => none
def pk (s : Str) : Option (Str × Str × List (Str × Str)) := if tvalid s = true then pkO (cutB 47 (trim ((parts 59 0 s).headD []))) (pars ((parts 59 0 s).drop 1)) else none

/-! Kinds parsed: the program. -/
theorem u8_inj (c b : UInt8) : ((c.toNat : Int) = (b.toNat : Int)) ↔ c = b := by
 constructor
 ·
  intro e; exact UInt8.toNat_inj.mp (by omega)
 ·
  intro e; rw [e]
def qres (L : Nat) (acc : Str) : Option (Str × Str) → ByteArray × Int × Bool
 | none => (ofL [], 0, false)
 | some q => (ofL (acc ++ q.1), ((L - q.2.length : Nat) : Int), true)
theorem impl_quoted_loop (l : Str) (hl : l.length ≤ 1048576) : ∀ (n : Nat) (r p acc : Str), r.length ≤ n → l = p ++ r → acc.length ≤ p.length → Ev (fun k => impl_quoted.l0 k (ofL l) (zn acc) (p.length : Int)) (qres l.length acc (rdq r)) := by
 intro n
 induction n with
 | zero =>
  intro r p acc h h2 h3
  have : r = [] := List.length_eq_zero_iff.mp (by omega)
  subst this
  rw [List.append_nil] at h2
  subst h2
  refine ev_succ ?_
  simp only [impl_quoted.l0, size_ofL]
  exact ev_neg (by omega) (ev_eq (ev_some _) rfl)
 | succ n ih =>
  intro r p acc h h2 h3
  cases r with
  | nil =>
   rw [List.append_nil] at h2
   subst h2
   refine ev_succ ?_
   simp only [impl_quoted.l0, size_ofL]
   exact ev_neg (by omega) (ev_eq (ev_some _) rfl)
  | cons c r =>
   simp only [List.length_cons] at h
   have hz := len_mid h2
   have e1 := bt_ofL_mid h2
   have w1 : wrap64 ((p.length : Int) + 1) = ((p.length + 1 : Nat) : Int) := (wrap_id (by omega) (by omega)).trans (by omega)
   have h34 : (c.toNat : Int) = 34 ↔ c = 34 := u8_eq c 34 (by omega)
   have h92 : (c.toNat : Int) = 92 ↔ c = 92 := u8_eq c 92 (by omega)
   refine ev_succ ?_
   simp only [impl_quoted.l0, e1, w1, size_ofL, zn_length]
   clear e1 w1
   rw [rdq_cons]
   refine ev_pos (by omega) (ev_pos (by omega) ?_)
   by_cases c1 : (c.toNat : Int) = 34
   ·
    refine ev_pos c1 (ev_eq (ev_some _) ?_)
    rw [if_pos (h34.mp c1), qres, strOfNums_zn, show l.length - r.length = p.length + 1 by omega]
    simp
   ·
    refine ev_neg c1 ?_
    rw [if_neg (fun hh => c1 (h34.mpr hh))]
    by_cases c2 : (c.toNat : Int) = 92
    ·
     refine ev_pos c2 ?_
     rw [if_pos (h92.mp c2)]
     cases r with
     | nil =>
      simp only [List.length_nil] at hz
      exact ev_pos (by omega) (ev_eq (ev_some _) rfl)
     | cons d r =>
      simp only [List.length_cons] at h hz
      have e2 : bt (ofL l) ((p.length + 1 : Nat) : Int) = (d.toNat : Int) := by
       have := bt_ofL_mid (l := l) (p := p ++ [c]) (c := d) (r := r) (by rw [h2]; simp)
       rwa [List.length_append] at this
      have w2 : wrap64 (((p.length + 1 : Nat) : Int) + 1) = ((p.length + 2 : Nat) : Int) := (wrap_id (by omega) (by omega)).trans (by omega)
      have := ih r (p ++ [c, d]) (acc ++ [d]) (by omega) (by rw [h2]; simp) (by simp; omega)
      rw [zn_append, List.length_append] at this
      have e3 : ([(d.toNat : Int)] : List Int) = zn [d] := rfl
      rw [e2, w2, e3]
      clear e2 w2
      refine ev_neg (by omega) (ev_pos (by omega) (ev_pos (by omega) (ev_pos (by omega) (ev_eq this ?_))))
      show _ = qres l.length acc ((rdq r).map fun q => (d :: q.1, q.2))
      cases rdq r with
      | none => rfl
      | some q => simp [qres]
    ·
     refine ev_neg c2 ?_
     rw [if_neg (fun hh => c2 (h92.mpr hh))]
     have := ih r (p ++ [c]) (acc ++ [c]) (by omega) (by rw [h2]; simp) (by simp; omega)
     rw [zn_append, List.length_append] at this
     have e3 : ([(c.toNat : Int)] : List Int) = zn [c] := rfl
     rw [e3]
     refine ev_pos (by omega) (ev_eq this ?_)
     cases rdq r with
     | none => rfl
     | some q => simp [qres]
theorem impl_quoted_ev (c : UInt8) (r : Str) (hl : r.length ≤ 1048575) : Ev (fun k => impl_quoted.f k (ofL (c :: r))) (qres (r.length + 1) [] (rdq r)) := impl_quoted_loop (c :: r) (by simp only [List.length_cons]; omega) r.length r [c] [] (Nat.le_refl _) rfl (by simp)
def ores (p : Nat) : Option (Str × Str) → Int
 | none => -1
 | some q => ((p + q.1.length : Nat) : Int)
theorem drop_mid {l p r : Str} (h : l = p ++ r) : l.drop p.length = r := by rw [h, List.drop_left]
theorem impl_outside_loop (l : Str) (b : UInt8) (hb : b ≠ 34) (hl : l.length ≤ 1048576) : ∀ (n : Nat) (r p : Str), r.length ≤ n → l = p ++ r → Ev (fun k => impl_outside.l0 k (ofL l) (b.toNat : Int) (p.length : Int)) (ores p.length (cut0 b 0 r)) := by
 intro n
 induction n with
 | zero =>
  intro r p h h2
  have : r = [] := List.length_eq_zero_iff.mp (by omega)
  subst this
  rw [List.append_nil] at h2
  subst h2
  refine ev_succ ?_
  simp only [impl_outside.l0, size_ofL]
  exact ev_neg (by omega) (ev_eq (ev_some _) rfl)
 | succ n ih =>
  intro r p h h2
  cases r with
  | nil =>
   rw [List.append_nil] at h2
   subst h2
   refine ev_succ ?_
   simp only [impl_outside.l0, size_ofL]
   exact ev_neg (by omega) (ev_eq (ev_some _) rfl)
  | cons c r =>
   simp only [List.length_cons] at h
   have hz := len_mid h2
   have e1 := bt_ofL_mid h2
   have w1 : wrap64 ((p.length : Int) + 1) = ((p.length + 1 : Nat) : Int) := (wrap_id (by omega) (by omega)).trans (by omega)
   have h34 : (c.toNat : Int) = 34 ↔ c = 34 := u8_eq c 34 (by omega)
   have hbb := u8_inj c b
   have ex : (ofL l).extract (p.length : Int).toNat l.length = ofL (c :: r) := by
    rw [Int.toNat_natCast, extract_ofL, drop_mid h2, List.take_of_length_le (by simp only [List.length_cons]; omega)]
   refine ev_succ ?_
   simp only [impl_outside.l0, e1, w1, size_ofL, ex]
   clear e1 w1 ex
   rw [cut0]
   refine ev_pos (by omega) (ev_pos (by omega) ?_)
   by_cases c1 : (c.toNat : Int) = 34
   ·
    have hc := h34.mp c1
    refine ev_pos c1 (ev_pos (by omega) (ev_bind (impl_quoted_ev c r (by omega)) ?_))
    rw [if_neg (by intro hh; exact hb (hh.2.symm.trans hc)), show nq 0 c = 1 by rw [hc]; rfl]
    cases e : rdq r with
    | none => rw [rdq_none b r.length r (Nat.le_refl _) e]; exact ev_neg (by simp [qres]) (ev_eq (ev_some _) rfl)
    | some q =>
     obtain ⟨w, t⟩ := q
     obtain ⟨m, h3, h4, h5⟩ := rdq_suf b r.length r w t (Nat.le_refl _) e
     have hm : r.length = m.length + t.length := by rw [h3, List.length_append]
     have := ih t (p ++ c :: m) (by omega) (by rw [h2, h3]; simp)
     refine ev_pos rfl ?_
     simp only [qres]
     have w2 : wrap64 (((r.length + 1 - t.length : Nat) : Int) - 1) = (m.length : Int) := (wrap_id (by omega) (by omega)).trans (by omega)
     rw [w2]
     clear w2
     have w3 : wrap64 ((p.length : Int) + (m.length : Int)) = ((p.length + m.length : Nat) : Int) := (wrap_id (by omega) (by omega)).trans (by omega)
     rw [w3]
     clear w3
     have w4 : wrap64 (((p.length + m.length : Nat) : Int) + 1) = ((p ++ c :: m).length : Int) := (wrap_id (by omega) (by omega)).trans (by simp only [List.length_append, List.length_cons]; omega)
     rw [w4, h5]
     clear w4
     refine ev_eq this ?_
     cases cut0 b 0 t with
     | none => rfl
     | some x => simp only [Option.map_some, ores, List.length_append, List.length_cons]; omega
   ·
    refine ev_neg c1 ?_
    have hc : ¬ c = 34 := fun hh => c1 (h34.mpr hh)
    by_cases c2 : c = b
    ·
     rw [if_pos ⟨rfl, c2⟩]
     exact ev_pos (hbb.mpr c2) (ev_eq (ev_some _) (by simp [ores]))
    ·
     rw [if_neg (fun hh => c2 hh.2), show nq 0 c = 0 by simp [nq, hc]]
     have := ih r (p ++ [c]) (by omega) (by rw [h2]; simp)
     rw [List.length_append] at this
     refine ev_neg (fun hh => c2 (hbb.mp hh)) (ev_eq this ?_)
     cases cut0 b 0 r with
     | none => rfl
     | some x => simp only [Option.map_some, ores, List.length_append, List.length_cons, List.length_nil]; omega
theorem impl_outside_ev (l : Str) (b : UInt8) (hb : b ≠ 34) (hl : l.length ≤ 1048576) : Ev (fun k => impl_outside.f k (ofL l) (b.toNat : Int)) (ores 0 (cut0 b 0 l)) := impl_outside_loop l b hb hl l.length l [] (Nat.le_refl _) rfl
theorem impl_splitOutside_loop (b : UInt8) (hb : b ≠ 34) : ∀ (n : Nat) (s : Str) (acc : List Str), s.length ≤ n → s.length + acc.length ≤ 1048576 → Ev (fun k => impl_splitOutside.l0 k (ofL s) (b.toNat : Int) (acc.map ofL)) ((acc ++ parts b 0 s).map ofL) := by
 intro n
 induction n with
 | zero =>
  intro s acc h h2
  have : s = [] := List.length_eq_zero_iff.mp (by omega)
  subst this
  refine ev_succ ?_
  simp only [impl_splitOutside.l0, List.length_map]
  refine ev_bind (impl_outside_ev [] b hb (by simp)) (ev_pos (by simp [cut0, ores]) (ev_pos (by simp at h2; omega) (ev_eq (ev_some _) ?_)))
  simp [parts]
 | succ n ih =>
  intro s acc h h2
  refine ev_succ ?_
  simp only [impl_splitOutside.l0, List.length_map, size_ofL]
  refine ev_bind (impl_outside_ev s b hb (by omega)) ?_
  rw [parts_cut]
  cases e : cut0 b 0 s with
  | none => exact ev_pos (by simp [ores]) (ev_pos (by omega) (ev_eq (ev_some _) (by simp)))
  | some q =>
   obtain ⟨x, t⟩ := q
   have hs := cut0_eq b s 0 x t e
   have hz : s.length = x.length + (t.length + 1) := by rw [hs]; simp
   have := ih t (acc ++ [x]) (by omega) (by simp; omega)
   have w1 : wrap64 ((x.length : Int) + 1) = ((x.length + 1 : Nat) : Int) := (wrap_id (by omega) (by omega)).trans (by omega)
   simp only [ores, Nat.zero_add, w1, Int.toNat_natCast, extract_ofL, List.drop_zero, Nat.sub_zero]
   have e1 : s.take x.length = x := by rw [hs, List.take_left]
   have e2 : (s.drop (x.length + 1)).take (s.length - (x.length + 1)) = t := by
    rw [List.take_of_length_le (by simp), hs, ← List.drop_drop, List.drop_left]; rfl
   rw [e1, e2]
   clear w1
   refine ev_neg (by omega) (ev_pos (by omega) (ev_pos (by omega) (ev_pos (by omega) (ev_pos (by omega) (ev_pos (by omega) (ev_eq (r := ((acc ++ [x] ++ parts b 0 t).map ofL)) ?_ (by simp)))))))
   simpa using this
theorem impl_splitOutside_ev (s : Str) (hs : s.length ≤ 1048576) : Ev (fun k => impl_splitOutside.f k (ofL s) 59) ((parts 59 0 s).map ofL) := by
 have := impl_splitOutside_loop 59 (by decide) s.length s [] (Nat.le_refl _) (by simpa using hs)
 unfold impl_splitOutside.f
 simpa using this

def wres (acc : List Str) : Option (List Str) → List ByteArray × Bool
 | none => ([], false)
 | some ws => ((acc ++ ws).map ofL, true)
theorem takeWhile_mid (p : UInt8 → Bool) (x : UInt8) (a r : Str) (ha : a.all p = true) (hx : p x = false) : (a ++ x :: r).takeWhile p = a ∧ (a ++ x :: r).dropWhile p = x :: r := by
 induction a with
 | nil => simp [List.takeWhile, List.dropWhile, hx]
 | cons c a ih =>
  simp only [List.all_cons, Bool.and_eq_true] at ha
  have := ih ha.2
  simp only [List.cons_append, List.takeWhile, List.dropWhile, ha.1]
  exact ⟨congrArg _ this.1, this.2⟩
theorem takeWhile_all (p : UInt8 → Bool) (a : Str) (ha : a.all p = true) : a.takeWhile p = a ∧ a.dropWhile p = [] := by
 induction a with
 | nil => simp
 | cons c a ih =>
  simp only [List.all_cons, Bool.and_eq_true] at ha
  have := ih ha.2
  simp only [List.takeWhile, List.dropWhile, ha.1]
  exact ⟨congrArg _ this.1, this.2⟩
/-- The run of an atom, from its begin. -/
theorem impl_SplitWords_run (l : Str) (acc : List Str) (hl : l.length ≤ 1048576) (ha : acc.length ≤ 1048576) (p : Str) (v : List ByteArray × Bool) : ∀ (r a : Str), l = p ++ (a ++ r) → a.all atB = true →
  (a ++ r.takeWhile atB = [] → v = ([], false)) →
  (a ++ r.takeWhile atB ≠ [] → Ev (fun k => impl_SplitWords.l0 k (ofL l) ((acc ++ [a ++ r.takeWhile atB]).map ofL) (((p ++ (a ++ r.takeWhile atB)).length : Nat) : Int) false) v) →
  Ev (fun k => impl_SplitWords.l1 k (ofL l) (acc.map ofL) (p.length : Int) (((p ++ a).length : Nat) : Int)) v := by
 intro r
 induction r with
 | nil =>
  intro a h h2 h3 h4
  have hz : l.length = p.length + a.length := by rw [h]; simp
  have hpa : (p ++ a).length = p.length + a.length := by simp
  simp only [List.takeWhile_nil, List.append_nil] at h3 h4
  refine ev_succ ?_
  simp only [impl_SplitWords.l1, size_ofL, List.length_map]
  refine ev_neg (by omega) ?_
  by_cases e : a = []
  ·
   rw [h3 e]; subst e; exact ev_pos (by simp) (ev_some _)
  ·
   have hne : 0 < a.length := List.length_pos_iff.mpr e
   have ex : (ofL l).extract (p.length : Int).toNat (((p ++ a).length : Nat) : Int).toNat = ofL a := by
    rw [Int.toNat_natCast, Int.toNat_natCast, extract_ofL, drop_mid h, hpa, List.append_nil]
    rw [List.take_of_length_le (by omega)]
   rw [ex]
   have := h4 e
   rw [List.map_append, List.map_singleton] at this
   exact ev_neg (by omega) (ev_pos (by omega) (ev_pos (by omega) (ev_pos (by omega) (ev_pos (by omega) this))))
 | cons c r ih =>
  intro a h h2 h3 h4
  have hz : l.length = p.length + (a.length + (r.length + 1)) := by rw [h]; simp
  have hpa : (p ++ a).length = p.length + a.length := by simp
  have e1 : bt (ofL l) (((p ++ a).length : Nat) : Int) = (c.toNat : Int) := bt_ofL_mid (l := l) (p := p ++ a) (c := c) (r := r) (by rw [h]; simp)
  have w1 : wrap64 ((((p ++ a).length : Nat) : Int) + 1) = ((p ++ (a ++ [c])).length : Int) := (wrap_id (by omega) (by omega)).trans (by simp only [List.length_append, List.length_cons, List.length_nil]; omega)
  refine ev_succ ?_
  simp only [impl_SplitWords.l1, size_ofL, List.length_map, e1, w1]
  clear e1 w1
  refine ev_pos (by omega) (ev_pos (by omega) (ev_bind0 (impl_isAtomByte_eq c) ?_))
  cases e : atB c with
  | true =>
   refine ev_pos rfl ?_
   have ec : a ++ (c :: r).takeWhile atB = a ++ [c] ++ r.takeWhile atB := by simp [List.takeWhile, e]
   refine ih (a ++ [c]) (by rw [h]; simp) (by simp [h2, e]) (fun hh => h3 (by rw [ec]; exact hh)) (fun hh => ?_)
   have := h4 (by rw [ec]; exact hh)
   rwa [ec] at this
  | false =>
   have et : (c :: r).takeWhile atB = [] := by simp [List.takeWhile, e]
   rw [et, List.append_nil] at h3 h4
   refine ev_neg (by simp) ?_
   by_cases e : a = []
   ·
    rw [h3 e]; subst e; exact ev_pos (by simp) (ev_some _)
   ·
    have hne : 0 < a.length := List.length_pos_iff.mpr e
    have ex : (ofL l).extract (p.length : Int).toNat (((p ++ a).length : Nat) : Int).toNat = ofL a := by
     rw [Int.toNat_natCast, Int.toNat_natCast, extract_ofL, drop_mid h, hpa, show p.length + a.length - p.length = a.length by omega, List.take_left]
    rw [ex]
    have := h4 e
    rw [List.map_append, List.map_singleton] at this
    exact ev_neg (by omega) (ev_pos (by omega) (ev_pos (by omega) (ev_pos (by omega) (ev_pos (by omega) this))))
theorem split_while (p : UInt8 → Bool) (l : Str) : l.takeWhile p ++ l.dropWhile p = l := List.takeWhile_append_dropWhile
theorem impl_SplitWords_loop (l : Str) (hl : l.length ≤ 1048576) : ∀ (n : Nat) (r p : Str) (acc : List Str) (a : Bool), r.length < n → l = p ++ r → acc.length ≤ p.length → Ev (fun k => impl_SplitWords.l0 k (ofL l) (acc.map ofL) (p.length : Int) a) (wres acc (wds n a r)) := by
 intro n
 induction n with
 | zero => intro r p acc a h; omega
 | succ n ih =>
  intro r p acc a h h2 h3
  refine ev_succ ?_
  cases r with
  | nil =>
   rw [List.append_nil] at h2
   subst h2
   simp only [impl_SplitWords.l0, size_ofL]
   exact ev_neg (by omega) (ev_eq (ev_some _) (by simp [wds, wres]))
  | cons c r =>
   simp only [List.length_cons] at h
   have hz := len_mid h2
   have e1 := bt_ofL_mid h2
   have w1 : wrap64 ((p.length : Int) + 1) = (((p ++ [c]).length : Nat) : Int) := (wrap_id (by omega) (by omega)).trans (by simp)
   have h32 : (c.toNat : Int) = 32 ↔ c = 32 := u8_eq c 32 (by omega)
   have h34 : (c.toNat : Int) = 34 ↔ c = 34 := u8_eq c 34 (by omega)
   have ex : (ofL l).extract (p.length : Int).toNat l.length = ofL (c :: r) := by
    rw [Int.toNat_natCast, extract_ofL, drop_mid h2, List.take_of_length_le (by simp only [List.length_cons]; omega)]
   simp only [impl_SplitWords.l0, e1, w1, size_ofL, ex, List.length_map]
   clear e1 w1 ex
   rw [wds]
   refine ev_pos (by omega) (ev_pos (by omega) ?_)
   by_cases c1 : (c.toNat : Int) = 32
   ·
    rw [if_pos (h32.mp c1)]
    exact ev_pos c1 (ih r (p ++ [c]) acc true (by omega) (by rw [h2]; simp) (by simp; omega))
   ·
    rw [if_neg (fun hh => c1 (h32.mpr hh))]
    refine ev_neg c1 ?_
    cases a with
    | false => exact ev_neg (by simp) (ev_eq (ev_some _) rfl)
    | true =>
     refine ev_pos rfl ?_
     rw [if_neg (by simp)]
     by_cases c2 : (c.toNat : Int) = 34
     ·
      rw [if_pos (h34.mp c2)]
      refine ev_pos c2 (ev_pos (by omega) (ev_bind (impl_quoted_ev c r (by omega)) ?_))
      cases e : rdq r with
      | none => exact ev_neg (by simp [qres]) (ev_eq (ev_some _) rfl)
      | some q =>
       obtain ⟨w, t⟩ := q
       obtain ⟨m, h4, h5, _⟩ := rdq_suf 0 r.length r w t (Nat.le_refl _) e
       have hm : r.length = m.length + t.length := by rw [h4, List.length_append]
       have := ih t (p ++ c :: m) (acc ++ [w]) false (by omega) (by rw [h2, h4]; simp) (by simp; omega)
       have w2 : wrap64 ((p.length : Int) + ((r.length + 1 - t.length : Nat) : Int)) = ((p ++ c :: m).length : Int) := (wrap_id (by omega) (by omega)).trans (by simp only [List.length_append, List.length_cons]; omega)
       simp only [qres, List.nil_append, w2]
       rw [List.map_append, List.map_singleton] at this
       refine ev_pos trivial (ev_pos (by omega) (ev_eq this ?_))
       cases wds n false t with
       | none => rfl
       | some ws => simp [wres]
     ·
      rw [if_neg (fun hh => c2 (h34.mpr hh))]
      refine ev_neg c2 ?_
      have hsw := split_while atB (c :: r)
      refine impl_SplitWords_run l acc hl (by omega) p _ (c :: r) [] h2 rfl (fun hh => ?_) (fun hh => ?_) |> fun hq => by simpa using hq
      ·
       rw [List.nil_append] at hh; rw [if_pos hh]; rfl
      ·
       rw [List.nil_append] at hh ⊢
       rw [if_neg hh]
       have hne : 0 < ((c :: r).takeWhile atB).length := List.length_pos_iff.mpr hh
       have hlen : ((c :: r).takeWhile atB).length + ((c :: r).dropWhile atB).length = r.length + 1 := by
        have := congrArg List.length hsw
        rwa [List.length_append, List.length_cons] at this
       have := ih ((c :: r).dropWhile atB) (p ++ (c :: r).takeWhile atB) (acc ++ [(c :: r).takeWhile atB]) false (by omega) (by rw [List.append_assoc, hsw]; exact h2) (by simp only [List.length_append, List.length_cons, List.length_nil]; omega)
       refine ev_eq this ?_
       cases wds n false ((c :: r).dropWhile atB) with
       | none => rfl
       | some ws => simp [wres]
theorem impl_SplitWords_ev (l : Str) (hl : l.length ≤ 1048576) (ht : tvalid l = true) : Ev (fun k => impl_SplitWords.f k (ofL l)) (wres [] (words l)) := by
 unfold impl_SplitWords.f
 refine ev_bind (impl_TextValid_ev l (by omega)) (ev_pos ht ?_)
 exact impl_SplitWords_loop l hl (l.length + 1) l [] [] true (by omega) rfl (by simp)

/-! The program's ParseKind. -/
def kres : Option (Str × Str × List (Str × Str)) → ByteArray × ByteArray × List S29 × Bool
 | none => (ofL [], ofL [], [], false)
 | some x => (ofL x.1, ofL x.2.1, x.2.2.map e76, true)
theorem strings_Trim_eq (l : Str) (hl : l.length ≤ 1048576) : strings_Trim.f (ofL l) ⟨#[32]⟩ = some (ofL (trim l)) := by
 unfold strings_Trim.f
 rw [if_pos rfl, if_pos (by rw [size_ofL]; omega)]
 rfl
def cres (s : Str) : Option (Str × Str) → ByteArray × ByteArray × Bool
 | none => (ofL s, ofL [], false)
 | some x => (ofL x.1, ofL x.2, true)
theorem strings_Cut_eq (b : UInt8) (l : Str) (hl : l.length ≤ 1048576) : strings_Cut.f (ofL l) ⟨#[b]⟩ = some (cres l (cutB b l)) := by
 unfold strings_Cut.f
 rw [if_pos (by rw [size_ofL]; omega)]
 have e : Lib.cut (ofL l).data.toList (⟨#[b]⟩ : ByteArray).data.toList = Lib.cut l [b] := rfl
 rw [e, cut_B]
 cases cutB b l with
 | none => rfl
 | some x => rfl
theorem cutB_len {b : UInt8} {s x t : Str} (h : cutB b s = some (x, t)) : s.length = x.length + t.length + 1 := by
 rw [cutB_eq b s x t h]; simp; omega
theorem tvalid_sub {s t : Str} (h : tvalid s = true) (hl : t.length ≤ s.length) (hm : ∀ c ∈ t, c ∈ s) : tvalid t = true := by
 unfold tvalid at *
 simp only [Bool.and_eq_true, List.all_eq_true, decide_eq_true_iff] at *
 exact ⟨fun c hc => h.1 c (hm c hc), by omega⟩
theorem wds_len : ∀ (n : Nat) (a : Bool) (s : Str) (ws : List Str), wds n a s = some ws → ∀ w ∈ ws, w.length ≤ s.length := by
 intro n
 induction n with
 | zero => intro a s ws h; cases h
 | succ n ih =>
  intro a s ws h
  cases s with
  | nil => simp only [wds, Option.some.injEq] at h; subst h; simp
  | cons c r =>
   rw [wds] at h
   split at h
   ·
    intro w hw; have := ih _ _ _ h w hw; simp only [List.length_cons]; omega
   ·
    split at h
    ·
     cases h
    ·
     split at h
     ·
      cases e : rdq r with
      | none => rw [e] at h; cases h
      | some q =>
       obtain ⟨w1, t⟩ := q
       obtain ⟨m, h4, h5, _⟩ := rdq_suf 0 r.length r w1 t (Nat.le_refl _) e
       have hm : r.length = m.length + t.length := by rw [h4, List.length_append]
       rw [e] at h
       simp only [Option.map_eq_some_iff] at h
       obtain ⟨v, e1, rfl⟩ := h
       intro w hw
       simp only [List.length_cons]
       rcases List.mem_cons.mp hw with rfl | hw
       ·
        omega
       ·
        have := ih _ _ _ e1 w hw; omega
     ·
      split at h
      ·
       cases h
      ·
       simp only [Option.map_eq_some_iff] at h
       obtain ⟨v, e1, rfl⟩ := h
       have hlen := congrArg List.length (split_while atB (c :: r))
       rw [List.length_append] at hlen
       intro w hw
       rcases List.mem_cons.mp hw with rfl | hw
       ·
        omega
       ·
        have := ih _ _ _ e1 w hw; omega
theorem words_len {s : Str} {ws : List Str} (h : words s = some ws) : ∀ w ∈ ws, w.length ≤ s.length := wds_len _ _ _ _ h
/-- What is lacking: the kind is read out of the head and the parameters that are read. -/
def fin1 (ok : Bool) (m u : Str) (ps : List (Str × Str)) : Option (Str × Str × List (Str × Str)) := if ok = true ∧ kvalid m u ps = true then some (m, u, ps) else none
def fins (ok : Bool) (m u : Str) (q : List (Str × Str)) : Option (List (Str × Str)) → Option (Str × Str × List (Str × Str))
 | none => none
 | some ps => fin1 ok m u (q ++ ps)
theorem fins_cons (ok : Bool) (m u : Str) (q : List (Str × Str)) (x : Str × Str) (o : Option (List (Str × Str))) : fins ok m u q (o.map (x :: ·)) = fins ok m u (q ++ [x]) o := by
 cases o with
 | none => rfl
 | some ps => simp [fins]
theorem impl_ParseKind_end (ok : Bool) (m u : Str) (ps : List (Str × Str)) (hm : m.length ≤ 1048576) (hu : u.length ≤ 1048576) (hz : szp ps ≤ 1048576) (hn : ps.length ≤ 1048576) :
  Ev (fun k => if ok = true then ((impl_KindValid.f k (ofL m) (ofL u) (ps.map e76)).bind fun t => (if t = true then (some (ofL m, ofL u, ps.map e76, true)) else (some ((⟨#[]⟩ : ByteArray), (⟨#[]⟩ : ByteArray), ([] : List S29), false)))) else (some ((⟨#[]⟩ : ByteArray), (⟨#[]⟩ : ByteArray), ([] : List S29), false))) (kres (fin1 ok m u ps)) := by
 cases ok with
 | false => exact ev_neg (by simp) (ev_eq (ev_some _) (by unfold fin1; rw [if_neg (by simp)]; rfl))
 | true =>
  refine ev_pos rfl (ev_bind (impl_KindValid_ev m u ps hm hu hz hn) ?_)
  cases e : kvalid m u ps with
  | true => exact ev_pos rfl (ev_eq (ev_some _) (by unfold fin1; rw [if_pos ⟨rfl, e⟩]; rfl))
  | false => exact ev_neg (by simp) (ev_eq (ev_some _) (by unfold fin1; rw [if_neg (by simp [e])]; rfl))
theorem impl_ParseKind_loop (ok : Bool) (xs : List Str) (m u : Str) (hx : xs.length ≤ 1000) (ht : ∀ x ∈ xs, tvalid x = true) (hm : m.length ≤ 1048576) (hu : u.length ≤ 1048576) : ∀ (r p : List Str) (q : List (Str × Str)), xs = p ++ r → q.length ≤ p.length → szp q ≤ 400 * q.length →
  Ev (fun k => impl_ParseKind.l0 k ok (xs.map ofL) (xs.length : Int) (p.length : Int) (ofL m) (ofL u) (q.map e76)) (kres (fins ok m u q (pars r))) := by
 intro r
 induction r with
 | nil =>
  intro p q h hq hz
  rw [List.append_nil] at h
  subst h
  refine ev_succ ?_
  simp only [impl_ParseKind.l0]
  refine ev_neg (by omega) ?_
  have := impl_ParseKind_end ok m u q hm hu (by omega) (by omega)
  simpa [pars, fins] using this
 | cons c r ih =>
  intro p q h hq hz
  have hz2 := len_mid h
  have e1 := rdOf_ofL h
  have htc := ht c (by rw [h]; simp)
  have hcl := tvalid_len htc
  have w1 : wrap64 ((p.length : Int) + 1) = ((p ++ [c]).length : Int) := (wrap_id (by omega) (by omega)).trans (by simp)
  have hcut := strings_Cut_eq 61 c (by omega)
  refine ev_succ ?_
  simp only [impl_ParseKind.l0, e1, hcut, List.length_map, Option.bind_some]
  clear e1 hcut
  have hbad : ∀ (x11 : ByteArray) (x14 : List ByteArray), Ev (fun k => impl_ParseKind.j1 k ok x11 x14 (xs.map ofL) (xs.length : Int) (p.length : Int) true (ofL m) (ofL u) (q.map e76)) (kres none) := by
   intro x11 x14
   refine ev_succ ?_
   simp only [impl_ParseKind.j1]
   exact ev_pos trivial (ev_some _)
  refine ev_pos (by omega) (ev_pos (by omega) (ev_pos (by omega) ?_))
  cases e : cutB 61 c with
  | none =>
   simp only [cres]
   refine ev_bind (impl_SplitWords_ev [] (by simp) (by decide)) (ev_neg (by simp) (ev_eq (hbad _ _) ?_))
   rw [pars, par1, e]; rfl
  | some x =>
   obtain ⟨n, v⟩ := x
   have hlen := cutB_len e
   have hvs : tvalid v = true := tvalid_sub htc (by omega) (fun d hd => by rw [cutB_eq 61 c n v e]; simp [hd])
   simp only [cres]
   refine ev_bind (impl_SplitWords_ev v (by omega) hvs) (ev_pos trivial ?_)
   cases e2 : words v with
   | none =>
    refine ev_neg (by simp [wres]) (ev_eq (hbad _ _) ?_)
    rw [pars, par1, e]; simp only [e2]; rfl
   | some ws =>
    simp only [wres, List.nil_append]
    refine ev_pos trivial ?_
    by_cases h1 : ws.length = 1
    ·
     obtain ⟨w, rfl⟩ := List.length_eq_one_iff.mp h1
     have hwl := words_len e2 w (by simp)
     have hnl := trim_len n
     have e3 : par1 c = some (low (trim n), w) := by rw [par1, e]; simp only [e2]
     have := ih (p ++ [c]) (q ++ [(low (trim n), w)]) (by rw [h]; simp) (by simp; omega) (by rw [szp_append]; simp only [szp, List.length_append, List.length_cons, List.length_nil, low_len]; omega)
     have ht := strings_Trim_eq n (by omega)
     have hl := impl_LowerText_eq (trim n) (by omega)
     refine ev_succ ?_
     simp only [impl_ParseKind.j1, List.map_cons, List.map_nil, List.length_cons, List.length_nil, ht, hl, w1, Option.bind_some, List.length_map]
     clear w1 ht hl
     refine ev_neg (by simp) (ev_pos (by omega) (ev_pos (by omega) ?_))
     rw [pars, e3]
     simp only
     rw [fins_cons]
     rw [List.map_append] at this
     exact this
    ·
     have e4 : ((((ws.map ofL).length : Nat) : Int) != 1) = true := by
      rw [List.length_map]; simp only [bne_iff_ne, ne_eq]; omega
     rw [e4]
     refine ev_eq (hbad _ _) ?_
     have e3 : par1 c = none := by
      rw [par1, e]
      simp only [e2]
      match ws, h1 with
      | [], _ => rfl
      | [w], h1 => exact absurd rfl h1
      | _ :: _ :: _, _ => rfl
     rw [pars, e3]; rfl
theorem pk_fins (o : Option (Str × Str)) (ps : Option (List (Str × Str))) (s : Str) : pkO o ps = fins (cres s o).2.2 (match o with
  | none => low s
  | some x => low x.1) (match o with
  | none => []
  | some x => low x.2) [] ps := by
 cases o with
 | none => cases ps with
  | none => rfl
  | some p => simp [pkO, fins, fin1, cres]
 | some x => cases ps with
  | none => rfl
  | some p => simp [pkO, fins, fin1, cres]
theorem impl_ParseKind_ev (s : Str) (hs : s.length ≤ 1048576) : Ev (fun k => impl_ParseKind.f k (ofL s)) (kres (pk s)) := by
 unfold impl_ParseKind.f pk
 refine ev_bind (impl_TextValid_ev s (by omega)) ?_
 cases et : tvalid s with
 | false => exact ev_neg (by simp) (ev_eq (ev_some _) rfl)
 | true =>
  refine ev_pos rfl (ev_bind (impl_splitOutside_ev s hs) ?_)
  rw [if_pos rfl]
  have hpl := parts_len 59 s 0
  have hpm := parts_mem 59 s 0
  have hsl := tvalid_len et
  generalize parts 59 0 s = xs at hpl hpm ⊢
  cases xs with
  | nil => simp at hpl
  | cons h0 r =>
   have hh := hpm h0 (by simp)
   have htl := trim_len h0
   have e0 : rdOf ByteArray.empty (ofL h0 :: r.map ofL) 0 = ofL h0 := rfl
   have et := strings_Trim_eq h0 (by omega)
   have ec := strings_Cut_eq 47 (trim h0) (by omega)
   have hr : r.length ≤ 1000 := by simp only [List.length_cons] at hpl; omega
   simp only [e0, et, ec, List.length_map, List.length_cons, Option.bind_some, List.drop_one, List.map_cons, List.tail_cons, List.headD_cons]
   rw [pk_fins _ _ (trim h0)]
   have htv : ∀ x ∈ r, tvalid x = true := fun x hx => by
    have := hpm x (by simp [hx])
    exact tvalid_sub (by assumption) this.1 this.2
   cases e : cutB 47 (trim h0) with
   | none =>
    simp only [cres]
    have l1 := impl_LowerText_eq (trim h0) (by omega)
    have l2 := impl_LowerText_eq [] (by simp)
    have := impl_ParseKind_loop false r (low (trim h0)) (low []) hr htv (by rw [low_len]; omega) (by simp [low]) r [] [] rfl (by simp) (by simp [szp])
    simp only [l1, l2, Option.bind_some]
    refine ev_pos (by omega) (ev_pos (by omega) ?_)
    simpa [low] using this
   | some x =>
    obtain ⟨a, b⟩ := x
    have hlen := cutB_len e
    simp only [cres]
    have l1 := impl_LowerText_eq a (by omega)
    have l2 := impl_LowerText_eq b (by omega)
    have := impl_ParseKind_loop true r (low a) (low b) hr htv (by rw [low_len]; omega) (by rw [low_len]; omega) r [] [] rfl (by simp) (by simp [szp])
    simp only [l1, l2, Option.bind_some]
    refine ev_pos (by omega) (ev_pos (by omega) ?_)
    simpa using this

/-! A valid kind is read back. -/
theorem nmB_not (c : UInt8) : nmB c = true → c ≠ 34 ∧ c ≠ 59 ∧ c ≠ 47 ∧ c ≠ 61 ∧ c ≠ 32 ∧ okB c = true := by
 revert c
 exact u8_all (by decide +kernel)
theorem atB_not (c : UInt8) : atB c = true → c ≠ 34 ∧ c ≠ 59 ∧ c ≠ 32 ∧ okB c = true := by
 revert c
 exact u8_all (by decide +kernel)
theorem isNm_all {l : Str} (h : isNm l = true) : ∀ c ∈ l, nmB c = true := by
 unfold isNm at h
 simp only [Bool.and_eq_true, List.all_eq_true] at h
 exact h.2
theorem isSmall_nm {l : Str} (h : isSmall l = true) : isNm l = true ∧ low l = l := by
 unfold isSmall at h
 simpa using h
def hd1s (x : Str) (l : List Str) : List Str := x.foldr hd1 l
theorem hd1s_cons (x y : Str) (r : List Str) : hd1s x (y :: r) = (x ++ y) :: r := by
 induction x with
 | nil => rfl
 | cons c x ih => show hd1 c (hd1s x (y :: r)) = _; rw [ih]; rfl
def Pass (b : UInt8) (x : Str) : Prop := ∀ t, parts b 0 (x ++ t) = hd1s x (parts b 0 t)
theorem pass_append {b : UInt8} {x y : Str} (h1 : Pass b x) (h2 : Pass b y) : Pass b (x ++ y) := fun t => by
 rw [List.append_assoc, h1, h2]
 unfold hd1s
 rw [List.foldr_append]
theorem pass_free {b : UInt8} (x : Str) (h : ∀ c ∈ x, c ≠ 34 ∧ c ≠ b) : Pass b x := by
 induction x with
 | nil => intro t; rfl
 | cons c x ih =>
  intro t
  have hc := h c (by simp)
  rw [List.cons_append, parts, if_neg (fun hh => hc.2 hh.2), show nq 0 c = 0 by simp [nq, hc.1], ih (fun d hd => h d (by simp [hd]))]
  rfl
theorem parts_esc (b : UInt8) (hb : b ≠ 34) (v t : Str) : parts b 1 (esc v ++ 34 :: t) = hd1s (esc v ++ [34]) (parts b 0 t) := by
 induction v with
 | nil => rw [esc, List.nil_append, parts, if_neg (by simp), show nq 1 34 = 0 from rfl]; rfl
 | cons c v ih =>
  rw [esc, List.append_assoc]
  unfold escB
  split
  ·
   rw [List.cons_append, List.cons_append, List.nil_append, parts, if_neg (by simp), show nq 1 92 = 2 from rfl, parts, if_neg (by simp), show nq 2 c = 1 from rfl, ih]
   rfl
  ·
   rename_i hc
   have h1 : c ≠ 34 := fun h => hc (Or.inl h)
   have h2 : c ≠ 92 := fun h => hc (Or.inr h)
   rw [List.cons_append, List.nil_append, parts, if_neg (by simp), show nq 1 c = 1 by simp [nq, h1, h2], ih]
   rfl
theorem pass_quote (b : UInt8) (hb : b ≠ 34) (v : Str) : Pass b (quote v) := fun t => by
 unfold quote
 rw [List.cons_append, parts, if_neg (fun hh => hb hh.2.symm), show nq 0 34 = 1 from rfl, List.append_assoc, List.singleton_append, parts_esc b hb]
 rfl
theorem atomV_all {v : Str} (h : atomV v = true) : v.all atB = true ∧ v ≠ [] := by
 unfold atomV at h
 simp only [Bool.and_eq_true, decide_eq_true_iff] at h
 exact ⟨h.2, fun e => by rw [e] at h; simp at h⟩
theorem pass_qw (v : Str) : Pass 59 (qw v) := by
 unfold qw
 split
 ·
  split
  ·
   rename_i h
   refine pass_free v (fun c hc => ?_)
   have := atB_not c (List.all_eq_true.mp (atomV_all h).1 c hc)
   exact ⟨this.1, this.2.1⟩
  ·
   exact pass_quote 59 (by decide) v
 ·
  exact fun t => rfl
theorem rdq_esc (v t : Str) : rdq (esc v ++ 34 :: t) = some (v, t) := by
 induction v with
 | nil => rw [esc, List.nil_append, rdq_cons, if_pos rfl]
 | cons c v ih =>
  rw [esc, List.append_assoc]
  unfold escB
  split
  ·
   rw [List.cons_append, List.cons_append, List.nil_append, rdq_cons, if_neg (by decide), if_pos rfl]
   simp only [ih]; rfl
  ·
   rename_i hc
   have h1 : c ≠ 34 := fun h => hc (Or.inl h)
   have h2 : c ≠ 92 := fun h => hc (Or.inr h)
   rw [List.cons_append, List.nil_append, rdq_cons, if_neg h1, if_neg h2, ih]; rfl
theorem words_qw (v : Str) (h : tvalid v = true) : words (qw v) = some [v] := by
 unfold qw
 rw [if_pos h]
 split
 ·
  rename_i ha
  obtain ⟨h1, h2⟩ := atomV_all ha
  cases v with
  | nil => exact absurd rfl h2
  | cons c r =>
   have hc := atB_not c (List.all_eq_true.mp h1 c (by simp))
   obtain ⟨t1, t2⟩ := takeWhile_all atB (c :: r) h1
   unfold words
   rw [wds, if_neg hc.2.2.1, if_neg (by simp), if_neg hc.1, t1, if_neg h2, t2, List.length_cons, wds]
   rfl
 ·
  unfold words quote
  rw [wds, if_neg (by decide), if_neg (by simp), if_pos rfl, rdq_esc, List.length_cons]
  simp only
  rw [wds]; rfl
theorem cutB_free {b : UInt8} (x t : Str) (h : ∀ c ∈ x, c ≠ b) : cutB b (x ++ b :: t) = some (x, t) := by
 induction x with
 | nil => rw [List.nil_append, cutB, if_pos rfl]
 | cons c x ih => rw [List.cons_append, cutB, if_neg (h c (by simp)), ih (fun d hd => h d (by simp [hd]))]; rfl
def seg (p : Str × Str) : Str := 32 :: (p.1 ++ [61] ++ qw p.2)
theorem par1_seg (p : Str × Str) (h1 : isSmall p.1 = true) (h2 : tvalid p.2 = true) : par1 (seg p) = some p := by
 obtain ⟨h3, h4⟩ := isSmall_nm h1
 have ha := isNm_all h3
 have e : seg p = (32 :: p.1) ++ 61 :: qw p.2 := by unfold seg; simp
 have ec : cutB 61 (seg p) = some (32 :: p.1, qw p.2) := by
  rw [e]
  refine cutB_free _ _ (fun c hc => ?_)
  rcases List.mem_cons.mp hc with rfl | hc
  ·
   decide
  ·
   exact (nmB_not c (ha c hc)).2.2.2.1
 unfold par1
 rw [ec]
 simp only [words_qw p.2 h2, trim_cons]
 rw [trim_free p.1 (fun c hc => (nmB_not c (ha c hc)).2.2.2.2.1), h4]
theorem kfl_all : ∀ (ps q : List (Str × Str)), kfl q ps = true → ∀ p ∈ ps, isSmall p.1 = true ∧ tvalid p.2 = true ∧ p.2.length ≤ 40 := by
 intro ps
 induction ps with
 | nil => intro q h p hp; cases hp
 | cons c r ih =>
  intro q h p hp
  rw [kfl] at h
  simp only [Bool.and_eq_true, decide_eq_true_iff] at h
  rcases List.mem_cons.mp hp with rfl | hp
  ·
   exact ⟨h.1.1.1, h.1.1.2.1, h.1.1.2.2⟩
  ·
   exact ih _ h.2 p hp
theorem parts_ktail (ps : List (Str × Str)) (h : ∀ p ∈ ps, isSmall p.1 = true ∧ tvalid p.2 = true ∧ p.2.length ≤ 40) : parts 59 0 (ktail ps) = [] :: ps.map seg := by
 induction ps with
 | nil => rfl
 | cons p r ih =>
  have hp := h p (by simp)
  have ha := isNm_all (isSmall_nm hp.1).1
  have hpass : Pass 59 (seg p) := by
   have e : seg p = (32 :: p.1 ++ [61]) ++ qw p.2 := by unfold seg; simp
   rw [e]
   refine pass_append (pass_free _ (fun c hc => ?_)) (pass_qw p.2)
   simp only [List.mem_append, List.mem_cons, List.not_mem_nil, or_false] at hc
   rcases hc with (rfl | hc) | rfl
   ·
    decide
   ·
    have := nmB_not c (ha c hc); exact ⟨this.1, this.2.1⟩
   ·
    decide
  have e : ktail (p :: r) = 59 :: (seg p ++ ktail r) := by simp [ktail, kpart, seg]
  rw [e, parts, if_pos ⟨rfl, rfl⟩, hpass, ih (fun x hx => h x (by simp [hx])), hd1s_cons, List.append_nil]
  rfl
theorem pars_seg (ps : List (Str × Str)) (h : ∀ p ∈ ps, isSmall p.1 = true ∧ tvalid p.2 = true ∧ p.2.length ≤ 40) : pars (ps.map seg) = some ps := by
 induction ps with
 | nil => rfl
 | cons p r ih =>
  have hp := h p (by simp)
  rw [List.map_cons, pars, par1_seg p hp.1 hp.2.1, ih (fun x hx => h x (by simp [hx]))]
  rfl
theorem qw_ok (v : Str) : ∀ c ∈ qw v, okB c = true := by
 unfold qw
 split
 ·
  rename_i h
  have hv : ∀ c ∈ v, okB c = true := by
   unfold tvalid at h
   simp only [Bool.and_eq_true, List.all_eq_true] at h
   exact h.1
  split
  ·
   exact hv
  ·
   have he : ∀ u : Str, (∀ c ∈ u, okB c = true) → ∀ c ∈ esc u, okB c = true := by
    intro u
    induction u with
    | nil => intro _ c hc; cases hc
    | cons d u ih =>
     intro hu c hc
     rw [esc] at hc
     rcases List.mem_append.mp hc with hc | hc
     ·
      unfold escB at hc
      split at hc
      ·
       simp only [List.mem_cons, List.not_mem_nil, or_false] at hc
       rcases hc with rfl | rfl
       ·
        decide
       ·
        exact hu _ (by simp)
      ·
       simp only [List.mem_singleton] at hc
       subst hc; exact hu _ (by simp)
     ·
      exact ih (fun x hx => hu x (by simp [hx])) c hc
   intro c hc
   unfold quote at hc
   simp only [List.mem_cons, List.mem_append, List.not_mem_nil, or_false] at hc
   rcases hc with rfl | hc | rfl
   ·
    decide
   ·
    exact he v hv c hc
   ·
    decide
 ·
  intro c hc; cases hc
theorem kvalid_split {a b : Str} {ps : List (Str × Str)} (h : kvalid a b ps = true) : isSmall a = true ∧ isSmall b = true ∧ ps.length ≤ 4 ∧ kfl [] ps = true ∧ (ktext a b ps).length ≤ 150 := by
 unfold kvalid at h
 simp only [Bool.and_eq_true, decide_eq_true_iff] at h
 obtain ⟨⟨⟨⟨h1, h2⟩, h3⟩, h4⟩, h5⟩ := h
 exact ⟨h1, h2, by omega, h4, h5⟩
theorem ktail_ok (ps : List (Str × Str)) (h : ∀ p ∈ ps, isSmall p.1 = true ∧ tvalid p.2 = true ∧ p.2.length ≤ 40) : ∀ c ∈ ktail ps, okB c = true := by
 induction ps with
 | nil => intro c hc; cases hc
 | cons p r ih =>
  intro c hc
  rw [ktail] at hc
  rcases List.mem_append.mp hc with hc | hc
  ·
   unfold kpart at hc
   simp only [List.mem_append, List.mem_cons, List.not_mem_nil, or_false] at hc
   rcases hc with (((rfl | rfl) | hc) | rfl) | hc
   ·
    decide
   ·
    decide
   ·
    exact (nmB_not c (isNm_all (isSmall_nm (h p (by simp)).1).1 c hc)).2.2.2.2.2
   ·
    decide
   ·
    exact qw_ok p.2 c hc
  ·
   exact ih (fun x hx => h x (by simp [hx])) c hc
theorem pk_ktext {a b : Str} {ps : List (Str × Str)} (h : kvalid a b ps = true) : pk (ktext a b ps) = some (a, b, ps) := by
 obtain ⟨h1, h2, h3, h4, h5⟩ := kvalid_split h
 have hp := kfl_all ps [] h4
 obtain ⟨n1, s1⟩ := isSmall_nm h1
 obtain ⟨n2, s2⟩ := isSmall_nm h2
 have ha := isNm_all n1
 have hb := isNm_all n2
 have ht : tvalid (ktext a b ps) = true := by
  unfold tvalid
  simp only [Bool.and_eq_true, List.all_eq_true, decide_eq_true_iff]
  refine ⟨fun c hc => ?_, by omega⟩
  unfold ktext at hc
  simp only [List.mem_append, List.mem_cons, List.not_mem_nil, or_false] at hc
  rcases hc with ((hc | rfl) | hc) | hc
  ·
   exact (nmB_not c (ha c hc)).2.2.2.2.2
  ·
   decide
  ·
   exact (nmB_not c (hb c hc)).2.2.2.2.2
  ·
   exact ktail_ok ps hp c hc
 have hpass : Pass 59 (a ++ [47] ++ b) := by
  refine pass_free _ (fun c hc => ?_)
  simp only [List.mem_append, List.mem_cons, List.not_mem_nil, or_false] at hc
  rcases hc with (hc | rfl) | hc
  ·
   have := nmB_not c (ha c hc); exact ⟨this.1, this.2.1⟩
  ·
   decide
  ·
   have := nmB_not c (hb c hc); exact ⟨this.1, this.2.1⟩
 have hparts : parts 59 0 (ktext a b ps) = (a ++ [47] ++ b) :: ps.map seg := by
  unfold ktext
  rw [hpass, parts_ktail ps hp, hd1s_cons, List.append_nil]
 have htr : trim (a ++ [47] ++ b) = a ++ 47 :: b := by
  rw [trim_free]
  ·
   simp
  ·
   intro c hc
   simp only [List.mem_append, List.mem_cons, List.not_mem_nil, or_false] at hc
   rcases hc with (hc | rfl) | hc
   ·
    exact (nmB_not c (ha c hc)).2.2.2.2.1
   ·
    decide
   ·
    exact (nmB_not c (hb c hc)).2.2.2.2.1
 have hcut : cutB 47 (a ++ 47 :: b) = some (a, b) := cutB_free _ _ (fun c hc => (nmB_not c (ha c hc)).2.2.1)
 unfold pk
 rw [if_pos ht, hparts, List.headD_cons, htr, hcut, List.drop_one, List.tail_cons, pars_seg ps hp]
 simp only [pkO, s1, s2, if_pos h]
/-- What is read is valid. -/
theorem pk_valid {s a b : Str} {ps : List (Str × Str)} (h : pk s = some (a, b, ps)) : kvalid a b ps = true := by
 unfold pk at h
 split at h
 ·
  unfold pkO at h
  split at h
  ·
   split at h
   ·
    rename_i hk
    cases h; exact hk
   ·
    cases h
  ·
   cases h
 ·
  cases h

/-! The reference's ParseKind. -/
def sres (L : Nat) (acc : Str) : Option (Str × Str) → ByteArray × Int
 | none => (ofL [], -1)
 | some q => (ofL (acc ++ q.1), ((L - q.2.length : Nat) : Int))
theorem take_mid1 {l p r : Str} {c : UInt8} (h : l = p ++ c :: r) : (l.drop p.length).take (p.length + 1 - p.length) = [c] := by
 rw [drop_mid h, show p.length + 1 - p.length = 1 by omega]; rfl
theorem spec_l1Read_loop (l : Str) (hl : l.length ≤ 1048576) : ∀ (n : Nat) (r p acc : Str), r.length ≤ n → l = p ++ r → acc.length ≤ p.length → Ev (fun k => spec_l1Read.l0 k (ofL l) (ofL acc) (p.length : Int)) (sres l.length acc (rdq r)) := by
 intro n
 induction n with
 | zero =>
  intro r p acc h h2 h3
  have : r = [] := List.length_eq_zero_iff.mp (by omega)
  subst this
  rw [List.append_nil] at h2
  subst h2
  refine ev_succ ?_
  simp only [spec_l1Read.l0, size_ofL]
  exact ev_neg (by omega) (ev_eq (ev_some _) rfl)
 | succ n ih =>
  intro r p acc h h2 h3
  cases r with
  | nil =>
   rw [List.append_nil] at h2
   subst h2
   refine ev_succ ?_
   simp only [spec_l1Read.l0, size_ofL]
   exact ev_neg (by omega) (ev_eq (ev_some _) rfl)
  | cons c r =>
   simp only [List.length_cons] at h
   have hz := len_mid h2
   have e1 := bt_ofL_mid h2
   have w1 : wrap64 ((p.length : Int) + 1) = ((p.length + 1 : Nat) : Int) := (wrap_id (by omega) (by omega)).trans (by omega)
   have h34 : (c.toNat : Int) = 34 ↔ c = 34 := u8_eq c 34 (by omega)
   have h92 : (c.toNat : Int) = 92 ↔ c = 92 := u8_eq c 92 (by omega)
   have e4 := take_mid1 h2
   refine ev_succ ?_
   simp only [spec_l1Read.l0, e1, w1, size_ofL, Int.toNat_natCast, extract_ofL, e4, ofL_append]
   clear e1 w1 e4
   rw [rdq_cons]
   refine ev_pos (by omega) (ev_pos (by omega) ?_)
   by_cases c1 : (c.toNat : Int) = 34
   ·
    refine ev_pos c1 (ev_eq (ev_some _) ?_)
    rw [if_pos (h34.mp c1), sres, show l.length - r.length = p.length + 1 by omega]
    simp
   ·
    refine ev_neg c1 ?_
    rw [if_neg (fun hh => c1 (h34.mpr hh))]
    by_cases c2 : (c.toNat : Int) = 92
    ·
     refine ev_pos c2 ?_
     rw [if_pos (h92.mp c2)]
     cases r with
     | nil =>
      simp only [List.length_nil] at hz
      exact ev_pos (by omega) (ev_eq (ev_some _) rfl)
     | cons d r =>
      simp only [List.length_cons] at h hz
      have w2 : wrap64 (((p.length + 1 : Nat) : Int) + 1) = ((p.length + 2 : Nat) : Int) := (wrap_id (by omega) (by omega)).trans (by omega)
      have hd : l = (p ++ [c]) ++ d :: r := by rw [h2]; simp
      have e5 : (l.drop (p.length + 1)).take (p.length + 2 - (p.length + 1)) = [d] := by
       have := take_mid1 hd
       rwa [List.length_append] at this
      have := ih r (p ++ [c, d]) (acc ++ [d]) (by omega) (by rw [h2]; simp) (by simp; omega)
      rw [List.length_append] at this
      rw [w2, Int.toNat_natCast, e5]
      clear w2 e5
      refine ev_neg (by omega) (ev_pos (by omega) (ev_pos (by omega) (ev_pos (by omega) (ev_pos (by simp only [List.length_cons, List.length_nil]; omega) (ev_eq this ?_)))))
      show _ = sres l.length acc ((rdq r).map fun q => (d :: q.1, q.2))
      cases rdq r with
      | none => rfl
      | some q => simp [sres]
    ·
     refine ev_neg c2 ?_
     rw [if_neg (fun hh => c2 (h92.mpr hh))]
     have := ih r (p ++ [c]) (acc ++ [c]) (by omega) (by rw [h2]; simp) (by simp; omega)
     rw [List.length_append] at this
     refine ev_pos (by omega) (ev_pos (by omega) (ev_pos (by simp only [List.length_cons, List.length_nil]; omega) (ev_eq this ?_)))
     cases rdq r with
     | none => rfl
     | some q => simp [sres]
theorem spec_l1Read_ev {l p r : Str} {c : UInt8} (h : l = p ++ c :: r) (hl : l.length ≤ 1048576) : Ev (fun k => spec_l1Read.f k (ofL l) (p.length : Int)) (sres l.length [] (rdq r)) := by
 have hz := len_mid h
 have := spec_l1Read_loop l hl r.length r (p ++ [c]) [] (Nat.le_refl _) (by rw [h]; simp) (by simp)
 have w1 : wrap64 ((p.length : Int) + 1) = ((p ++ [c]).length : Int) := (wrap_id (by omega) (by omega)).trans (by simp)
 unfold spec_l1Read.f
 rw [w1]
 exact this
def cres0 (s p : Str) : Option (Str × Str) → ByteArray × ByteArray × Bool
 | none => (ofL s, ofL [], false)
 | some x => (ofL (p ++ x.1), ofL x.2, true)
theorem spec_l2Cut_loop (l : Str) (b : UInt8) (hb : b ≠ 34) (hl : l.length ≤ 1048576) : ∀ (n : Nat) (r p : Str), r.length ≤ n → l = p ++ r → Ev (fun k => spec_l2Cut.l0 k (ofL l) (b.toNat : Int) (p.length : Int)) (cres0 l p (cut0 b 0 r)) := by
 intro n
 induction n with
 | zero =>
  intro r p h h2
  have : r = [] := List.length_eq_zero_iff.mp (by omega)
  subst this
  rw [List.append_nil] at h2
  subst h2
  refine ev_succ ?_
  simp only [spec_l2Cut.l0, size_ofL]
  exact ev_neg (by omega) (ev_eq (ev_some _) rfl)
 | succ n ih =>
  intro r p h h2
  cases r with
  | nil =>
   rw [List.append_nil] at h2
   subst h2
   refine ev_succ ?_
   simp only [spec_l2Cut.l0, size_ofL]
   exact ev_neg (by omega) (ev_eq (ev_some _) rfl)
  | cons c r =>
   simp only [List.length_cons] at h
   have hz := len_mid h2
   have e1 := bt_ofL_mid h2
   have w1 : wrap64 ((p.length : Int) + 1) = ((p.length + 1 : Nat) : Int) := (wrap_id (by omega) (by omega)).trans (by omega)
   have h34 : (c.toNat : Int) = 34 ↔ c = 34 := u8_eq c 34 (by omega)
   have hbb := u8_inj c b
   have x1 : (l.drop 0).take (p.length - 0) = p := by rw [List.drop_zero, Nat.sub_zero, h2, List.take_left]
   have x2 : (l.drop (p.length + 1)).take (l.length - (p.length + 1)) = r := by
    rw [List.take_of_length_le (by simp), h2, ← List.drop_drop, List.drop_left]; rfl
   refine ev_succ ?_
   simp only [spec_l2Cut.l0, e1, w1, size_ofL, Int.toNat_natCast, extract_ofL, x1, x2]
   clear e1 w1 x1 x2
   rw [cut0]
   refine ev_pos (by omega) (ev_pos (by omega) ?_)
   by_cases c1 : (c.toNat : Int) = 34
   ·
    have hc := h34.mp c1
    refine ev_pos c1 (ev_bind (spec_l1Read_ev h2 hl) ?_)
    rw [if_neg (show ¬ ((0 : Nat) = 0 ∧ c = b) from fun hh => hb (hh.2.symm.trans hc)), show nq 0 c = 1 by rw [hc]; rfl]
    cases e : rdq r with
    | none => rw [rdq_none b r.length r (Nat.le_refl _) e]; exact ev_pos (by simp [sres]) (ev_eq (ev_some _) rfl)
    | some q =>
     obtain ⟨w, t⟩ := q
     obtain ⟨m, h3, h4, h5⟩ := rdq_suf b r.length r w t (Nat.le_refl _) e
     have hm : r.length = m.length + t.length := by rw [h3, List.length_append]
     have := ih t (p ++ c :: m) (by omega) (by rw [h2, h3]; simp)
     have ei : l.length - t.length = (p ++ c :: m).length := by simp only [List.length_append, List.length_cons]; omega
     simp only [sres, ei]
     refine ev_neg (by omega) ?_
     rw [h5]
     refine ev_eq this ?_
     cases cut0 b 0 t with
     | none => rfl
     | some x => simp [cres0]
   ·
    refine ev_neg c1 ?_
    have hc : ¬ c = 34 := fun hh => c1 (h34.mpr hh)
    by_cases c2 : c = b
    ·
     rw [if_pos (show (0 : Nat) = 0 ∧ c = b from ⟨rfl, c2⟩)]
     exact ev_pos (hbb.mpr c2) (ev_pos (by omega) (ev_pos (by omega) (ev_pos (by omega) (ev_eq (ev_some _) (by simp [cres0])))))
    ·
     rw [if_neg (show ¬ ((0 : Nat) = 0 ∧ c = b) from fun hh => c2 hh.2), show nq 0 c = 0 by simp [nq, hc]]
     have := ih r (p ++ [c]) (by omega) (by rw [h2]; simp)
     rw [List.length_append] at this
     refine ev_neg (fun hh => c2 (hbb.mp hh)) (ev_eq this ?_)
     cases cut0 b 0 r with
     | none => rfl
     | some x => simp [cres0]
theorem spec_l2Cut_ev (l : Str) (b : UInt8) (hb : b ≠ 34) (hl : l.length ≤ 1048576) : Ev (fun k => spec_l2Cut.f k (ofL l) (b.toNat : Int)) (cres l (cut0 b 0 l)) := by
 refine ev_eq (spec_l2Cut_loop l b hb hl l.length l [] (Nat.le_refl _) rfl) ?_
 cases cut0 b 0 l <;> rfl
def trimR (l : Str) : Str := (l.reverse.dropWhile (· == 32)).reverse
theorem trimR_snoc (l : Str) (c : UInt8) : trimR (l ++ [c]) = if c = 32 then trimR l else l ++ [c] := by
 unfold trimR
 rw [List.reverse_append, List.reverse_singleton, List.singleton_append, List.dropWhile]
 by_cases h : c = 32
 ·
  simp [h]
 ·
  rw [show (c == 32) = false by simp [h]]; simp [h]
theorem spec_l2Trim_right : ∀ (n : Nat) (s : Str), s.length ≤ n → s.length ≤ 1048576 → Ev (fun k => spec_l2Trim.l1 k (ofL s)) (ofL (trimR s)) := by
 intro n
 induction n with
 | zero =>
  intro s h _
  have : s = [] := List.length_eq_zero_iff.mp (by omega)
  subst this
  refine ev_succ ?_
  simp only [spec_l2Trim.l1, size_ofL]
  exact ev_neg (by simp) (ev_eq (ev_some _) rfl)
 | succ n ih =>
  intro s h hl
  rcases List.eq_nil_or_concat s with rfl | ⟨p, c, rfl⟩
  ·
   refine ev_succ ?_
   simp only [spec_l2Trim.l1, size_ofL]
   exact ev_neg (by simp) (ev_eq (ev_some _) rfl)
  ·
   rw [List.concat_eq_append] at *
   simp only [List.length_append, List.length_cons, List.length_nil] at h hl
   have hz : (p ++ [c]).length = p.length + 1 := by simp
   have e1 := bt_ofL_mid (l := p ++ [c]) (p := p) (c := c) (r := []) rfl
   have w1 : wrap64 (((p ++ [c]).length : Int) - 1) = ((p.length : Nat) : Int) := (wrap_id (by omega) (by omega)).trans (by omega)
   have h32 : (c.toNat : Int) = 32 ↔ c = 32 := u8_eq c 32 (by omega)
   have x1 : ((p ++ [c]).drop 0).take (p.length - 0) = p := by rw [List.drop_zero, Nat.sub_zero, List.take_left]
   refine ev_succ ?_
   simp only [spec_l2Trim.l1, size_ofL, w1, e1, Int.toNat_natCast, extract_ofL, x1]
   clear e1 w1 x1
   rw [trimR_snoc]
   refine ev_pos (by omega) (ev_pos (by omega) (ev_pos (by omega) ?_))
   by_cases c1 : (c.toNat : Int) = 32
   ·
    rw [if_pos (h32.mp c1)]
    exact ev_pos c1 (ev_pos (by omega) (ih p (by omega) (by omega)))
   ·
    rw [if_neg (fun hh => c1 (h32.mpr hh))]
    exact ev_neg c1 (ev_some _)
theorem trim_cons_ne (c : UInt8) (r : Str) (h : c ≠ 32) : trim (c :: r) = trimR (c :: r) := by
 unfold trim Lib.trimB Lib.trimLeftB Lib.trimRightB trimR
 obtain ⟨m, h1, h2⟩ := dropWhile_suf (· == 32) (c :: r).reverse
 have h3 := congrArg List.reverse h1
 rw [List.reverse_reverse, List.reverse_append] at h3
 cases e : ((c :: r).reverse.dropWhile (· == 32)).reverse with
 | nil =>
  rw [e, List.nil_append] at h3
  have : c ∈ m := by
   have : c ∈ m.reverse := by rw [← h3]; simp
   exact List.mem_reverse.mp this
  exact absurd (by simpa using h2 c this) h
 | cons d u =>
  rw [e] at h3
  injection h3 with h4 h5
  subst h4
  rw [List.dropWhile, show (c == 32) = false by simp [h]]
theorem spec_l2Trim_ev (s : Str) (hl : s.length ≤ 1048576) : Ev (fun k => spec_l2Trim.f k (ofL s)) (ofL (trim s)) := by
 unfold spec_l2Trim.f
 induction s with
 | nil =>
  refine ev_succ ?_
  simp only [spec_l2Trim.l0, size_ofL]
  refine ev_neg (by simp) (ev_succ ?_)
  simp only [spec_l2Trim.j1]
  exact spec_l2Trim_right 0 [] (by simp) (by simp)
 | cons c r ih =>
  simp only [List.length_cons] at hl
  have hz : (c :: r).length = r.length + 1 := rfl
  have h32 : (c.toNat : Int) = 32 ↔ c = 32 := u8_eq c 32 (by omega)
  have x1 : ((c :: r).drop 1).take ((c :: r).length - 1) = r := by rw [List.drop_one, List.tail_cons, hz, List.take_of_length_le (by omega)]
  refine ev_succ ?_
  simp only [spec_l2Trim.l0, size_ofL, bt_zero, extract_ofL, x1]
  clear x1
  refine ev_pos (by omega) (ev_pos (by omega) ?_)
  by_cases c1 : (c.toNat : Int) = 32
  ·
   rw [h32.mp c1, trim_cons]
   exact ev_pos (by decide) (ev_pos (by simp; omega) (ih (by omega)))
  ·
   rw [trim_cons_ne c r (fun hh => c1 (h32.mpr hh))]
   refine ev_neg c1 (ev_succ ?_)
   simp only [spec_l2Trim.j1]
   exact spec_l2Trim_right (r.length + 1) (c :: r) (by simp) (by simp; omega)
/-- Behind a word: a space or the end, else nothing. -/
theorem wds_false (n : Nat) (s : Str) (h : s.length < n) : wds n false s = if s = [] ∨ s.head? = some 32 then wds n true s else none := by
 obtain ⟨n, rfl⟩ : ∃ m, n = m + 1 := ⟨n - 1, by omega⟩
 cases s with
 | nil => rw [if_pos (Or.inl rfl)]; rfl
 | cons c r =>
  by_cases c1 : c = 32
  ·
   rw [if_pos (Or.inr (by rw [c1]; rfl)), wds, wds, if_pos c1, if_pos c1]
  ·
   rw [if_neg (by simp [c1]), wds, if_neg c1, if_pos rfl]
theorem spec_l1Words_run (l : Str) (acc : List Str) (hl : l.length ≤ 1048576) (ha : acc.length ≤ 1048576) (p : Str) (v : List ByteArray × Bool) : ∀ (r a : Str), l = p ++ (a ++ r) → a.all atB = true →
  (a ++ r.takeWhile atB = [] → v = ([], false)) →
  (a ++ r.takeWhile atB ≠ [] → ¬ (r.dropWhile atB = [] ∨ (r.dropWhile atB).head? = some 32) → v = ([], false)) →
  (a ++ r.takeWhile atB ≠ [] → (r.dropWhile atB = [] ∨ (r.dropWhile atB).head? = some 32) → Ev (fun k => spec_l1Words.l0 k (ofL l) ((acc ++ [a ++ r.takeWhile atB]).map ofL) (((p ++ (a ++ r.takeWhile atB)).length : Nat) : Int)) v) →
  Ev (fun k => spec_l1Words.l1 k (ofL l) (acc.map ofL) (((p ++ a).length : Nat) : Int) (p.length : Int)) v := by
 intro r
 induction r with
 | nil =>
  intro a h h2 h3 h4 h5
  have hz : l.length = p.length + a.length := by rw [h]; simp
  have hpa : (p ++ a).length = p.length + a.length := by simp
  simp only [List.takeWhile_nil, List.append_nil, List.dropWhile_nil] at h3 h4 h5
  refine ev_succ ?_
  simp only [spec_l1Words.l1, size_ofL, List.length_map]
  refine ev_neg (by omega) (ev_pos (by omega) (ev_pos (by omega) (ev_pos (by omega) ?_)))
  by_cases e : a = []
  ·
   rw [h3 e]; subst e; exact ev_pos (by simp) (ev_some _)
  ·
   have hne : 0 < a.length := List.length_pos_iff.mpr e
   have ex : (ofL l).extract (p.length : Int).toNat (((p ++ a).length : Nat) : Int).toNat = ofL a := by
    rw [Int.toNat_natCast, Int.toNat_natCast, extract_ofL, drop_mid h, hpa, List.append_nil]
    rw [List.take_of_length_le (by omega)]
   rw [ex]
   have := h5 e (by simp)
   rw [List.map_append, List.map_singleton] at this
   exact ev_neg (by omega) (ev_pos (by omega) this)
 | cons c r ih =>
  intro a h h2 h3 h4 h5
  have hz : l.length = p.length + (a.length + (r.length + 1)) := by rw [h]; simp
  have hpa : (p ++ a).length = p.length + a.length := by simp
  have e1 : bt (ofL l) (((p ++ a).length : Nat) : Int) = (c.toNat : Int) := bt_ofL_mid (l := l) (p := p ++ a) (c := c) (r := r) (by rw [h]; simp)
  have w1 : wrap64 ((((p ++ a).length : Nat) : Int) + 1) = ((p ++ (a ++ [c])).length : Int) := (wrap_id (by omega) (by omega)).trans (by simp only [List.length_append, List.length_cons, List.length_nil]; omega)
  have h32 : (c.toNat : Int) = 32 ↔ c = 32 := u8_eq c 32 (by omega)
  refine ev_succ ?_
  simp only [spec_l1Words.l1, size_ofL, List.length_map, e1, w1]
  clear e1 w1
  refine ev_pos (by omega) (ev_pos (by omega) (ev_bind (spec_l1Atom_ev c) ?_))
  cases e : atB c with
  | true =>
   refine ev_pos rfl ?_
   have ec : a ++ (c :: r).takeWhile atB = a ++ [c] ++ r.takeWhile atB := by simp [List.takeWhile, e]
   have ed : (c :: r).dropWhile atB = r.dropWhile atB := by simp [List.dropWhile, e]
   rw [ec] at h3
   rw [ec, ed] at h4
   rw [ec, ed] at h5
   exact ih (a ++ [c]) (by rw [h]; simp) (by simp [h2, e]) h3 h4 h5
  | false =>
   have et : (c :: r).takeWhile atB = [] := by simp [List.takeWhile, e]
   have ed : (c :: r).dropWhile atB = c :: r := by simp [List.dropWhile, e]
   rw [et, List.append_nil] at h3
   rw [et, ed, List.append_nil] at h4
   rw [et, ed, List.append_nil] at h5
   refine ev_neg (by simp) (ev_pos (by omega) (ev_pos (by omega) (ev_pos (by omega) ?_)))
   by_cases e : a = []
   ·
    rw [h3 e]; subst e; exact ev_pos (by simp) (ev_some _)
   ·
    have hne : 0 < a.length := List.length_pos_iff.mpr e
    have ex : (ofL l).extract (p.length : Int).toNat (((p ++ a).length : Nat) : Int).toNat = ofL a := by
     rw [Int.toNat_natCast, Int.toNat_natCast, extract_ofL, drop_mid h, hpa, show p.length + a.length - p.length = a.length by omega, List.take_left]
    rw [ex]
    refine ev_neg (by omega) ?_
    by_cases c1 : (c.toNat : Int) = 32
    ·
     have := h5 e (Or.inr (by rw [h32.mp c1]; rfl))
     rw [List.map_append, List.map_singleton] at this
     exact ev_pos c1 (ev_pos (by omega) this)
    ·
     rw [h4 e (by simp only [List.head?_cons, Option.some.injEq, reduceCtorEq, false_or]; exact fun hh => c1 (h32.mpr hh))]
     exact ev_neg c1 (ev_some _)
theorem spec_l1Words_loop (l : Str) (hl : l.length ≤ 1048576) : ∀ (n : Nat) (r p : Str) (acc : List Str), r.length < n → l = p ++ r → acc.length ≤ p.length → Ev (fun k => spec_l1Words.l0 k (ofL l) (acc.map ofL) (p.length : Int)) (wres acc (wds n true r)) := by
 intro n
 induction n with
 | zero => intro r p acc h; omega
 | succ n ih =>
  intro r p acc h h2 h3
  refine ev_succ ?_
  cases r with
  | nil =>
   rw [List.append_nil] at h2
   subst h2
   simp only [spec_l1Words.l0, size_ofL]
   exact ev_neg (by omega) (ev_eq (ev_some _) (by simp [wds, wres]))
  | cons c r =>
   simp only [List.length_cons] at h
   have hz := len_mid h2
   have e1 := bt_ofL_mid h2
   have w1 : wrap64 ((p.length : Int) + 1) = (((p ++ [c]).length : Nat) : Int) := (wrap_id (by omega) (by omega)).trans (by simp)
   have h32 : (c.toNat : Int) = 32 ↔ c = 32 := u8_eq c 32 (by omega)
   have h34 : (c.toNat : Int) = 34 ↔ c = 34 := u8_eq c 34 (by omega)
   simp only [spec_l1Words.l0, e1, w1, size_ofL, List.length_map]
   clear e1 w1
   rw [wds]
   refine ev_pos (by omega) (ev_pos (by omega) ?_)
   by_cases c1 : (c.toNat : Int) = 32
   ·
    rw [if_pos (h32.mp c1)]
    exact ev_pos c1 (ih r (p ++ [c]) acc (by omega) (by rw [h2]; simp) (by simp; omega))
   ·
    rw [if_neg (fun hh => c1 (h32.mpr hh)), if_neg (by simp)]
    refine ev_neg c1 ?_
    by_cases c2 : (c.toNat : Int) = 34
    ·
     rw [if_pos (h34.mp c2)]
     refine ev_pos c2 (ev_bind (spec_l1Read_ev h2 hl) ?_)
     cases e : rdq r with
     | none => exact ev_pos (by simp [sres]) (ev_eq (ev_some _) rfl)
     | some q =>
      obtain ⟨w, t⟩ := q
      obtain ⟨m, h4, h5, _⟩ := rdq_suf 0 r.length r w t (Nat.le_refl _) e
      have hm : r.length = m.length + t.length := by rw [h4, List.length_append]
      have hpm : (p ++ c :: m).length = p.length + m.length + 1 := by simp only [List.length_append, List.length_cons]; omega
      have ei : l.length - t.length = (p ++ c :: m).length := by omega
      have := ih t (p ++ c :: m) (acc ++ [w]) (by omega) (by rw [h2, h4]; simp) (by simp; omega)
      rw [List.map_append, List.map_singleton] at this
      simp only [sres, ei, List.nil_append]
      rw [wds_false n t (by omega)]
      refine ev_neg (by omega) (ev_neg (by omega) ?_)
      cases t with
      | nil =>
       rw [if_pos (Or.inl rfl)]
       simp only [List.length_nil] at hm ei
       refine ev_neg (by omega) (ev_pos (by omega) (ev_eq this ?_))
       cases wds n true [] with
       | none => rfl
       | some ws => simp [wres]
      | cons d t =>
       have e2 : bt (ofL l) ((p ++ c :: m).length : Int) = (d.toNat : Int) := bt_ofL_mid (l := l) (p := p ++ c :: m) (c := d) (r := t) (by rw [h2, h4]; simp)
       have h32 : (d.toNat : Int) = 32 ↔ d = 32 := u8_eq d 32 (by omega)
       simp only [List.length_cons] at hm
       rw [e2]
       clear e2
       refine ev_pos (by omega) (ev_pos (by omega) ?_)
       by_cases c3 : (d.toNat : Int) = 32
       ·
        rw [if_pos (Or.inr (by rw [h32.mp c3]; rfl))]
        refine ev_pos c3 (ev_pos (by omega) (ev_eq this ?_))
        cases wds n true (d :: t) with
        | none => rfl
        | some ws => simp [wres]
       ·
        rw [if_neg (by simp only [List.head?_cons, Option.some.injEq, reduceCtorEq, false_or]; exact fun hh => c3 (h32.mpr hh))]
        exact ev_neg c3 (ev_eq (ev_some _) rfl)
    ·
     rw [if_neg (fun hh => c2 (h34.mpr hh))]
     refine ev_neg c2 ?_
     have hsw := split_while atB (c :: r)
     have hlen := congrArg List.length hsw
     rw [List.length_append, List.length_cons] at hlen
     have key := spec_l1Words_run l acc hl (by omega) p (wres acc (if (c :: r).takeWhile atB = [] then none else (wds n false ((c :: r).dropWhile atB)).map ((c :: r).takeWhile atB :: ·))) (c :: r) [] h2 rfl (fun hh => by rw [List.nil_append] at hh; rw [if_pos hh]; rfl)
     refine (key (fun hh hn => ?_) (fun hh hn => ?_)) |> fun hq => by simpa using hq
     ·
      rw [List.nil_append] at hh
      have hne : 0 < ((c :: r).takeWhile atB).length := List.length_pos_iff.mpr hh
      rw [if_neg hh, wds_false _ _ (by omega), if_neg hn]; rfl
     ·
      rw [List.nil_append] at hh ⊢
      have hne : 0 < ((c :: r).takeWhile atB).length := List.length_pos_iff.mpr hh
      rw [if_neg hh, wds_false _ _ (by omega), if_pos hn]
      have := ih ((c :: r).dropWhile atB) (p ++ (c :: r).takeWhile atB) (acc ++ [(c :: r).takeWhile atB]) (by omega) (by rw [List.append_assoc, hsw]; exact h2) (by simp only [List.length_append, List.length_cons, List.length_nil]; omega)
      refine ev_eq this ?_
      cases wds n true ((c :: r).dropWhile atB) with
      | none => rfl
      | some ws => simp [wres]
theorem spec_l1Words_ev (l : Str) (hl : l.length ≤ 1048576) : Ev (fun k => spec_l1Words.f k (ofL l)) (wres [] (words l)) := by
 unfold spec_l1Words.f
 exact spec_l1Words_loop l hl (l.length + 1) l [] [] (by omega) rfl (by simp)

/-! The reference's ParseKind answers as the program's. -/
theorem rdq_sp (s : Str) : ∀ n : Nat, s.length ≤ n → rdq (s ++ [32]) = (rdq s).map fun q => (q.1, q.2 ++ [32]) := by
 intro n
 induction n generalizing s with
 | zero =>
  intro h
  have : s = [] := List.length_eq_zero_iff.mp (by omega)
  subst this; rfl
 | succ n ih =>
  intro h
  cases s with
  | nil => rfl
  | cons c r =>
   simp only [List.length_cons] at h
   rw [List.cons_append, rdq_cons, rdq_cons]
   by_cases c1 : c = 34
   ·
    rw [if_pos c1, if_pos c1]; rfl
   ·
    rw [if_neg c1, if_neg c1]
    by_cases c2 : c = 92
    ·
     rw [if_pos c2, if_pos c2]
     cases r with
     | nil => rfl
     | cons d r =>
      simp only [List.length_cons] at h
      simp only [List.cons_append]
      rw [ih r (by omega)]
      cases rdq r <;> rfl
    ·
     rw [if_neg c2, if_neg c2, ih r (by omega)]
     cases rdq r <;> rfl
theorem while_sp (l : Str) : (l ++ [32]).takeWhile atB = l.takeWhile atB ∧ (l ++ [32]).dropWhile atB = l.dropWhile atB ++ [32] := by
 induction l with
 | nil => exact ⟨rfl, rfl⟩
 | cons c r ih =>
  rw [List.cons_append]
  cases e : atB c with
  | true => simp only [List.takeWhile, List.dropWhile, e]; exact ⟨congrArg _ ih.1, ih.2⟩
  | false => simp [List.takeWhile, List.dropWhile, e]
theorem wds_sp : ∀ (n : Nat) (a : Bool) (s : Str), s.length < n → wds (n + 1) a (s ++ [32]) = wds n a s := by
 intro n
 induction n with
 | zero => intro a s h; omega
 | succ n ih =>
  intro a s h
  cases s with
  | nil => rfl
  | cons c r =>
   simp only [List.length_cons] at h
   rw [List.cons_append, wds, wds, ih true r (by omega)]
   by_cases c1 : c = 32
   ·
    rw [if_pos c1, if_pos c1]
   ·
    rw [if_neg c1, if_neg c1]
    by_cases c2 : a = false
    ·
     rw [if_pos c2, if_pos c2]
    ·
     rw [if_neg c2, if_neg c2]
     by_cases c3 : c = 34
     ·
      rw [if_pos c3, if_pos c3, rdq_sp r r.length (Nat.le_refl _)]
      cases e : rdq r with
      | none => rfl
      | some q =>
       obtain ⟨w, t⟩ := q
       obtain ⟨m, h4, h5, _⟩ := rdq_suf 0 r.length r w t (Nat.le_refl _) e
       have hm : r.length = m.length + t.length := by rw [h4, List.length_append]
       simp only [Option.map_some]
       rw [ih false t (by omega)]
     ·
      rw [if_neg c3, if_neg c3]
      have hw := while_sp (c :: r)
      rw [List.cons_append] at hw
      rw [hw.1, hw.2]
      by_cases c4 : (c :: r).takeWhile atB = []
      ·
       rw [if_pos c4, if_pos c4]
      ·
       have hne : 0 < ((c :: r).takeWhile atB).length := List.length_pos_iff.mpr c4
       have hlen := congrArg List.length (split_while atB (c :: r))
       rw [List.length_append, List.length_cons] at hlen
       rw [if_neg c4, if_neg c4, ih false _ (by omega)]
theorem words_snoc (s : Str) : words (s ++ [32]) = words s := by
 unfold words
 rw [List.length_append]
 exact wds_sp (s.length + 1) true s (by omega)
theorem words_sp_cons (s : Str) : words (32 :: s) = words s := by
 unfold words
 rw [wds, if_pos rfl]; rfl
/-- What does not mind a space ahead or behind does not mind being trimmed. -/
theorem trim_ind {α : Type} (f : Str → α) (h1 : ∀ s, f (32 :: s) = f s) (h2 : ∀ s, f (s ++ [32]) = f s) (s : Str) : f (trim s) = f s := by
 have r1 : ∀ (i : Nat) (t : Str), f (List.replicate i 32 ++ t) = f t := by
  intro i
  induction i with
  | zero => intro t; rfl
  | succ i ih => intro t; rw [List.replicate_succ, List.cons_append, h1, ih]
 have r2 : ∀ (j : Nat) (t : Str), f (t ++ List.replicate j 32) = f t := by
  intro j
  induction j with
  | zero => intro t; rw [List.replicate_zero, List.append_nil]
  | succ j ih => intro t; rw [List.replicate_succ', ← List.append_assoc, h2, ih]
 obtain ⟨i, j, e⟩ := trim_split s
 have : f s = f (List.replicate i 32 ++ trim s ++ List.replicate j 32) := congrArg f e
 rw [this, r2, r1]
theorem words_trim (s : Str) : words (trim s) = words s := trim_ind words words_sp_cons words_snoc s
theorem cutB_snoc (b : UInt8) (hb : b ≠ 32) (s : Str) : cutB b (s ++ [32]) = (cutB b s).map fun x => (x.1, x.2 ++ [32]) := by
 induction s with
 | nil =>
  have h : ¬ (32 : UInt8) = b := fun h => hb h.symm
  simp [cutB, h]
 | cons c r ih =>
  rw [List.cons_append, cutB, cutB]
  by_cases h : c = b
  ·
   rw [if_pos h, if_pos h]; rfl
  ·
   rw [if_neg h, if_neg h, ih]; cases cutB b r <;> rfl
theorem par1_trim (s : Str) : par1 (trim s) = par1 s := by
 refine trim_ind par1 (fun s => ?_) (fun s => ?_) s
 ·
  unfold par1
  rw [cutB, if_neg (by decide)]
  cases cutB 61 s with
  | none => rfl
  | some x => simp only [Option.map_some, trim_cons]
 ·
  unfold par1
  rw [cutB_snoc 61 (by decide)]
  cases cutB 61 s with
  | none => rfl
  | some x => simp only [Option.map_some, words_snoc]
/-- Cut outside of quotes, or plainly: the same, or a quote stands in what is ahead. -/
theorem cut_or (b : UInt8) (s : Str) : cut0 b 0 s = cutB b s ∨ ((∀ x, cut0 b 0 s = some x → 34 ∈ x.1) ∧ (∀ x, cutB b s = some x → 34 ∈ x.1)) := by
 induction s with
 | nil => exact Or.inl rfl
 | cons c r ih =>
  rw [cut0, cutB]
  by_cases h : c = b
  ·
   rw [if_pos ⟨rfl, h⟩, if_pos h]; exact Or.inl rfl
  ·
   rw [if_neg (fun hh => h hh.2), if_neg h]
   by_cases c1 : c = 34
   ·
    right
    rw [c1]
    refine ⟨fun x hx => ?_, fun x hx => ?_⟩ <;>
    ·
     simp only [Option.map_eq_some_iff] at hx
     obtain ⟨y, _, rfl⟩ := hx
     simp
   ·
    rw [show nq 0 c = 0 by simp [nq, c1]]
    rcases ih with h2 | ⟨h2, h3⟩
    ·
     left; rw [h2]
    ·
     right
     refine ⟨fun x hx => ?_, fun x hx => ?_⟩
     ·
      simp only [Option.map_eq_some_iff] at hx
      obtain ⟨y, hy, rfl⟩ := hx
      simp [h2 y hy]
     ·
      simp only [Option.map_eq_some_iff] at hx
      obtain ⟨y, hy, rfl⟩ := hx
      simp [h3 y hy]
/-- The reference's parameter. -/
def parS (s : Str) : Option (Str × Str) := match cut0 61 0 (trim s) with
 | none => none
 | some x => match words x.2 with
  | some [w] => some (low (trim x.1), w)
  | _ => none
def Bad (o : Option (Str × Str)) : Prop := ∀ x, o = some x → 34 ∈ x.1
theorem low_mem {l : Str} (h : (34 : UInt8) ∈ l) : (34 : UInt8) ∈ low l := List.mem_map.mpr ⟨34, h, by decide⟩
theorem par_or (s : Str) : parS s = par1 s ∨ (Bad (parS s) ∧ Bad (par1 s)) := by
 rw [← par1_trim s]
 unfold parS par1
 rcases cut_or 61 (trim s) with h | ⟨h1, h2⟩
 ·
  left; rw [h]
 ·
  right
  refine ⟨fun x hx => ?_, fun x hx => ?_⟩
  ·
   cases e : cut0 61 0 (trim s) with
   | none => rw [e] at hx; cases hx
   | some y =>
    have h3 := h1 y e
    rw [e] at hx
    simp only at hx
    split at hx
    ·
     cases hx; exact low_mem (mem_trim _ _ h3 (by decide))
    ·
     cases hx
  ·
   cases e : cutB 61 (trim s) with
   | none => rw [e] at hx; cases hx
   | some y =>
    have h3 := h2 y e
    rw [e] at hx
    simp only at hx
    split at hx
    ·
     cases hx; exact low_mem (mem_trim _ _ h3 (by decide))
    ·
     cases hx
def parsS : List Str → Option (List (Str × Str))
 | [] => some []
 | s :: r => match parS s with
  | none => none
  | some x => (parsS r).map (x :: ·)
def Bads (o : Option (List (Str × Str))) : Prop := ∀ l, o = some l → ∃ x ∈ l, (34 : UInt8) ∈ x.1
theorem pars_or (r : List Str) : parsS r = pars r ∨ (Bads (parsS r) ∧ Bads (pars r)) := by
 induction r with
 | nil => exact Or.inl rfl
 | cons s r ih =>
  rw [parsS, pars]
  have badHead : ∀ (o : Option (Str × Str)) (p : Option (List (Str × Str))), Bad o → Bads (match o with
    | none => none
    | some x => p.map (x :: ·)) := by
   intro o p h l hl
   cases o with
   | none => cases hl
   | some x =>
    simp only [Option.map_eq_some_iff] at hl
    obtain ⟨y, _, rfl⟩ := hl
    exact ⟨x, by simp, h x rfl⟩
  have badTail : ∀ (o : Option (Str × Str)) (p : Option (List (Str × Str))), Bads p → Bads (match o with
    | none => none
    | some x => p.map (x :: ·)) := by
   intro o p h l hl
   cases o with
   | none => cases hl
   | some x =>
    simp only [Option.map_eq_some_iff] at hl
    obtain ⟨y, hy, rfl⟩ := hl
    obtain ⟨z, hz, h3⟩ := h y hy
    exact ⟨z, by simp [hz], h3⟩
  rcases par_or s with h | ⟨h1, h2⟩
  ·
   rcases ih with h2 | ⟨h2, h3⟩
   ·
    left; rw [h, h2]
   ·
    right; exact ⟨badTail _ _ h2, badTail _ _ h3⟩
  ·
   right; exact ⟨badHead _ _ h1, badHead _ _ h2⟩
theorem isSmall_no {l : Str} (h : (34 : UInt8) ∈ l) : isSmall l = false := by
 cases e : isSmall l with
 | false => rfl
 | true => exact absurd rfl (nmB_not 34 (isNm_all (isSmall_nm e).1 34 h)).1
theorem kvalid_bad (a b : Str) (ps : List (Str × Str)) (h : (34 : UInt8) ∈ a ∨ ∃ x ∈ ps, (34 : UInt8) ∈ x.1) : kvalid a b ps = false := by
 cases e : kvalid a b ps with
 | false => rfl
 | true =>
  obtain ⟨h1, _, _, h4, _⟩ := kvalid_split e
  rcases h with h | ⟨x, hx, h⟩
  ·
   rw [isSmall_no h] at h1; cases h1
  ·
   have := (kfl_all ps [] h4 x hx).1
   rw [isSmall_no h] at this; cases this
/-- The reference's kind. -/
def pkS (s : Str) : Option (Str × Str × List (Str × Str)) := if tvalid s = true then pkO (cut0 47 0 (trim ((parts 59 0 s).headD []))) (parsS ((parts 59 0 s).drop 1)) else none
theorem pkO_bad1 (o : Option (Str × Str)) (p : Option (List (Str × Str))) (h : Bad o) : pkO o p = none := by
 unfold pkO
 split
 ·
  rename_i x ps
  rw [kvalid_bad _ _ _ (Or.inl (low_mem (h x rfl)))]; rfl
 ·
  rfl
theorem pkO_bad2 (o : Option (Str × Str)) (p : Option (List (Str × Str))) (h : Bads p) : pkO o p = none := by
 unfold pkO
 split
 ·
  rename_i x ps
  rw [kvalid_bad _ _ _ (Or.inr (h ps rfl))]; rfl
 ·
  rfl
theorem pkS_eq (s : Str) : pkS s = pk s := by
 unfold pkS pk
 split
 ·
  rcases cut_or 47 (trim ((parts 59 0 s).headD [])) with h | ⟨h1, h2⟩
  ·
   rw [h]
   rcases pars_or ((parts 59 0 s).drop 1) with h3 | ⟨h3, h4⟩
   ·
    rw [h3]
   ·
    rw [pkO_bad2 _ _ h3, pkO_bad2 _ _ h4]
  ·
   rw [pkO_bad1 _ _ h1, pkO_bad1 _ _ h2]
 ·
  rfl
theorem spec_ParseKind_end (ok : Bool) (m u : Str) (ps : List (Str × Str)) (hm : m.length ≤ 1048576) (hu : u.length ≤ 1048576) (hz : szp ps ≤ 1048576) (hn : ps.length ≤ 1048576) :
  Ev (fun k => if ok = true then ((spec_KindValid.f k (ofL m) (ofL u) (ps.map e76)).bind fun t => (if t = true then (some (ofL m, ofL u, ps.map e76, true)) else (some ((⟨#[]⟩ : ByteArray), (⟨#[]⟩ : ByteArray), ([] : List S29), false)))) else (some ((⟨#[]⟩ : ByteArray), (⟨#[]⟩ : ByteArray), ([] : List S29), false))) (kres (fin1 ok m u ps)) := by
 cases ok with
 | false => exact ev_neg (by simp) (ev_eq (ev_some _) (by unfold fin1; rw [if_neg (by simp)]; rfl))
 | true =>
  refine ev_pos rfl (ev_bind (spec_KindValid_ev m u ps hm hu hz hn) ?_)
  cases e : kvalid m u ps with
  | true => exact ev_pos rfl (ev_eq (ev_some _) (by unfold fin1; rw [if_pos ⟨rfl, e⟩]; rfl))
  | false => exact ev_neg (by simp) (ev_eq (ev_some _) (by unfold fin1; rw [if_neg (by simp [e])]; rfl))
theorem cut0_len {b : UInt8} {q : Nat} {s x t : Str} (h : cut0 b q s = some (x, t)) : s.length = x.length + t.length + 1 := by
 rw [cut0_eq b s q x t h]; simp; omega
/-- What is still to be read: nothing, or a rest. -/
def rest (more : Bool) (s : Str) : List Str := if more = true then parts 59 0 s else []
theorem spec_ParseKind_loop (ok : Bool) (m u : Str) (hm : m.length ≤ 1048576) (hu : u.length ≤ 1048576) : ∀ (n : Nat) (s : Str) (more : Bool) (q : List (Str × Str)), s.length + (if more = true then 1 else 0) ≤ n → s.length + q.length + (if more = true then 1 else 0) ≤ 500 → szp q ≤ 1000 * q.length →
  Ev (fun k => spec_ParseKind.l0 k (ofL s) more ok (ofL m) (ofL u) (q.map e76)) (kres (fins ok m u q (parsS (rest more s)))) := by
 intro n
 induction n with
 | zero =>
  intro s more q h h2 h3
  cases more with
  | true => simp at h
  | false =>
   refine ev_succ ?_
   simp only [spec_ParseKind.l0]
   refine ev_neg (by simp) ?_
   have := spec_ParseKind_end ok m u q hm hu (by omega) (by omega)
   simpa [rest, parsS, fins] using this
 | succ n ih =>
  intro s more q h h2 h3
  cases more with
  | false =>
   refine ev_succ ?_
   simp only [spec_ParseKind.l0]
   refine ev_neg (by simp) ?_
   have := spec_ParseKind_end ok m u q hm hu (by omega) (by omega)
   simpa [rest, parsS, fins] using this
  | true =>
   simp only [if_true] at h h2
   have hbad : ∀ (x5 : ByteArray) (x6 : Bool) (x12 : ByteArray) (x15 : List ByteArray), Ev (fun k => spec_ParseKind.j1 k x5 x6 ok x12 x15 true (ofL m) (ofL u) (q.map e76)) (kres none) := by
    intro x5 x6 x12 x15
    refine ev_succ ?_
    simp only [spec_ParseKind.j1]
    exact ev_pos trivial (ev_some _)
   /- one part -/
   have one : ∀ (c t : Str) (more : Bool), c.length ≤ 500 → t.length + (if more = true then 1 else 0) ≤ n → t.length + (q.length + 1) + (if more = true then 1 else 0) ≤ 500 → 
     Ev (fun k => (spec_l2Trim.f k (ofL c)).bind fun t317 => ((spec_l2Cut.f k t317 61).bind fun bt318 => ((spec_l2Trim.f k bt318.2.1).bind fun t321 => ((spec_l1Words.f k t321).bind fun bt322 => (if bt318.2.2 = true then (if bt322.2 = true then (spec_ParseKind.j1 k (ofL t) more ok bt318.1 bt322.1 ((bt322.1.length : Int) != 1) (ofL m) (ofL u) (q.map e76)) else (spec_ParseKind.j1 k (ofL t) more ok bt318.1 bt322.1 true (ofL m) (ofL u) (q.map e76))) else (spec_ParseKind.j1 k (ofL t) more ok bt318.1 bt322.1 true (ofL m) (ofL u) (q.map e76))))))) (kres (fins ok m u q (parsS (c :: rest more t)))) := by
    intro c t more hc ht hq
    have htl := trim_len c
    refine ev_bind (spec_l2Trim_ev c (by omega)) (ev_bind (spec_l2Cut_ev (trim c) 61 (by decide) (by omega)) ?_)
    cases e : cut0 61 0 (trim c) with
    | none =>
     simp only [cres]
     refine ev_bind (spec_l2Trim_ev [] (by simp)) (ev_bind (spec_l1Words_ev _ (by decide)) (ev_neg (by simp) (ev_eq (hbad _ _ _ _) ?_)))
     rw [parsS, parS, e]; rfl
    | some x =>
     obtain ⟨a, v⟩ := x
     have hlen := cut0_len e
     have hvl := trim_len v
     have hal := trim_len a
     simp only [cres]
     refine ev_bind (spec_l2Trim_ev v (by omega)) (ev_bind (spec_l1Words_ev _ (by omega)) (ev_pos trivial ?_))
     rw [words_trim]
     cases e2 : words v with
     | none =>
      refine ev_neg (by simp [wres]) (ev_eq (hbad _ _ _ _) ?_)
      rw [parsS, parS, e]; simp only [e2]; rfl
     | some ws =>
      simp only [wres, List.nil_append]
      refine ev_pos trivial ?_
      by_cases h1 : ws.length = 1
      ·
       obtain ⟨w, rfl⟩ := List.length_eq_one_iff.mp h1
       have hwl := words_len e2 w (by simp)
       have e3 : parS c = some (low (trim a), w) := by rw [parS, e]; simp only [e2]
       have := ih t more (q ++ [(low (trim a), w)]) ht (by simp only [List.length_append, List.length_cons, List.length_nil]; omega) (by rw [szp_append]; simp only [szp, List.length_append, List.length_cons, List.length_nil, low_len]; omega)
       have hl := spec_LowerText_eq (trim a) (by omega)
       refine ev_succ ?_
       simp only [spec_ParseKind.j1, List.map_cons, List.map_nil, List.length_cons, List.length_nil, List.length_map]
       refine ev_neg (by simp) (ev_bind (spec_l2Trim_ev a (by omega)) ?_)
       simp only [hl, Option.bind_some]
       refine ev_pos (by omega) (ev_pos (by omega) ?_)
       rw [parsS, e3]
       simp only
       rw [fins_cons]
       rw [List.map_append] at this
       exact this
      ·
       have e4 : ((((ws.map ofL).length : Nat) : Int) != 1) = true := by
        rw [List.length_map]; simp only [bne_iff_ne, ne_eq]; omega
       rw [e4]
       refine ev_eq (hbad _ _ _ _) ?_
       have e3 : parS c = none := by
        rw [parS, e]
        simp only [e2]
        match ws, h1 with
        | [], _ => rfl
        | [w], h1 => exact absurd rfl h1
        | _ :: _ :: _, _ => rfl
       rw [parsS, e3]; rfl
   refine ev_succ ?_
   simp only [spec_ParseKind.l0]
   refine ev_pos trivial (ev_bind (spec_l2Cut_ev s 59 (by decide) (by omega)) ?_)
   rw [rest, if_pos rfl, parts_cut]
   cases e : cut0 59 0 s with
   | none =>
    simp only [cres]
    have := one s [] false (by omega) (by simp) (by simp; omega)
    simpa [rest] using this
   | some x =>
    obtain ⟨c, t⟩ := x
    have hlen := cut0_len e
    simp only [cres]
    have := one c t true (by omega) (by simp; omega) (by simp only [if_true]; omega)
    rw [rest, if_pos rfl] at this
    exact this
theorem spec_ParseKind_ev (s : Str) (hs : s.length ≤ 1048576) : Ev (fun k => spec_ParseKind.f k (ofL s)) (kres (pk s)) := by
 rw [← pkS_eq]
 unfold spec_ParseKind.f pkS
 refine ev_bind (spec_TextValid_ev s (by omega)) ?_
 cases et : tvalid s with
 | false => exact ev_neg (by simp) (ev_eq (ev_some _) rfl)
 | true =>
  have hsl := tvalid_len et
  refine ev_pos rfl ?_
  rw [if_pos rfl]
  /- the head, and what is behind it -/
  have key : ∀ (h0 t : Str) (more : Bool), h0.length ≤ 200 → t.length ≤ 200 → Ev (fun k => (spec_l2Trim.f k (ofL h0)).bind fun t306 => ((spec_l2Cut.f k t306 47).bind fun bt307 => ((spec_LowerText.f bt307.1).bind fun t310 => ((spec_LowerText.f bt307.2.1).bind fun t311 => (spec_ParseKind.l0 k (ofL t) more bt307.2.2 t310 t311 ([] : List S29)))))) (kres (pkO (cut0 47 0 (trim h0)) (parsS (rest more t)))) := by
   intro h0 t more hh ht
   have htl := trim_len h0
   refine ev_bind (spec_l2Trim_ev h0 (by omega)) (ev_bind (spec_l2Cut_ev (trim h0) 47 (by decide) (by omega)) ?_)
   rw [pk_fins _ _ (trim h0)]
   cases e : cut0 47 0 (trim h0) with
   | none =>
    have l1 := spec_LowerText_eq (trim h0) (by omega)
    have l2 := spec_LowerText_eq [] (by simp)
    have := spec_ParseKind_loop false (low (trim h0)) (low []) (by rw [low_len]; omega) (by simp [low]) (t.length + 1) t more [] (by split <;> omega) (by simp only [List.length_nil]; split <;> omega) (by simp [szp])
    simp only [cres, l1, l2, Option.bind_some]
    simpa [low] using this
   | some x =>
    obtain ⟨a, b⟩ := x
    have hlen := cut0_len e
    have l1 := spec_LowerText_eq a (by omega)
    have l2 := spec_LowerText_eq b (by omega)
    have := spec_ParseKind_loop true (low a) (low b) (by rw [low_len]; omega) (by rw [low_len]; omega) (t.length + 1) t more [] (by split <;> omega) (by simp only [List.length_nil]; split <;> omega) (by simp [szp])
    simp only [cres, l1, l2, Option.bind_some]
    simpa using this
  refine ev_bind (spec_l2Cut_ev s 59 (by decide) (by omega)) ?_
  rw [parts_cut]
  cases e : cut0 59 0 s with
  | none =>
   simp only [cres]
   have := key s [] false (by omega) (by simp)
   simpa [rest] using this
  | some x =>
   obtain ⟨c, t⟩ := x
   have hlen := cut0_len e
   simp only [cres]
   have := key c t true (by omega) (by omega)
   rw [rest, if_pos rfl] at this
   simpa using this

def stp {α : Type} [DecidableEq α] (r : List α) (c : α) : Bool ⊕ List α := match r with
 | [] => .inl false
 | d :: r => if c = d then .inr r else .inl false
theorem same_run {α : Type} [DecidableEq α] (a b : List α) (hl : a.length = b.length) : run stp (fun _ => true) a b = decide (a = b) := by
 induction a generalizing b with
 | nil => cases b with
  | nil => rfl
  | cons d b => simp at hl
 | cons c a ih => cases b with
  | nil => simp at hl
  | cons d b =>
   unfold run
   by_cases e : c = d
   ·
    simp only [stp, if_pos e]; rw [ih b (by simpa using hl)]; simp [e]
   ·
    simp only [stp, if_neg e]; simp [e]

/-! Kinds that are the same. -/
theorem not_eq_pair (a b c d : Str) : (!(((ofL a).toList) == ((ofL b).toList)) || (!(((ofL c).toList) == ((ofL d).toList)))) = true ↔ ¬ ((a, c) = (b, d)) := by
 simp only [toList_ofL, Prod.mk.injEq]
 by_cases h1 : a = b <;> by_cases h2 : c = d <;> simp [h1, h2]
theorem impl_FieldsSame_ev (a b : List (Str × Str)) (hn : a.length ≤ 1000000000000) : Ev (fun k => impl_Field_40.f k (a.map e76) (b.map e76)) (decide (a = b)) := by
 unfold impl_Field_40.f
 simp only [List.length_map]
 by_cases hl : a.length = b.length
 ·
  refine ev_pos (by omega) ?_
  refine ev_eq (run_start (xs := a) (F := fun k (_ : List (Str × Str)) i => impl_Field_40.l0 k (a.map e76) (b.map e76) (a.length : Int) i) (st := stp) (fin := fun _ => true) (s := b) (fun p r => ∃ q, b = q ++ r ∧ q.length = p.length) ⟨[], rfl, rfl⟩ ?_ ?_) (same_run a b hl)
  ·
   rintro p c r s h ⟨q, hq, hql⟩
   have hz := len_mid h
   have e1 := rd76_mid h
   have w1 : wrap64 ((p.length : Int) + 1) = (p.length : Int) + 1 := wrap_id (by omega) (by omega)
   cases s with
   | nil => rw [hq] at hl; simp at hl; omega
   | cons d s =>
    have e2 := rd76_mid hq
    rw [hql] at e2
    have e3 := not_eq_pair c.1 d.1 c.2 d.2
    simp only [impl_Field_40.l0, e1, e2, w1, List.length_map, e76, e3, stp]
    clear w1 e1 e2 e3
    by_cases e : c = d
    ·
     simp only [if_pos e]
     refine ⟨(fun v hv => by cases hv), fun s' hs => ⟨?_, fun v hv => ?_⟩⟩
     ·
      cases hs; exact ⟨q ++ [d], by rw [hq]; simp, by simp [hql]⟩
     ·
      exact ev_pos (by omega) (ev_pos (by omega) (ev_pos (by omega) (ev_pos (by omega) (ev_neg (by simp [e]) hv))))
    ·
     simp only [if_neg e]
     refine ⟨(fun v hv => ?_), fun s' hs => by cases hs⟩
     cases hv
     exact ev_pos (by omega) (ev_pos (by omega) (ev_pos (by omega) (ev_pos (by omega) (ev_pos e (ev_some _)))))
  ·
   intro s _
   simp only [impl_Field_40.l0, List.length_map]
   exact ev_neg (by omega) (ev_some _)
 ·
  refine ev_neg (by omega) (ev_eq (ev_some _) ?_)
  rw [eq_comm]; exact decide_eq_false (fun h => hl (by rw [h]))
def ksame (a b c d : Str) (x y : List (Str × Str)) : Bool := if a = c then (if b = d then decide (x = y) else false) else false
theorem impl_KindSame_ev (a b c d : Str) (x y : List (Str × Str)) (hn : x.length ≤ 1000000000000) : Ev (fun k => impl_KindSame.f k (ofL a) (ofL b) (x.map e76) (ofL c) (ofL d) (y.map e76)) (ksame a b c d x y) := by
 unfold impl_KindSame.f ksame
 simp only [toList_ofL]
 by_cases h1 : a = c
 ·
  rw [if_pos h1]
  by_cases h2 : b = d
  ·
   rw [if_pos h2]; exact ev_pos h1 (ev_pos h2 (ev_bind (impl_FieldsSame_ev x y hn) (ev_some _)))
  ·
   rw [if_neg h2]; exact ev_pos h1 (ev_neg h2 (ev_some _))
 ·
  rw [if_neg h1]; exact ev_neg h1 (ev_some _)

theorem ksame_iff (a b c d : Str) (x y : List (Str × Str)) : ksame a b c d x y = decide (a = c ∧ b = d ∧ x = y) := by
 unfold ksame
 by_cases h1 : a = c <;> by_cases h2 : b = d <;> by_cases h3 : x = y <;> simp [h1, h2, h3]
theorem ksame_refl (a b : Str) (x : List (Str × Str)) : ksame a b a b x x = true := by
 rw [ksame_iff]; simp

/-! The reader of draws. -/
theorem xor_nonneg (a b : Nat) (ha : a < 9223372036854775808) (hb : b < 9223372036854775808) : Go.bits .xor .i64 (a : Int) (b : Int) = ((a ^^^ b : Nat) : Int) := by
 have hx : a ^^^ b < 2 ^ 63 := Nat.xor_lt_two_pow (by omega) (by omega)
 have h1 : (BitVec.ofInt 64 (a : Int)).toNat = a := by
  rw [BitVec.ofInt_natCast, BitVec.toNat_ofNat]; exact Nat.mod_eq_of_lt (by omega)
 have h2 : (BitVec.ofInt 64 (b : Int)).toNat = b := by
  rw [BitVec.ofInt_natCast, BitVec.toNat_ofNat]; exact Nat.mod_eq_of_lt (by omega)
 show IntKind.i64.wrap ((BitVec.ofInt 64 (a : Int) ^^^ BitVec.ofInt 64 (b : Int)).toNat : Int) = _
 rw [BitVec.toNat_xor, h1, h2]
 rw [i64_w]
 exact wrap_id (by omega) (by omega)
theorem tmod_in {a b : Int} (ha : 0 ≤ a) (hb : 1 ≤ b) : 0 ≤ Int.tmod a b ∧ Int.tmod a b < b := by
 rw [Int.tmod_eq_emod_of_nonneg ha]
 exact ⟨Int.emod_nonneg _ (by omega), Int.emod_lt_of_pos _ (by omega)⟩
/-- What is known of the bytes that are drawn from. -/
def IsB (l : List Int) : Prop := l.length ≤ 2000 ∧ ∀ x ∈ l, 0 ≤ x ∧ x ≤ 255
theorem rd_in {l : List Int} (h : IsB l) (i : Int) : 0 ≤ rd l i ∧ rd l i ≤ 255 := by
 unfold rd
 rw [List.getD_eq_getElem?_getD]
 cases e : l[i.toNat]? with
 | none => simp
 | some x => exact h.2 x (List.mem_of_getElem? e)
theorem pick_ev (l : List Int) (p n : Int) (hl : IsB l) (h0 : 0 ≤ p) (h1 : p ≤ 1000000000) (hn : 1 ≤ n) (hn2 : n ≤ 1000000000) :
  ∃ v, Ev (fun k => spec_l13Rd_pick.f k l p n) (v, p + 1) ∧ 0 ≤ v ∧ v < n := by
 have hw : wrap64 (p + 1) = p + 1 := wrap_id (by omega) (by omega)
 have hw2 : wrap64 (p + 1 - 1) = p := by rw [wrap_id (by omega) (by omega)]; omega
 have hlen := hl.1
 unfold spec_l13Rd_pick.f
 rw [hw]
 by_cases he : (l.length : Int) = 0
 ·
  refine ⟨0, ev_neg (by omega) (ev_succ ?_), by omega, by omega⟩
  simp only [spec_l13Rd_pick.j0]
  refine ev_pos ?_ (ev_some _)
  rw [he]; rfl
 have hb : ((l.length : Int) == 0) = false := by simp at he ⊢; exact he
 rw [hb]
 by_cases hlt : p < (l.length : Int)
 ·
  have hv := tmod_in (rd_in hl p).1 hn
  have hr : wrap64 (rd l p) = rd l p := by have := rd_in hl p; exact wrap_id (by omega) (by omega)
  refine ⟨Int.tmod (rd l p) n, ev_neg (by omega) (ev_succ ?_), hv.1, hv.2⟩
  simp only [spec_l13Rd_pick.j0, hw2, hr]
  exact ev_neg (by simp) (ev_pos hlt (ev_pos h0 (ev_neg (by omega) (ev_some _))))
 ·
  have hq := tmod_in h0 (b := (l.length : Int)) (by omega)
  have hm : wrap64 (wrap64 (p * 7) + 3) = p * 7 + 3 := by rw [wrap_id (x := p * 7) (by omega) (by omega), wrap_id (by omega) (by omega)]
  have hq2 := tmod_in (a := p * 7 + 3) (by omega) (b := (l.length : Int)) (by omega)
  have r1 := rd_in hl (Int.tmod p l.length)
  have r2 := rd_in hl (Int.tmod (p * 7 + 3) l.length)
  generalize hA : rd l (Int.tmod p l.length) = A at r1
  generalize hB : rd l (Int.tmod (p * 7 + 3) l.length) = B at r2
  have hd : 0 ≤ Int.tdiv p l.length ∧ Int.tdiv p l.length ≤ p := by
   rw [Int.tdiv_eq_ediv_of_nonneg h0]
   refine ⟨Int.ediv_nonneg h0 (by omega), Int.ediv_le_self _ h0⟩
  generalize hD : Int.tdiv p l.length = D at hd
  have w1 : wrap64 A = A := wrap_id (by omega) (by omega)
  have w2 : wrap64 B = B := wrap_id (by omega) (by omega)
  have w3 : wrap64 (A * 131) = A * 131 := wrap_id (by omega) (by omega)
  have w4 : wrap64 (B * 1117) = B * 1117 := wrap_id (by omega) (by omega)
  have w5 : wrap64 (A * 131 + B * 1117) = A * 131 + B * 1117 := wrap_id (by omega) (by omega)
  have w6 : wrap64 (p * 29) = p * 29 := wrap_id (by omega) (by omega)
  have w7 : wrap64 (A * 131 + B * 1117 + p * 29) = A * 131 + B * 1117 + p * 29 := wrap_id (by omega) (by omega)
  have w8 : wrap64 D = D := wrap_id (by omega) (by omega)
  have w9 : wrap64 (D * 53) = D * 53 := wrap_id (by omega) (by omega)
  have w10 : wrap64 (A * 131 + B * 1117 + p * 29 + D * 53) = A * 131 + B * 1117 + p * 29 + D * 53 := wrap_id (by omega) (by omega)
  have hX : 0 ≤ A * 131 + B * 1117 + p * 29 + D * 53 ∧ A * 131 + B * 1117 + p * 29 + D * 53 < 9223372036854775808 := by omega
  generalize hXX : A * 131 + B * 1117 + p * 29 + D * 53 = X at hX w10
  have hX2 : 0 ≤ Int.tdiv X 64 ∧ Int.tdiv X 64 ≤ X := by
   rw [Int.tdiv_eq_ediv_of_nonneg hX.1]
   refine ⟨Int.ediv_nonneg hX.1 (by omega), Int.ediv_le_self _ hX.1⟩
  have w11 : wrap64 (Int.tdiv X 64) = Int.tdiv X 64 := wrap_id (by omega) (by omega)
  have hxor : 0 ≤ Go.bits .xor .i64 X (Int.tdiv X 64) := by
   obtain ⟨a, ha⟩ := Int.eq_ofNat_of_zero_le hX.1
   obtain ⟨b, hb⟩ := Int.eq_ofNat_of_zero_le hX2.1
   rw [hb, ha, xor_nonneg _ _ (by omega) (by omega)]
   omega
  have hv := tmod_in hxor hn
  refine ⟨Int.tmod (Go.bits .xor .i64 X (Int.tdiv X 64)) n, ev_neg (by omega) (ev_succ ?_), hv.1, hv.2⟩
  simp only [spec_l13Rd_pick.j0, hw2, hm, hA, hB, hD, w1, w2, w3, w4, w5, w6, w7, w8, w9, hXX, w10, w11]
  exact ev_neg (by simp) (ev_neg hlt (ev_neg he (ev_pos hq.1 (ev_pos hq.2 (ev_pos hq2.1 (ev_pos hq2.2 (ev_neg (by omega) (ev_some _))))))))
theorem isB_take {l : List Int} (h : ∀ x ∈ l, (Lit.int .u8 x).wf = true) (n : Nat) (hn : (l.take n).length ≤ 2000) : IsB (l.take n) := by
 refine ⟨hn, fun x hx => ?_⟩
 have := h x (List.mem_of_mem_take hx)
 simp [Lit.wf, IntKind.min, IntKind.max, IntKind.bits, IntKind.signed] at this
 omega
theorem of_ev (l : List Int) (p : Int) (ws : List ByteArray) (hl : IsB l) (h0 : 0 ≤ p) (h1 : p ≤ 1000000000) (hn : 1 ≤ ws.length) (hn2 : ws.length ≤ 1000000) :
  ∃ v, Ev (fun k => spec_l13Rd_of.f k l p ws) (v, p + 1) ∧ v ∈ ws := by
 obtain ⟨i, hi, i0, i1⟩ := pick_ev l p ws.length hl h0 h1 (by omega) (by omega)
 have hlt : i.toNat < ws.length := by omega
 refine ⟨rdOf ByteArray.empty ws i, ?_, ?_⟩
 ·
  unfold spec_l13Rd_of.f
  exact ev_bind hi (ev_pos i0 (ev_pos i1 (ev_some _)))
 ·
  unfold rdOf
  rw [List.getD_eq_getElem?_getD, List.getElem?_eq_getElem hlt]
  exact List.getElem_mem hlt
theorem num_ev (l : List Int) (p : Int) (ws : List Int) (hl : IsB l) (h0 : 0 ≤ p) (h1 : p ≤ 1000000000) (hn : 1 ≤ ws.length) (hn2 : ws.length ≤ 1000000) :
  ∃ v, Ev (fun k => spec_l13Rd_num.f k l p ws) (v, p + 1) ∧ v ∈ ws := by
 obtain ⟨i, hi, i0, i1⟩ := pick_ev l p ws.length hl h0 h1 (by omega) (by omega)
 have hlt : i.toNat < ws.length := by omega
 refine ⟨rd ws i, ?_, ?_⟩
 ·
  unfold spec_l13Rd_num.f
  exact ev_bind hi (ev_pos i0 (ev_pos i1 (ev_some _)))
 ·
  unfold rd
  rw [List.getD_eq_getElem?_getD, List.getElem?_eq_getElem hlt]
  exact List.getElem_mem hlt
theorem open_ev (l : List Int) (h : ∀ x ∈ l, (Lit.int .u8 x).wf = true) : ∃ l', spec_l13Open.f l = some (l', 0) ∧ IsB l' := by
 unfold spec_l13Open.f
 by_cases hc : (l.length : Int) > 2000
 ·
  refine ⟨l.take 2000, ?_, isB_take h 2000 (by rw [List.length_take]; omega)⟩
  rw [if_pos hc, if_pos (by omega)]
 ·
  refine ⟨l, by rw [if_neg hc], ?_⟩
  have := isB_take h l.length (by rw [List.take_length]; omega)
  rwa [List.take_length] at this

theorem mem_L {v : ByteArray} {ws : List ByteArray} (h : v ∈ ws) : L v ∈ ws.map L := List.mem_map_of_mem h
theorem small_nat {n : Int} {ws : List Int} (h : n ∈ ws) (m : Nat) (hm : ∀ x ∈ ws, 0 ≤ x ∧ x ≤ (m : Int)) : ∃ k : Nat, n = (k : Int) ∧ k ≤ m := by
 have := hm n h
 exact ⟨n.toNat, by omega, by omega⟩

/-! Kinds that are drawn. -/
def kgood (n : Nat) (a b : Str) (ps : List (Str × Str)) : Prop := a.length ≤ 100 ∧ b.length ≤ 100 ∧ ps.length ≤ n ∧ ∀ x ∈ ps, x.1.length ≤ 100 ∧ x.2.length ≤ 100
theorem szp_of (ps : List (Str × Str)) (h : ∀ x ∈ ps, x.1.length ≤ 100 ∧ x.2.length ≤ 100) : szp ps ≤ 200 * ps.length := by
 induction ps with
 | nil => simp [szp]
 | cons c r ih =>
  have h1 := h c (by simp)
  have h2 := ih (fun x hx => h x (List.mem_cons_of_mem _ hx))
  simp only [szp, List.length_cons]
  omega
theorem kgood_small {n : Nat} {a b : Str} {ps : List (Str × Str)} (h : kgood n a b ps) : small ps := fun x hx => by
 have := h.2.2.2 x hx
 exact ⟨by omega, by omega⟩
/-- One of the texts is drawn; it is short. -/
theorem word_ev (l : List Int) (hl : IsB l) (p : Int) (ws : List ByteArray) (h0 : 0 ≤ p) (h1 : p ≤ 1000000) (hn : 1 ≤ ws.length ∧ ws.length ≤ 1000000) (hs : ∀ y ∈ ws, y.size ≤ 100) : ∃ v : Str, Ev (fun k => spec_l13Rd_of.f k l p ws) (ofL v, p + 1) ∧ v.length ≤ 100 := by
 obtain ⟨v, hv, hm⟩ := of_ev l p ws hl h0 (by omega) hn.1 hn.2
 have := hs v hm
 rw [size_L] at this
 exact ⟨L v, hv, this⟩
theorem l7Draw_loop (l : List Int) (hl : IsB l) (a b : Str) (ha : a.length ≤ 100) (hb : b.length ≤ 100) (n : Nat) : ∀ (ps : List (Str × Str)) (p : Int), 0 ≤ p → p + 2 * n ≤ 1000 → n + ps.length ≤ 4 → (∀ x ∈ ps, x.1.length ≤ 100 ∧ x.2.length ≤ 100) →
  ∃ (qs : List (Str × Str)) (q : Int), Ev (fun k => spec_l7Draw.l0 k (n : Int) l p (ofL a) (ofL b) (ps.map e76)) (ofL a, ofL b, qs.map e76, q) ∧ kgood 4 a b qs ∧ 0 ≤ q ∧ q ≤ p + 2 * n := by
 induction n with
 | zero =>
  intro ps p h0 h1 h2 h3
  refine ⟨ps, p, ev_succ ?_, ⟨ha, hb, by omega, h3⟩, h0, by omega⟩
  simp only [spec_l7Draw.l0]
  exact ev_neg (by omega) (ev_some _)
 | succ n ih =>
  intro ps p h0 h1 h2 h3
  obtain ⟨v, hv, hvl⟩ := word_ev l hl p [(⟨#[99, 104, 97, 114, 115, 101, 116]⟩ : ByteArray), (⟨#[98, 111, 117, 110, 100, 97, 114, 121]⟩ : ByteArray), (⟨#[110, 97, 109, 101]⟩ : ByteArray), (⟨#[120]⟩ : ByteArray)] h0 (by omega) (by simp) (by decide)
  obtain ⟨u, hu, hul⟩ := word_ev l hl (p + 1) [(⟨#[117, 116, 102, 45, 56]⟩ : ByteArray), (⟨#[98, 48]⟩ : ByteArray), (⟨#[97, 32, 98]⟩ : ByteArray), (⟨#[113, 34, 122]⟩ : ByteArray), (⟨#[]⟩ : ByteArray), (⟨#[98, 59, 99]⟩ : ByteArray), (⟨#[120, 121, 122]⟩ : ByteArray)] (by omega) (by omega) (by simp) (by decide)
  have hsm : small ps := fun x hx => by have := h3 x hx; exact ⟨by omega, by omega⟩
  have hf := spec_l3Find_ev ps v hsm (by omega) (by omega)
  have e : wrap64 (((n + 1 : Nat) : Int) - 1) = (n : Int) := (wrap_id (by omega) (by omega)).trans (by omega)
  by_cases hlt : fidx v ps 0 < 0
  ·
   obtain ⟨qs, q, h4, h5, h6, h7⟩ := ih (ps ++ [(v, u)]) (p + 1 + 1) (by omega) (by omega) (by simp; omega) (fun x hx => by
    rcases List.mem_append.mp hx with h | h
    ·
     exact h3 x h
    ·
     rw [List.mem_singleton.mp h]; exact ⟨hvl, hul⟩)
   refine ⟨qs, q, ev_succ ?_, h5, h6, by omega⟩
   simp only [spec_l7Draw.l0, e]
   clear e
   rw [List.map_append] at h4
   exact ev_pos (by omega) (ev_bind hv (ev_bind hu (ev_bind hf (ev_pos hlt (ev_pos (by rw [List.length_map]; omega) h4)))))
  ·
   obtain ⟨qs, q, h4, h5, h6, h7⟩ := ih ps (p + 1 + 1) (by omega) (by omega) (by omega) h3
   refine ⟨qs, q, ev_succ ?_, h5, h6, by omega⟩
   simp only [spec_l7Draw.l0, e]
   clear e
   exact ev_pos (by omega) (ev_bind hv (ev_bind hu (ev_bind hf (ev_neg hlt h4))))
theorem l7Draw_ev (l : List Int) (hl : IsB l) (p : Int) (h0 : 0 ≤ p) (h1 : p ≤ 100) : ∃ (a b : Str) (qs : List (Str × Str)) (q : Int), Ev (fun k => spec_l7Draw.f k l p) (ofL a, ofL b, qs.map e76, q) ∧ kgood 4 a b qs ∧ 0 ≤ q ∧ q ≤ p + 9 := by
 obtain ⟨a, hva, hal⟩ := word_ev l hl p [(⟨#[116, 101, 120, 116]⟩ : ByteArray), (⟨#[105, 109, 97, 103, 101]⟩ : ByteArray), (⟨#[109, 117, 108, 116, 105, 112, 97, 114, 116]⟩ : ByteArray)] h0 (by omega) (by simp) (by decide)
 obtain ⟨b, hvb, hbl⟩ := word_ev l hl (p + 1) [(⟨#[112, 108, 97, 105, 110]⟩ : ByteArray), (⟨#[104, 116, 109, 108]⟩ : ByteArray), (⟨#[109, 105, 120, 101, 100]⟩ : ByteArray), (⟨#[120, 45, 121]⟩ : ByteArray)] (by omega) (by omega) (by simp) (by decide)
 obtain ⟨n, hvn, hnm⟩ := num_ev l (p + 1 + 1) [1, 0, 2, 3] hl (by omega) (by omega) (by simp) (by simp)
 obtain ⟨m, rfl, hm⟩ := small_nat hnm 3 (by decide)
 obtain ⟨qs, q, h4, h5, h6, h7⟩ := l7Draw_loop l hl a b hal hbl m [] (p + 1 + 1 + 1) (by omega) (by omega) (by simp; omega) (by simp)
 refine ⟨a, b, qs, q, ?_, h5, h6, by omega⟩
 unfold spec_l7Draw.f
 exact ev_bind hva (ev_bind hvb (ev_bind hvn h4))
theorem l7WrongN_ev (n : Nat) (hn : n ≤ 100) (l : List Int) (hl : IsB l) (p : Int) (h0 : 0 ≤ p) (h1 : p ≤ 1000) (a b : Str) (ps : List (Str × Str)) (hg : kgood n a b ps) : ∃ (c d : Str) (qs : List (Str × Str)) (q : Int), Ev (fun k => spec_l7Wrong.f k l p (ofL a) (ofL b) (ps.map e76)) (ofL c, ofL d, qs.map e76, q) ∧ kgood (n + 1) c d qs ∧ 0 ≤ q ∧ q ≤ p + 3 := by
 obtain ⟨g1, g2, g3, g4⟩ := hg
 obtain ⟨i, hi, i0, i1⟩ := pick_ev l p 20 hl h0 (by omega) (by omega) (by omega)
 by_cases e0 : i = 0
 ·
  obtain ⟨v, hv, hvl⟩ := word_ev l hl (p + 1) [(⟨#[]⟩ : ByteArray), (⟨#[84, 101, 120, 116]⟩ : ByteArray), (⟨#[97, 32, 98]⟩ : ByteArray), (⟨#[49]⟩ : ByteArray)] (by omega) (by omega) (by simp) (by decide)
  refine ⟨v, b, ps, p + 1 + 1, ?_, ⟨hvl, g2, by omega, g4⟩, by omega, by omega⟩
  unfold spec_l7Wrong.f
  simp only [Option.bind_some, List.nil_append, List.length_nil, List.length_map]
  exact ev_pos (by omega) (ev_bind hi (ev_pos e0 (ev_bind hv (ev_some _))))
 ·
  by_cases e1 : i = 1
  ·
   obtain ⟨v, hv, hvl⟩ := word_ev l hl (p + 1) [(⟨#[110, 97, 109, 101]⟩ : ByteArray), (⟨#[78]⟩ : ByteArray), (⟨#[97, 61, 98]⟩ : ByteArray), (⟨#[121]⟩ : ByteArray)] (by omega) (by omega) (by simp) (by decide)
   obtain ⟨u, hu, hul⟩ := word_ev l hl (p + 1 + 1) [(⟨#[120]⟩ : ByteArray), (⟨#[10]⟩ : ByteArray)] (by omega) (by omega) (by simp) (by decide)
   refine ⟨a, b, ps ++ [(v, u)], p + 1 + 1 + 1, ?_, ⟨g1, g2, by simp; omega, fun x hx => ?_⟩, by omega, by omega⟩
   ·
    unfold spec_l7Wrong.f
    simp only [Option.bind_some, List.nil_append, List.length_nil, List.length_map]
    refine ev_pos (by omega) (ev_bind hi (ev_neg e0 (ev_pos e1 (ev_bind hv (ev_bind hu (ev_pos (by omega) (ev_eq (ev_some _) ?_)))))))
    rw [List.map_append]; rfl
   ·
    rcases List.mem_append.mp hx with h | h
    ·
     exact g4 x h
    ·
     rw [List.mem_singleton.mp h]; exact ⟨hvl, hul⟩
  ·
   refine ⟨a, b, ps, p + 1, ?_, ⟨g1, g2, by omega, g4⟩, by omega, by omega⟩
   unfold spec_l7Wrong.f
   simp only [Option.bind_some, List.nil_append, List.length_nil, List.length_map]
   exact ev_pos (by omega) (ev_bind hi (ev_neg e0 (ev_neg e1 (ev_some _))))
theorem l7Wrong_ev (l : List Int) (hl : IsB l) (p : Int) (h0 : 0 ≤ p) (h1 : p ≤ 1000) (a b : Str) (ps : List (Str × Str)) (hg : kgood 4 a b ps) : ∃ (c d : Str) (qs : List (Str × Str)) (q : Int), Ev (fun k => spec_l7Wrong.f k l p (ofL a) (ofL b) (ps.map e76)) (ofL c, ofL d, qs.map e76, q) ∧ kgood 5 c d qs := by
 obtain ⟨c, d, qs, q, h, h2, _⟩ := l7WrongN_ev 4 (by omega) l hl p h0 h1 a b ps hg
 exact ⟨c, d, qs, q, h, h2⟩
theorem kgood_more {a b : Str} {ps : List (Str × Str)} (h : kgood 4 a b ps) : kgood 5 a b ps := ⟨h.1, h.2.1, by have := h.2.2.1; omega, h.2.2.2⟩

theorem DrawKindValid_ev (l : List Int) (h : ∀ x ∈ l, (Lit.int .u8 x).wf = true) : ∃ (a b : Str) (x : List (Str × Str)), Ev (fun k => spec_DrawKindValid.f k l) (ofL a, ofL b, x.map e76) ∧ kgood 6 a b x := by
 obtain ⟨l', ho, hb⟩ := open_ev l h
 obtain ⟨a, b, x, q, h1, h2, h3, h4⟩ := l7Draw_ev l' hb 0 (by omega) (by omega)
 obtain ⟨c, d, y, q2, h5, h6, h7, h8⟩ := l7WrongN_ev 4 (by omega) l' hb q h3 (by omega) a b x h2
 obtain ⟨e, f, z, q3, h9, h10, _⟩ := l7WrongN_ev 5 (by omega) l' hb q2 h7 (by omega) c d y h6
 refine ⟨e, f, z, ?_, h10⟩
 unfold spec_DrawKindValid.f
 exact ev_bind0 ho (ev_bind h1 (ev_bind h5 (ev_bind h9 (ev_some _))))

theorem l1Bend_ev (l : List Int) (p : Int) (s : Str) (ws : List ByteArray) (hl : IsB l) (h0 : 0 ≤ p) (h1 : p ≤ 900000000) (hs : s.length ≤ 900000000) (hw : 1 ≤ ws.length) (hw2 : ws.length ≤ 1000000) (hx : ∀ x ∈ ws, (L x).length ≤ 1000) :
  ∃ (t : Str) (q : Int), Ev (fun k => spec_l1Bend.f k l p (ofL s) ws) (ofL t, q) ∧ t.length ≤ s.length + 1000 ∧ p ≤ q ∧ q ≤ p + 4 := by
 have key : ∀ (q : Int), p ≤ q → q ≤ p + 1 → 1 ≤ s.length → ∃ (t : Str) (q' : Int), Ev (fun k => spec_l1Bend.j0 k (ofL s) ws false l q) (ofL t, q') ∧ t.length ≤ s.length + 1000 ∧ p ≤ q' ∧ q' ≤ p + 4 := by
  intro q hq1 hq2 hs1
  obtain ⟨v, hv, v0, v1⟩ := pick_ev l q s.length hl (by omega) (by omega) (by omega) (by omega)
  obtain ⟨w, hw', hm⟩ := of_ev l (q + 1) ws hl (by omega) (by omega) hw hw2
  obtain ⟨u, hu, u0, u1⟩ := pick_ev l (q + 1 + 1) 2 hl (by omega) (by omega) (by omega) (by omega)
  have hwl := hx w hm
  obtain ⟨a, rfl⟩ : ∃ a, w = ofL a := ⟨L w, (ofL_L w).symm⟩
  rw [L_ofL] at hwl
  have w1 : wrap64 (v + u) = v + u := wrap_id (by omega) (by omega)
  have l1 : (List.take (v.toNat - 0) (List.drop 0 s)).length ≤ s.length := by simp; omega
  have l2 : (List.take (s.length - (v + u).toNat) (List.drop (v + u).toNat s)).length + v.toNat ≤ s.length := by simp; omega
  have l3 : (List.take (v.toNat - 0) (List.drop 0 s)).length ≤ v.toNat := by simp; omega
  refine ⟨List.take (v.toNat - 0) (List.drop 0 s) ++ a ++ List.take (s.length - (v + u).toNat) (List.drop (v + u).toNat s), q + 1 + 1 + 1, ev_succ ?_, ?_, by omega, by omega⟩
  ·
   simp only [spec_l1Bend.j0, size_ofL]
   refine ev_neg (by simp) (ev_bind hv ?_)
   simp only [extract_ofL, size_ofL]
   refine ev_pos v0 (ev_pos (by omega) (ev_bind hw' ?_))
   simp only [ofL_append, size_ofL]
   refine ev_pos (by omega) (ev_bind hu ?_)
   simp only [w1, ofL_append, size_ofL]
   clear w1
   exact ev_pos (by omega) (ev_pos (by omega) (ev_pos (by rw [List.length_append]; omega) (ev_some _)))
  ·
   rw [List.length_append, List.length_append]; omega
 have stay : ∀ (q : Int), p ≤ q → q ≤ p + 1 → ∃ (t : Str) (q' : Int), Ev (fun k => spec_l1Bend.j0 k (ofL s) ws true l q) (ofL t, q') ∧ t.length ≤ s.length + 1000 ∧ p ≤ q' ∧ q' ≤ p + 4 := by
  intro q hq1 hq2
  refine ⟨s, q, ev_succ ?_, by omega, by omega, by omega⟩
  simp only [spec_l1Bend.j0]
  exact ev_pos trivial (ev_some _)
 unfold spec_l1Bend.f
 by_cases hz : ((ofL s).size : Int) = 0
 ·
  obtain ⟨t, q, ht, h2⟩ := stay p (by omega) (by omega)
  exact ⟨t, q, ev_pos hz ht, h2⟩
 ·
  have hz2 : 1 ≤ s.length := by rw [size_ofL] at hz; omega
  obtain ⟨v, hv, v0, v1⟩ := pick_ev l p 2 hl h0 (by omega) (by omega) (by omega)
  by_cases hb : v = 0
  ·
   obtain ⟨t, q, ht, h2⟩ := stay (p + 1) (by omega) (by omega)
   refine ⟨t, q, ev_neg hz (ev_bind hv ?_), h2⟩
   rw [hb]; exact ht
  ·
   obtain ⟨t, q, ht, h2⟩ := key (p + 1) (by omega) (by omega) hz2
   refine ⟨t, q, ev_neg hz (ev_bind hv ?_), h2⟩
   have : (v == 0) = false := by simpa using hb
   rw [this]; exact ht

/-! Several answers from one number of rounds on. -/
def Evp (p : Nat → Prop) : Prop := ∃ K, ∀ k, K ≤ k → p k
theorem evp_of {α : Type} {g : Nat → Option α} {r : α} (h : Ev g r) : Evp (fun k => g k = some r) := h
theorem evp_and {p q : Nat → Prop} (h : Evp p) (h2 : Evp q) : Evp (fun k => p k ∧ q k) := by
 obtain ⟨K, h⟩ := h
 obtain ⟨M, h2⟩ := h2
 exact ⟨K + M, fun k hk => ⟨h k (by omega), h2 k (by omega)⟩⟩
theorem evp_some {p : Nat → Prop} (h : Evp p) : ∃ k, p k := by
 obtain ⟨K, h⟩ := h
 exact ⟨K, h K (Nat.le_refl _)⟩

theorem DrawFormatKind_ev (l : List Int) (h : ∀ x ∈ l, (Lit.int .u8 x).wf = true) : ∃ (a b : Str) (x : List (Str × Str)), Ev (fun k => spec_DrawFormatKind.f k l) (ofL a, ofL b, x.map e76) ∧ kgood 6 a b x := by
 obtain ⟨a, b, x, hd, hg⟩ := DrawKindValid_ev l h
 refine ⟨a, b, x, ?_, hg⟩
 unfold spec_DrawFormatKind.f
 exact ev_bind hd (ev_some _)
theorem DrawParseKind_ev (l : List Int) (h : ∀ x ∈ l, (Lit.int .u8 x).wf = true) : ∃ s : Str, Ev (fun k => spec_DrawParseKind.f k l) (ofL s) ∧ s.length ≤ 100000 := by
 obtain ⟨l', ho, hb⟩ := open_ev l h
 obtain ⟨i, hi, i0, i1⟩ := pick_ev l' 0 4 hb (by omega) (by omega) (by omega) (by omega)
 by_cases e : i = 0
 ·
  obtain ⟨v, hv, hvl⟩ := word_ev l' hb (0 + 1) [(⟨#[84, 69, 88, 84, 47, 80, 108, 97, 105, 110, 59, 32, 67, 104, 97, 114, 115, 101, 116, 32, 61, 32, 117, 116, 102, 45, 56]⟩ : ByteArray), (⟨#[116, 101, 120, 116, 47, 112, 108, 97, 105, 110, 59]⟩ : ByteArray), (⟨#[116, 101, 120, 116]⟩ : ByteArray), (⟨#[32, 116, 101, 120, 116, 47, 104, 116, 109, 108, 32, 59, 120, 61, 34, 97, 59, 98, 34]⟩ : ByteArray), (⟨#[97, 47, 98, 59, 99]⟩ : ByteArray), (⟨#[97, 47, 98, 59, 32, 99, 61, 100, 32, 101]⟩ : ByteArray), (⟨#[97, 47, 98, 59, 32, 99, 61, 100, 59, 32, 67, 61, 101]⟩ : ByteArray)] (by omega) (by omega) (by simp) (by decide)
  refine ⟨v, ?_, by omega⟩
  unfold spec_DrawParseKind.f
  exact ev_bind0 ho (ev_bind hi (ev_pos e (ev_bind hv (ev_some _))))
 ·
  obtain ⟨a, b, x, q, h1, h2, h3, h4⟩ := l7Draw_ev l' hb (0 + 1) (by omega) (by omega)
  have z1 := szp_of x h2.2.2.2
  obtain ⟨a1, a2, a3, a4⟩ := h2
  have f1 := spec_FormatKind_ev a b x (by omega) (by omega) (by omega) (by omega)
  have hfl : (if kvalid a b x = true then ktext a b x else []).length ≤ 200 := by
   split
   ·
    rename_i hv
    have := (kvalid_split hv).2.2.2.2
    omega
   ·
    simp
  obtain ⟨t, q2, h7, h8, _⟩ := l1Bend_ev l' q (if kvalid a b x = true then ktext a b x else []) [(⟨#[]⟩ : ByteArray), (⟨#[32]⟩ : ByteArray), (⟨#[59]⟩ : ByteArray), (⟨#[61]⟩ : ByteArray), (⟨#[34]⟩ : ByteArray), (⟨#[47]⟩ : ByteArray)] hb h3 (by omega) (by omega) (by simp) (by simp) (by decide)
  refine ⟨t, ?_, by omega⟩
  unfold spec_DrawParseKind.f
  exact ev_bind0 ho (ev_bind hi (ev_neg e (ev_bind h1 (ev_bind f1 (ev_bind h7 (ev_some _))))))
theorem ksame_S (x y : ByteArray) (a : List S29) (h : a.length ≤ 1000000) : Ev (fun k => impl_KindSame.f k x y a x y a) true := by
 obtain ⟨b, rfl⟩ : ∃ b : List (Str × Str), a = b.map e76 := ⟨a.map (fun z => (L z.f0, L z.f1)), by
  rw [List.map_map]
  exact ((List.map_congr_left (fun z _ => rfl)).trans (List.map_id a)).symm⟩
 have := impl_KindSame_ev (L x) (L y) (L x) (L y) b b (by rw [List.length_map] at h; omega)
 rw [ksame_refl, ofL_L, ofL_L] at this
 exact this
theorem FnKindText : laws_FnKindText.Pure := by
 intro l m hlen hlen2 h hlen3 hlen4 h2
 by_cases hc : (l.length : Int) > 1048576 ∨ (m.length : Int) > 1048576
 ·
  exact ⟨0, Or.inl hc⟩
 ·
  have hc1 : ¬ (l.length : Int) > 1048576 := fun hh => hc (Or.inl hh)
  have hc2 : ¬ (m.length : Int) > 1048576 := fun hh => hc (Or.inr hh)
  obtain ⟨a, b, x, hd, g1⟩ := DrawFormatKind_ev l h
  have z1 := szp_of x g1.2.2.2
  obtain ⟨a1, a2, a3, a4⟩ := g1
  have f1 := impl_FormatKind_ev a b x (by omega) (by omega) (by omega) (by omega)
  have f2 := spec_FormatKind_ev a b x (by omega) (by omega) (by omega) (by omega)
  have v1 := impl_KindValid_ev a b x (by omega) (by omega) (by omega) (by omega)
  have v2 := spec_KindValid_ev a b x (by omega) (by omega) (by omega) (by omega)
  have s1 := ksame_S (ofL a) (ofL b) (x.map e76) (by rw [List.length_map]; omega)
  obtain ⟨t, ht, htl⟩ := DrawParseKind_ev m h2
  have p1 := impl_ParseKind_ev t (by omega)
  have p2 := spec_ParseKind_ev t (by omega)
  have second : Evp (fun k => ∃ (t498 t499 t500 : ByteArray) (t501 : List S29) (t504 : Bool), spec_DrawParseKind.f k m = some t498 ∧ impl_ParseKind.f k t498 = some (t499, t500, t501, t504) ∧ spec_ParseKind.f k t498 = some (t499, t500, t501, t504) ∧ impl_KindSame.f k t499 t500 t501 t499 t500 t501 = some true ∧
   (t504 = false ∨ t504 = true ∧ ∃ t515 : ByteArray, impl_FormatKind.f k t499 t500 t501 = some t515 ∧ impl_ParseKind.f k t515 = some (t499, t500, t501, true) ∧ impl_KindValid.f k t499 t500 t501 = some true)) := by
   cases e : pk t with
   | none =>
    rw [e] at p1 p2
    have s2 := ksame_S (ofL []) (ofL []) [] (by simp)
    obtain ⟨K, hK⟩ := evp_and (evp_of ht) (evp_and (evp_of p1) (evp_and (evp_of p2) (evp_of s2)))
    exact ⟨K, fun k hk => by
     obtain ⟨q1, q2, q3, q4⟩ := hK k hk
     exact ⟨_, _, _, _, _, q1, q2, q3, q4, Or.inl rfl⟩⟩
   | some y =>
    obtain ⟨c, d, ps⟩ := y
    have hv := pk_valid e
    obtain ⟨k1, k2, k3, k4, k5⟩ := kvalid_split hv
    have hps := kfl_all ps [] k4
    have n1 := isNm_len (isSmall_nm k1).1
    have n2 := isNm_len (isSmall_nm k2).1
    have zz := szp_of ps (fun y hy => by
     obtain ⟨w1, w2, w3⟩ := hps y hy
     have := isNm_len (isSmall_nm w1).1
     exact ⟨by omega, by omega⟩)
    rw [e] at p1 p2
    have s2 := ksame_S (ofL c) (ofL d) (ps.map e76) (by rw [List.length_map]; omega)
    have f3 := impl_FormatKind_ev c d ps (by omega) (by omega) (by omega) (by omega)
    have v3 := impl_KindValid_ev c d ps (by omega) (by omega) (by omega) (by omega)
    rw [if_pos hv] at f3
    rw [hv] at v3
    have p3 := impl_ParseKind_ev (ktext c d ps) (by omega)
    rw [pk_ktext hv] at p3
    obtain ⟨K, hK⟩ := evp_and (evp_of ht) (evp_and (evp_of p1) (evp_and (evp_of p2) (evp_and (evp_of s2) (evp_and (evp_of f3) (evp_and (evp_of p3) (evp_of v3))))))
    exact ⟨K, fun k hk => by
     obtain ⟨q1, q2, q3, q4, q5, q6, q7⟩ := hK k hk
     exact ⟨_, _, _, _, _, q1, q2, q3, q4, Or.inr ⟨rfl, _, q5, q6, q7⟩⟩⟩
  have base := evp_and (evp_of hd) (evp_and (evp_of f1) (evp_and (evp_of f2) (evp_and (evp_of v1) (evp_and (evp_of v2) second))))
  cases hv : kvalid a b x with
  | false =>
   rw [hv] at base
   obtain ⟨k, q1, q2, q3, q4, q5, q6⟩ := evp_some base
   exact ⟨k, Or.inr ⟨⟨hc1, hc2⟩, _, _, _, _, _, q1, q2, q3, q4, q5, by simp [toList_ofL], Or.inl (by simp [toList_ofL]), q6⟩⟩
  | true =>
   rw [hv] at base
   have hl := (kvalid_split hv).2.2.2.2
   have p3 := impl_ParseKind_ev (ktext a b x) (by omega)
   rw [pk_ktext hv] at p3
   have hne : (ofL (if true = true then ktext a b x else [])).toList ≠ [] := by
    rw [if_pos rfl, toList_ofL]
    unfold ktext
    simp
   obtain ⟨k, ⟨q1, q2, q3, q4, q5, q6⟩, q7, q8⟩ := evp_some (evp_and base (evp_and (evp_of p3) (evp_of s1)))
   exact ⟨k, Or.inr ⟨⟨hc1, hc2⟩, _, _, _, _, _, q1, q2, q3, q4, q5, by simpa using hne, Or.inr ⟨hne, _, _, _, q7, q8⟩, q6⟩⟩

end Go.Proofs.YtengipddcaookaaDoor.Pure
