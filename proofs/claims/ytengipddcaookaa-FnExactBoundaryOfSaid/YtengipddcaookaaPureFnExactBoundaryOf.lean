/- Proved here: the pure form of the law FnExactBoundaryOf (the program's BoundaryOf is the reference's) returns true for all arguments; conditions: none beyond those that the printed statement bears. -/
import Derived.Test.YtengipddcaookaaPFnExactBoundaryOfx8
import Derived.Test.YtengipddcaookaaVFnExactBoundaryOfZbt
namespace Go.Proofs.Ytengipddcaookaa.Pure
open Go.RowKit Go.Proofs.Ytengipddcaookaa.X Go.Proofs.Ytengipddcaookaa.PFnExactBoundaryOf Go.Proofs.YtengipddcaookaaW.PrintWords Go.Proofs.YtengipddcaookaaW.PrintLast Go.Proofs.Ytengipddcaookaa.Z
set_option linter.unusedVariables false
set_option linter.unusedSimpArgs false

theorem run_unit {α R : Type} (fin : Unit → R) (r : List α) : run (fun (_ : Unit) (_ : α) => (.inr () : R ⊕ Unit)) fin r () = fin () := by
  induction r with
  | nil => rfl
  | cons c r ih => unfold run; exact ih

/-! Kinds that came in: pairs of texts. -/
def e91 (p : Str × Str) : S91 := ⟨ofL p.1, ofL p.2⟩
def e76 (p : Str × Str) : S76 := ⟨ofL p.1, ofL p.2⟩
def szp : List (Str × Str) → Nat
  | [] => 0
  | c :: r => c.1.length + c.2.length + szp r
theorem szp_mem {a : List (Str × Str)} {c : Str × Str} (h : c ∈ a) : c.1.length + c.2.length ≤ szp a := by
  induction a with
  | nil => cases h
  | cons d a ih =>
    simp only [szp]
    rcases List.mem_cons.mp h with rfl | h
    · omega
    · have := ih h; omega
theorem rd91_mid {ls p r : List (Str × Str)} {c : Str × Str} (h : ls = p ++ c :: r) : rd_T91 (ls.map e91) (p.length : Int) = e91 c := by
  unfold rd_T91
  rw [List.getD_eq_getElem?_getD, h]
  simp
theorem rd76_mid {ls p r : List (Str × Str)} {c : Str × Str} (h : ls = p ++ c :: r) : rd_T76 (ls.map e76) (p.length : Int) = e76 c := by
  unfold rd_T76
  rw [List.getD_eq_getElem?_getD, h]
  simp
def p91 (x : S91) : Str × Str := (L x.f0, L x.f1)
theorem map_e91 (l : List S91) : (l.map p91).map e91 = l := by
  rw [List.map_map]
  exact (List.map_congr_left (fun x _ => rfl)).trans (List.map_id l)
theorem szField_ev (a b : Str) (ha : a.length ≤ 9223372036854775807) (hb : b.length ≤ 9223372036854775807) (left : Nat) (hle : left ≤ 1048576) : ∃ v : Int, laws_szField.f (ofL a) (ofL b) (left : Int) = some v ∧ v ≤ left ∧ (0 ≤ v → v = (left : Int) - a.length - b.length) := by
  unfold laws_szField.f
  have w1 : wrap64 ((left : Int) - (a.length : Int)) = (left : Int) - (a.length : Int) := wrap_id (by omega) (by omega)
  rw [size_ofL, size_ofL, w1]
  by_cases h : (left : Int) - (a.length : Int) < 0
  · exact ⟨-1, by rw [if_pos h], by omega, fun h => by omega⟩
  · have w2 : wrap64 ((left : Int) - (a.length : Int) - (b.length : Int)) = (left : Int) - (a.length : Int) - (b.length : Int) := wrap_id (by omega) (by omega)
    rw [if_neg h, w2]
    by_cases h2 : (left : Int) - (a.length : Int) - (b.length : Int) < 0
    · exact ⟨-1, by rw [if_pos h2], by omega, fun h => by omega⟩
    · exact ⟨_, by rw [if_neg h2], by omega, fun _ => rfl⟩
def sane (ls : List (Str × Str)) : Prop := ∀ x ∈ ls, x.1.length ≤ 9223372036854775807 ∧ x.2.length ≤ 9223372036854775807
theorem szFieldS_loop (ls : List (Str × Str)) (hl : sane ls) (hn : ls.length ≤ 9223372036854775807) (r : List (Str × Str)) : ∀ (p : List (Str × Str)) (left : Nat), ls = p ++ r → left ≤ 1048576 → ∃ v : Int, Ev (fun k => laws_szFieldS.l0 k (ls.map e91) (left : Int) (p.length : Int)) v ∧ v ≤ left ∧ (0 ≤ v → v = (left : Int) - szp r) := by
  induction r with
  | nil =>
    intro p left h hle
    have hz : ls.length = p.length := by rw [h, List.append_nil]
    refine ⟨left, ev_succ ?_, Int.le_refl _, fun _ => by simp [szp]⟩
    simp only [laws_szFieldS.l0, List.length_map]
    exact ev_neg (by omega) (ev_some _)
  | cons c r ih =>
    intro p left h hle
    have hz := len_mid h
    have e1 := rd91_mid h
    have hc := hl c (by rw [h]; simp)
    have w1 : wrap64 ((p.length : Int) + 1) = (p.length : Int) + 1 := wrap_id (by omega) (by omega)
    obtain ⟨v, hv, hv1, hv2⟩ := szField_ev c.1 c.2 hc.1 hc.2 left hle
    by_cases hlt : v < 0
    · refine ⟨-1, ev_succ ?_, by omega, fun h => by omega⟩
      simp only [laws_szFieldS.l0, List.length_map, e1, w1]
      clear w1
      exact ev_pos (by omega) (ev_pos (by omega) (ev_bind0 hv (ev_pos hlt (ev_some _))))
    · have hvv := hv2 (by omega)
      obtain ⟨u, hu, hu1, hu2⟩ := ih (p ++ [c]) (left - c.1.length - c.2.length) (by rw [h]; simp) (by omega)
      rw [len_snoc] at hu
      refine ⟨u, ev_succ ?_, by omega, fun h0 => by have := hu2 h0; simp only [szp]; omega⟩
      have e2 : v = ((left - c.1.length - c.2.length : Nat) : Int) := by omega
      simp only [laws_szFieldS.l0, List.length_map, e1, w1]
      clear w1
      rw [← e2] at hu
      exact ev_pos (by omega) (ev_pos (by omega) (ev_bind0 hv (ev_neg hlt hu)))
theorem szFieldS_ev (ls : List (Str × Str)) (hl : sane ls) (hn : ls.length ≤ 9223372036854775807) (left : Nat) (hle : left ≤ 1048576) : ∃ v : Int, Ev (fun k => laws_szFieldS.f k (ls.map e91) (left : Int)) v ∧ v ≤ left ∧ (0 ≤ v → v = (left : Int) - ls.length - szp ls) := by
  unfold laws_szFieldS.f
  have w1 : wrap64 ((left : Int) - (ls.length : Int)) = (left : Int) - (ls.length : Int) := wrap_id (by omega) (by omega)
  rw [List.length_map, w1]
  clear w1
  by_cases h : (left : Int) - (ls.length : Int) < 0
  · exact ⟨-1, ev_pos h (ev_some _), by omega, fun h => by omega⟩
  · have e2 : (left : Int) - (ls.length : Int) = ((left - ls.length : Nat) : Int) := by omega
    obtain ⟨v, hv, hv1, hv2⟩ := szFieldS_loop ls hl hn ls [] (left - ls.length) rfl (by omega)
    rw [e2]
    exact ⟨v, ev_neg (by omega) hv, by omega, fun h0 => by have := hv2 h0; omega⟩
theorem szKind_ev (a b : Str) (ha : a.length ≤ 9223372036854775807) (hb : b.length ≤ 9223372036854775807) (ls : List (Str × Str)) (hl : sane ls) (hn : ls.length ≤ 9223372036854775807) (left : Nat) (hle : left ≤ 1048576) : ∃ v : Int, Ev (fun k => laws_szKind.f k (ofL a) (ofL b) (ls.map e91) (left : Int)) v ∧ v ≤ left ∧ (0 ≤ v → v = (left : Int) - a.length - b.length - ls.length - szp ls) := by
  unfold laws_szKind.f
  have w1 : wrap64 ((left : Int) - (a.length : Int)) = (left : Int) - (a.length : Int) := wrap_id (by omega) (by omega)
  rw [size_ofL, size_ofL, w1]
  clear w1
  by_cases h : (left : Int) - (a.length : Int) < 0
  · exact ⟨-1, ev_pos h (ev_some _), by omega, fun h => by omega⟩
  · have w2 : wrap64 ((left : Int) - (a.length : Int) - (b.length : Int)) = (left : Int) - (a.length : Int) - (b.length : Int) := wrap_id (by omega) (by omega)
    rw [w2]
    clear w2
    by_cases h2 : (left : Int) - (a.length : Int) - (b.length : Int) < 0
    · exact ⟨-1, ev_neg h (ev_pos h2 (ev_some _)), by omega, fun h => by omega⟩
    · have e2 : (left : Int) - (a.length : Int) - (b.length : Int) = ((left - a.length - b.length : Nat) : Int) := by omega
      obtain ⟨v, hv, hv1, hv2⟩ := szFieldS_ev ls hl hn (left - a.length - b.length) (by omega)
      rw [e2]
      by_cases h3 : v < 0
      · exact ⟨-1, ev_neg h (ev_neg (by omega) (ev_bind hv (ev_pos h3 (ev_some _)))), by omega, fun h => by omega⟩
      · exact ⟨v, ev_neg h (ev_neg (by omega) (ev_bind hv (ev_neg h3 (ev_some _)))), by omega, fun h0 => by have := hv2 h0; omega⟩
theorem toFieldS_ev (ls : List (Str × Str)) (hn : ls.length ≤ 1000000000000) : Ev (fun k => laws_toFieldS.f k (ls.map e91)) (ls.map e76) := by
  have key : ∀ (r p : List (Str × Str)), ls = p ++ r → Ev (fun k => laws_toFieldS.l0 k (ls.map e91) (p.map e76 ++ List.replicate r.length z76) (p.length : Int)) (ls.map e76) := by
    intro r
    induction r with
    | nil =>
      intro p h
      have hz : ls.length = p.length := by rw [h, List.append_nil]
      refine ev_succ ?_
      simp only [laws_toFieldS.l0, List.length_map]
      refine ev_neg (by omega) (ev_eq (ev_some _) ?_)
      rw [h]; simp
    | cons c r ih =>
      intro p h
      have hz := len_mid h
      have e1 := rd91_mid h
      have w1 : wrap64 ((p.length : Int) + 1) = (p.length : Int) + 1 := wrap_id (by omega) (by omega)
      have := ih (p ++ [c]) (by rw [h]; simp)
      rw [len_snoc] at this
      have e2 : (p.map e76 ++ List.replicate (r.length + 1) z76).set p.length (⟨ofL c.1, ofL c.2⟩ : S76) = (p ++ [c]).map e76 ++ List.replicate r.length z76 := by
        rw [List.set_append_right _ _ (by simp), List.length_map, Nat.sub_self, List.replicate_succ, List.set_cons_zero, List.map_append, List.append_assoc]
        rfl
      rw [← e2] at this
      refine ev_succ ?_
      simp only [laws_toFieldS.l0, laws_toField.f, List.length_map, e1, w1, Int.toNat_natCast, List.length_cons, Option.bind_some]
      clear w1
      exact ev_pos (by omega) (ev_pos (by omega) (ev_pos (by simp; omega) this))
  unfold laws_toFieldS.f
  simp only [List.length_map, Int.toNat_natCast]
  exact ev_pos (by omega) (ev_pos (by omega) (key ls [] rfl))
theorem toKind_ev (a b : Str) (ls : List (Str × Str)) (hn : ls.length ≤ 1000000000000) : Ev (fun k => laws_toKind.f k (ofL a) (ofL b) (ls.map e91)) (ofL a, ofL b, ls.map e76) := by
  unfold laws_toKind.f
  exact ev_bind (toFieldS_ev ls hn) (ev_some _)
theorem eqFieldS_ev (ls : List (Str × Str)) (hn : ls.length ≤ 1000000000000) : Ev (fun k => laws_eqFieldS.f k (ls.map e76) (ls.map e76)) true := by
  unfold laws_eqFieldS.f
  refine ev_pos rfl (ev_eq (run_start (xs := ls) (F := fun k (_ : Unit) i => laws_eqFieldS.l0 k (ls.map e76) (ls.map e76) i) (st := fun _ _ => .inr ()) (fin := fun _ => true) (s := ()) (fun _ _ => True) trivial ?_ ?_) (run_unit _ _))
  · intro p c r s h _
    have hz := len_mid h
    have e1 := rd76_mid h
    have w1 : wrap64 ((p.length : Int) + 1) = (p.length : Int) + 1 := wrap_id (by omega) (by omega)
    simp only [laws_eqFieldS.l0, laws_eqField.f, e1, w1, List.length_map]
    clear w1 e1
    refine ⟨(fun v hv => by cases hv), fun s' hs => ⟨trivial, fun v hv => ?_⟩⟩
    exact ev_pos (by omega) (ev_pos (by omega) (ev_pos (by omega) (ev_bind0 (by simp) (ev_pos rfl hv))))
  · intro s _
    simp only [laws_eqFieldS.l0, List.length_map]
    exact ev_neg (by omega) (ev_some _)
theorem eqKind_ev (a b : Str) (ls : List (Str × Str)) (hn : ls.length ≤ 1000000000000) : Ev (fun k => laws_eqKind.f k (ofL a) (ofL b) (ls.map e76) (ofL a) (ofL b) (ls.map e76)) true := by
  unfold laws_eqKind.f
  exact ev_pos rfl (ev_pos rfl (ev_bind (eqFieldS_ev ls hn) (ev_pos rfl (ev_some _))))

/-! Letters and digits, boundaries: the model. -/
def letB (c : UInt8) : Bool := decide (97 ≤ (c.toNat : Int) ∧ (c.toNat : Int) ≤ 122) || decide (65 ≤ (c.toNat : Int) ∧ (c.toNat : Int) ≤ 90)
def digB (c : UInt8) : Bool := decide (48 ≤ (c.toNat : Int) ∧ (c.toNat : Int) ≤ 57)
def alnB (c : UInt8) : Bool := letB c || digB c
def isBd (l : Str) : Bool := decide (1 ≤ l.length) && decide (l.length ≤ 20) && l.all alnB
theorem isBd_len {l : Str} (h : isBd l = true) : l.length ≤ 20 := by
  unfold isBd at h; simp at h; exact h.1.2

theorem impl_isLetter_eq (c : UInt8) : impl_isLetter.f (c.toNat : Int) = some (letB c) := by
  unfold impl_isLetter.f letB
  by_cases h1 : 97 ≤ (c.toNat : Int) <;> by_cases h2 : (c.toNat : Int) ≤ 122 <;> by_cases h3 : 65 ≤ (c.toNat : Int) <;> by_cases h4 : (c.toNat : Int) ≤ 90 <;> simp [h1, h2, h3, h4]

theorem impl_isDigit_eq (c : UInt8) : impl_isDigit.f (c.toNat : Int) = some (digB c) := by
  unfold impl_isDigit.f digB
  by_cases h1 : 48 ≤ (c.toNat : Int) <;> by_cases h2 : (c.toNat : Int) ≤ 57 <;> simp [h1, h2]

theorem spec_l1Letter_eq (c : UInt8) : spec_l1Letter.f (c.toNat : Int) = some (alnB c) := by
  unfold spec_l1Letter.f alnB letB digB
  by_cases h1 : 97 ≤ (c.toNat : Int) <;> by_cases h2 : (c.toNat : Int) ≤ 122 <;> by_cases h3 : 65 ≤ (c.toNat : Int) <;> by_cases h4 : (c.toNat : Int) ≤ 90 <;> by_cases h5 : 48 ≤ (c.toNat : Int) <;> by_cases h6 : (c.toNat : Int) ≤ 57 <;> simp [h1, h2, h3, h4, h5, h6]

/-! Atoms: the model. -/
def atList : Str := [33, 35, 36, 37, 38, 39, 42, 43, 45, 47, 61, 63, 94, 95, 96, 123, 124, 125, 126]
def atB (c : UInt8) : Bool := alnB c || decide (c ∈ atList)
def atomV (l : Str) : Bool := decide (1 ≤ l.length) && decide (l.length ≤ 40) && l.all atB
theorem u8_all {p : UInt8 → Prop} (h : ∀ n : Nat, n < 256 → p (UInt8.ofNat n)) (c : UInt8) : p c := by
  have := h c.toNat c.toNat_lt
  rwa [UInt8.ofNat_toNat] at this
theorem impl_isAtomByte_eq (c : UInt8) : impl_isAtomByte.f (c.toNat : Int) = some (atB c) := by
  revert c
  exact u8_all (by decide +kernel)

theorem impl_allBytes_isAtomByte_ev (l : Str) (hl : l.length ≤ 1000000000000000) : Ev (fun k => impl_allBytes_isAtomByte.f k (ofL l)) (l.all atB) := by
  unfold impl_allBytes_isAtomByte.f
  rw [size_ofL]
  refine ev_eq (run_start (xs := l) (F := fun k (_ : Unit) i => impl_allBytes_isAtomByte.l0 k (ofL l) (l.length : Int) i) (st := fun _ c => if atB c = true then .inr () else .inl false) (fin := fun _ => true) (s := ()) (fun _ _ => True) trivial ?_ ?_) ?_
  · intro p c r s h _
    have hz := len_mid h
    have e1 := bt_ofL_mid h
    have w1 : wrap64 ((p.length : Int) + 1) = (p.length : Int) + 1 := wrap_id (by omega) (by omega)
    simp only [impl_allBytes_isAtomByte.l0, e1, w1, size_ofL]
    clear w1 e1
    cases e : atB c with
    | true =>
      simp only [if_true]
      refine ⟨(fun v hv => by cases hv), fun s' hs => ⟨trivial, fun v hv => ?_⟩⟩
      refine ev_pos (by omega) (ev_pos (by omega) (ev_pos (by omega) (ev_bind0 (impl_isAtomByte_eq c) (ev_pos e hv))))
    | false =>
      refine ⟨(fun v hv => ?_), fun s' hs => by simp at hs⟩
      simp only [Bool.false_eq_true, if_false, Sum.inl.injEq] at hv
      subst hv
      refine ev_pos (by omega) (ev_pos (by omega) (ev_pos (by omega) (ev_bind0 (impl_isAtomByte_eq c) (ev_neg (by rw [e]; simp) (ev_some _)))))
  · intro s _
    simp only [impl_allBytes_isAtomByte.l0]
    exact ev_neg (by omega) (ev_some _)
  · clear hl
    induction l with
    | nil => rfl
    | cons c r ih =>
      unfold run
      cases e : atB c with
      | true => simp [e, ih]
      | false => simp [e]

theorem impl_AtomValid_ev (l : Str) (hl : l.length ≤ 1000000000000000) : Ev (fun k => impl_AtomValid.f k (ofL l)) (atomV l) := by
  unfold impl_AtomValid.f atomV
  rw [size_ofL]
  by_cases h1 : 1 ≤ l.length
  · rw [decide_eq_true h1]
    refine ev_pos (by omega) ?_
    by_cases h2 : l.length ≤ 40
    · rw [decide_eq_true h2]
      exact ev_pos (by omega) (ev_bind (impl_allBytes_isAtomByte_ev l hl) (ev_some _))
    · rw [decide_eq_false h2]
      exact ev_neg (by omega) (ev_some _)
  · rw [decide_eq_false h1]
    exact ev_neg (by omega) (ev_some _)

theorem spec_l1Atom_ev (c : UInt8) : Ev (fun k => spec_l1Atom.f k (c.toNat : Int)) (atB c) := by
  unfold spec_l1Atom.f
  have lit : (⟨#[33, 35, 36, 37, 38, 39, 42, 43, 45, 47, 61, 63, 94, 95, 96, 123, 124, 125, 126]⟩ : ByteArray) = ofL atList := rfl
  have hlen : atList.length = 19 := rfl
  refine ev_eq (run_start (xs := atList) (F := fun k (_ : Unit) i => spec_l1Atom.l0 k (c.toNat : Int) i) (st := fun _ d => if c = d then .inl true else .inr ()) (fin := fun _ => alnB c) (s := ()) (fun _ _ => True) trivial ?_ ?_) ?_
  · intro p d r s h _
    have hz := len_mid h
    have e1 := bt_ofL_mid h
    have w1 : wrap64 ((p.length : Int) + 1) = (p.length : Int) + 1 := wrap_id (by omega) (by omega)
    simp only [spec_l1Atom.l0, lit, e1, w1]
    clear w1 e1
    by_cases e : c = d
    · simp only [if_pos e]
      refine ⟨(fun v hv => ?_), fun s' hs => by cases hs⟩
      cases hv
      exact ev_pos (by omega) (ev_pos (by omega) (ev_pos (by rw [e]) (ev_some _)))
    · simp only [if_neg e]
      refine ⟨(fun v hv => by cases hv), fun s' hs => ⟨trivial, fun v hv => ?_⟩⟩
      exact ev_pos (by omega) (ev_pos (by omega) (ev_neg (fun hh => e (UInt8.toNat_inj.mp (by omega))) hv))
  · intro s _
    simp only [spec_l1Atom.l0]
    exact ev_neg (by omega) (ev_bind0 (spec_l1Letter_eq c) (ev_some _))
  · have key : ∀ r : Str, run (fun (_ : Unit) d => if c = d then .inl true else .inr ()) (fun _ => alnB c) r () = (alnB c || decide (c ∈ r)) := by
      intro r
      induction r with
      | nil => simp [run]
      | cons d r ih =>
        unfold run
        by_cases e : c = d
        · simp [e]
        · simp [e, ih]
    exact key atList
theorem spec_AtomValid_ev (l : Str) (hl : l.length ≤ 1000000000000000) : Ev (fun k => spec_AtomValid.f k (ofL l)) (atomV l) := by
  unfold spec_AtomValid.f
  have hj' : ∀ i : Int, Ev (fun k => spec_AtomValid.j1 k (ofL l) i false) (decide (1 ≤ l.length) && decide (l.length ≤ 40)) := by
    intro i
    refine ev_succ ?_
    simp only [spec_AtomValid.j1, size_ofL]
    by_cases h1 : 1 ≤ l.length
    · rw [decide_eq_true h1]
      refine ev_neg (by simp) (ev_pos (by omega) (ev_eq (ev_some _) ?_))
      rw [Bool.true_and]
      by_cases h2 : l.length ≤ 40
      · rw [decide_eq_true h2]; exact decide_eq_true (by omega)
      · rw [decide_eq_false h2]; exact decide_eq_false (by omega)
    · rw [decide_eq_false h1]
      exact ev_neg (by simp) (ev_neg (by omega) (ev_some _))
  refine ev_eq (run_start (xs := l) (F := fun k (_ : Nat) i => spec_AtomValid.l0 k (ofL l) i) (st := fun n c => if n ≤ 40 then (if atB c = true then .inr (n + 1) else .inl false) else .inl (decide (1 ≤ l.length) && decide (l.length ≤ 40))) (fin := fun _ => decide (1 ≤ l.length) && decide (l.length ≤ 40)) (s := 0) (fun p n => n = p.length) rfl ?_ ?_) ?_
  · intro p c r n h hn
    subst hn
    have hz := len_mid h
    have e1 := bt_ofL_mid h
    have w1 : wrap64 ((p.length : Int) + 1) = (p.length : Int) + 1 := wrap_id (by omega) (by omega)
    by_cases h20 : p.length ≤ 40
    · simp only [if_pos h20]
      have hd : decide ((p.length : Int) ≤ 40) = true := decide_eq_true (by omega)
      simp only [spec_AtomValid.l0, hd, size_ofL]
      cases e : atB c with
      | true =>
        simp only [if_true]
        refine ⟨(fun v hv => by cases hv), fun s' hs => ⟨?_, fun v hv => ?_⟩⟩
        · cases hs; simp
        · refine ev_pos (by omega) (ev_succ ?_)
          simp only [spec_AtomValid.j1, e1, w1, size_ofL]
          clear w1 e1
          exact ev_pos trivial (ev_pos (by omega) (ev_pos (by omega) (ev_bind (spec_l1Atom_ev c) (ev_pos e hv))))
      | false =>
        refine ⟨(fun v hv => ?_), fun s' hs => by simp at hs⟩
        simp only [Bool.false_eq_true, if_false, Sum.inl.injEq] at hv
        subst hv
        refine ev_pos (by omega) (ev_succ ?_)
        simp only [spec_AtomValid.j1, e1, w1, size_ofL]
        clear w1 e1
        exact ev_pos trivial (ev_pos (by omega) (ev_pos (by omega) (ev_bind (spec_l1Atom_ev c) (ev_neg (by rw [e]; simp) (ev_some _)))))
    · simp only [if_neg h20]
      have hd : decide ((p.length : Int) ≤ 40) = false := decide_eq_false (by omega)
      refine ⟨(fun v hv => ?_), fun s' hs => by cases hs⟩
      cases hv
      simp only [spec_AtomValid.l0, hd, size_ofL]
      clear w1 e1
      exact ev_pos (by omega) (hj' _)
  · intro s hs
    subst hs
    simp only [spec_AtomValid.l0, size_ofL]
    exact ev_neg (by omega) (hj' _)
  · unfold atomV
    have key : ∀ (r : Str) (n : Nat), n + r.length = l.length → run (fun n c => if n ≤ 40 then (if atB c = true then .inr (n + 1) else .inl false) else .inl (decide (1 ≤ l.length) && decide (l.length ≤ 40))) (fun _ => decide (1 ≤ l.length) && decide (l.length ≤ 40)) r n = (decide (1 ≤ l.length) && decide (l.length ≤ 40) && r.all atB) := by
      intro r
      induction r with
      | nil => intro n _; simp [run]
      | cons c r ih =>
        intro n hn
        simp only [List.length_cons] at hn
        unfold run
        by_cases h20 : n ≤ 40
        · simp only [if_pos h20]
          cases e : atB c with
          | true => simp [e, ih (n + 1) (by omega)]
          | false => simp [e]
        · simp only [if_neg h20]
          have : decide (l.length ≤ 40) = false := decide_eq_false (by omega)
          simp [this]
    exact key l 0 (by omega)

/-! Names, small letters: the model. -/
def nmB (c : UInt8) : Bool := alnB c || decide (c = 45)
def isNm (l : Str) : Bool := decide (l.length ≤ 30) && (match l with
  | [] => false
  | c :: _ => letB c) && l.all nmB
def lowB (c : UInt8) : UInt8 := if 65 ≤ c ∧ c ≤ 90 then c + 32 else c
def low (l : Str) : Str := l.map lowB
def isSmall (l : Str) : Bool := isNm l && decide (low l = l)
theorem isNm_len {l : Str} (h : isNm l = true) : l.length ≤ 30 := by
  unfold isNm at h; simp at h; exact h.1.1
theorem beq_dec (a b : Str) : (a == b) = decide (a = b) := by
  rw [Bool.eq_iff_iff]; simp
theorem lowB_num (c : UInt8) : lowI (c.toNat : Int) = ((lowB c).toNat : Int) := by
  revert c
  exact u8_all (by decide +kernel)
theorem zn_low (l : Str) : (zn l).map lowI = zn (low l) := by
  unfold zn low
  rw [List.map_map, List.map_map]
  exact List.map_congr_left (fun c _ => lowB_num c)
theorem low_idem (l : Str) : low (low l) = low l := by
  have h : ∀ c : UInt8, lowB (lowB c) = lowB c := u8_all (by decide +kernel)
  unfold low
  rw [List.map_map]
  exact List.map_congr_left (fun c _ => h c)
theorem low_len (l : Str) : (low l).length = l.length := by unfold low; simp
theorem impl_LowerText_eq (l : Str) (hl : l.length ≤ 140737488355328) : impl_LowerText.f (ofL l) = some (ofL (low l)) := by
  unfold impl_LowerText.f
  rw [size_ofL, if_pos hl, bytesOf_ofL, zn_low, strOfNums_zn]
theorem spec_LowerText_eq (l : Str) (hl : l.length ≤ 140737488355328) : spec_LowerText.f (ofL l) = some (ofL (low l)) := by
  unfold spec_LowerText.f
  rw [size_ofL, if_pos hl, bytesOf_ofL, zn_low, strOfNums_zn]
theorem impl_SameText_eq (a b : Str) (ha : a.length ≤ 140737488355328) (hb : b.length ≤ 140737488355328) : impl_SameText.f (ofL a) (ofL b) = some (decide (low a = low b)) := by
  unfold impl_SameText.f
  rw [impl_LowerText_eq a ha, impl_LowerText_eq b hb]
  simp only [Option.bind_some, toList_ofL, beq_dec]
theorem spec_SameText_eq (a b : Str) (ha : a.length ≤ 140737488355328) (hb : b.length ≤ 140737488355328) : spec_SameText.f (ofL a) (ofL b) = some (decide (low a = low b)) := by
  unfold spec_SameText.f
  rw [spec_LowerText_eq a ha, spec_LowerText_eq b hb]
  simp only [Option.bind_some, toList_ofL, beq_dec]
theorem impl_isName_1_eq (c : UInt8) : impl_isName_1.f (c.toNat : Int) = some (nmB c) := by
  unfold impl_isName_1.f nmB alnB
  rw [impl_isLetter_eq, impl_isDigit_eq]
  have := u8_eq c 45 (by omega)
  by_cases e : c = 45
  · have h2 := this.mpr e
    cases letB c <;> cases digB c <;> simp [e, h2]
  · have h2 : ¬ (c.toNat : Int) = 45 := fun hh => e (this.mp hh)
    cases letB c <;> cases digB c <;> simp [e, h2]

theorem impl_allBytes_isName_1_ev (l : Str) (hl : l.length ≤ 1000000000000000) : Ev (fun k => impl_allBytes_isName_1.f k (ofL l)) (l.all nmB) := by
  unfold impl_allBytes_isName_1.f
  rw [size_ofL]
  refine ev_eq (run_start (xs := l) (F := fun k (_ : Unit) i => impl_allBytes_isName_1.l0 k (ofL l) (l.length : Int) i) (st := fun _ c => if nmB c = true then .inr () else .inl false) (fin := fun _ => true) (s := ()) (fun _ _ => True) trivial ?_ ?_) ?_
  · intro p c r s h _
    have hz := len_mid h
    have e1 := bt_ofL_mid h
    have w1 : wrap64 ((p.length : Int) + 1) = (p.length : Int) + 1 := wrap_id (by omega) (by omega)
    simp only [impl_allBytes_isName_1.l0, e1, w1, size_ofL]
    clear w1 e1
    cases e : nmB c with
    | true =>
      simp only [if_true]
      refine ⟨(fun v hv => by cases hv), fun s' hs => ⟨trivial, fun v hv => ?_⟩⟩
      refine ev_pos (by omega) (ev_pos (by omega) (ev_pos (by omega) (ev_bind0 (impl_isName_1_eq c) (ev_pos e hv))))
    | false =>
      refine ⟨(fun v hv => ?_), fun s' hs => by simp at hs⟩
      simp only [Bool.false_eq_true, if_false, Sum.inl.injEq] at hv
      subst hv
      refine ev_pos (by omega) (ev_pos (by omega) (ev_pos (by omega) (ev_bind0 (impl_isName_1_eq c) (ev_neg (by rw [e]; simp) (ev_some _)))))
  · intro s _
    simp only [impl_allBytes_isName_1.l0]
    exact ev_neg (by omega) (ev_some _)
  · clear hl
    induction l with
    | nil => rfl
    | cons c r ih =>
      unfold run
      cases e : nmB c with
      | true => simp [e, ih]
      | false => simp [e]

theorem impl_isName_ev (l : Str) (hl : l.length ≤ 1000000000000000) : Ev (fun k => impl_isName.f k (ofL l)) (isNm l) := by
  unfold impl_isName.f isNm
  rw [size_ofL]
  cases l with
  | nil => exact ev_neg (by simp) (ev_some _)
  | cons c r =>
    simp only [bt_zero]
    refine ev_pos (by simp only [List.length_cons]; omega) ?_
    by_cases h2 : (c :: r).length ≤ 30
    · rw [decide_eq_true h2]
      refine ev_pos (by omega) (ev_pos (by simp) (ev_bind0 (impl_isLetter_eq c) ?_))
      cases e : letB c with
      | true => exact ev_pos rfl (ev_bind (impl_allBytes_isName_1_ev (c :: r) hl) (ev_some _))
      | false => exact ev_neg (by simp) (ev_some _)
    · rw [decide_eq_false h2]
      exact ev_neg (by omega) (ev_some _)
theorem impl_isSmallName_ev (l : Str) (hl : l.length ≤ 140737488355328) : Ev (fun k => impl_isSmallName.f k (ofL l)) (isSmall l) := by
  unfold impl_isSmallName.f isSmall
  refine ev_bind (impl_isName_ev l (by omega)) ?_
  cases e : isNm l with
  | true =>
    refine ev_pos rfl (ev_bind0 (impl_LowerText_eq l hl) (ev_eq (ev_some _) ?_))
    simp only [toList_ofL, beq_dec, Bool.true_and]
  | false => exact ev_neg (by simp) (ev_some _)

theorem spec_l3Name_ev (l : Str) (hl : l.length ≤ 1000000000000000) : Ev (fun k => spec_l3Name.f k (ofL l)) (isNm l) := by
  unfold spec_l3Name.f
  have hj' : ∀ i : Int, Ev (fun k => spec_l3Name.j1 k (ofL l) i false) (decide (1 ≤ l.length) && decide (l.length ≤ 30)) := by
    intro i
    refine ev_succ ?_
    simp only [spec_l3Name.j1, size_ofL]
    by_cases h1 : 1 ≤ l.length
    · rw [decide_eq_true h1]
      refine ev_neg (by simp) (ev_pos (by omega) (ev_eq (ev_some _) ?_))
      rw [Bool.true_and]
      by_cases h2 : l.length ≤ 30
      · rw [decide_eq_true h2]; exact decide_eq_true (by omega)
      · rw [decide_eq_false h2]; exact decide_eq_false (by omega)
    · rw [decide_eq_false h1]
      exact ev_neg (by simp) (ev_neg (by omega) (ev_some _))
  refine ev_eq (run_start (xs := l) (F := fun k (_ : Nat) i => spec_l3Name.l0 k (ofL l) i) (st := fun n c => if n ≤ 30 then (if nmB c = true then (if n = 0 then (if letB c = true then .inr (n + 1) else .inl false) else .inr (n + 1)) else .inl false) else .inl (decide (1 ≤ l.length) && decide (l.length ≤ 30))) (fin := fun _ => decide (1 ≤ l.length) && decide (l.length ≤ 30)) (s := 0) (fun p n => n = p.length) rfl ?_ ?_) ?_
  · intro p c r n h hn
    subst hn
    have hz := len_mid h
    have e1 := bt_ofL_mid h
    have w1 : wrap64 ((p.length : Int) + 1) = (p.length : Int) + 1 := wrap_id (by omega) (by omega)
    by_cases h20 : p.length ≤ 30
    · simp only [if_pos h20]
      have hd : decide ((p.length : Int) ≤ 30) = true := decide_eq_true (by omega)
      simp only [spec_l3Name.l0, hd, size_ofL]
      have h45 := u8_eq c 45 (by omega)
      have hlet : nmB c = true → (letB c = true ↔ ¬ (c.toNat : Int) ≤ 57) := u8_all (p := fun c => nmB c = true → (letB c = true ↔ ¬ (c.toNat : Int) ≤ 57)) (by decide +kernel) c
      cases e : nmB c with
      | true =>
        have hlt := hlet e
        have go : ∀ v, Ev (fun k => if (p.length : Int) = 0 then (if (c.toNat : Int) ≤ 57 then some false else spec_l3Name.l0 k (ofL l) ((p.length : Int) + 1)) else spec_l3Name.l0 k (ofL l) ((p.length : Int) + 1)) v → Ev (fun k => if (p.length : Int) < (l.length : Int) then spec_l3Name.j1 (k + 0) (ofL l) (p.length : Int) true else spec_l3Name.j1 (k + 0) (ofL l) (p.length : Int) false) v := by
          intro v hv
          refine ev_pos (by omega) (ev_succ ?_)
          simp only [spec_l3Name.j1, e1, w1, size_ofL]
          clear w1 e1
          refine ev_pos trivial (ev_pos (by omega) (ev_pos (by omega) (ev_bind0 (spec_l1Letter_eq c) ?_)))
          cases ea : alnB c with
          | true => exact ev_pos rfl hv
          | false =>
            have : c = 45 := by
              unfold nmB at e
              rw [ea, Bool.false_or] at e
              exact of_decide_eq_true e
            exact ev_neg (by simp) (ev_pos (h45.mpr this) hv)
        simp only [if_true]
        by_cases h0 : p.length = 0
        · simp only [if_pos h0]
          by_cases hL : letB c = true
          · simp only [if_pos hL]
            refine ⟨(fun v hv => by cases hv), fun s' hs => ⟨?_, fun v hv => ?_⟩⟩
            · cases hs; simp
            · exact go v (ev_pos (by omega) (ev_neg (hlt.mp hL) hv))
          · simp only [if_neg hL]
            refine ⟨(fun v hv => ?_), fun s' hs => by cases hs⟩
            cases hv
            exact go false (ev_pos (by omega) (ev_pos (Decidable.not_not.mp (fun hh => hL (hlt.mpr hh))) (ev_some _)))
        · simp only [if_neg h0]
          refine ⟨(fun v hv => by cases hv), fun s' hs => ⟨?_, fun v hv => ?_⟩⟩
          · cases hs; simp
          · exact go v (ev_neg (by omega) hv)
      | false =>
        refine ⟨(fun v hv => ?_), fun s' hs => by simp at hs⟩
        simp only [Bool.false_eq_true, if_false, Sum.inl.injEq] at hv
        subst hv
        refine ev_pos (by omega) (ev_succ ?_)
        simp only [spec_l3Name.j1, e1, w1, size_ofL]
        clear w1 e1
        unfold nmB at e
        rw [Bool.or_eq_false_iff] at e
        exact ev_pos trivial (ev_pos (by omega) (ev_pos (by omega) (ev_bind0 (spec_l1Letter_eq c) (ev_neg (by rw [e.1]; simp) (ev_neg (fun hh => (of_decide_eq_false e.2) (h45.mp hh)) (ev_some _))))))
    · simp only [if_neg h20]
      have hd : decide ((p.length : Int) ≤ 30) = false := decide_eq_false (by omega)
      refine ⟨(fun v hv => ?_), fun s' hs => by cases hs⟩
      cases hv
      simp only [spec_l3Name.l0, hd, size_ofL]
      clear w1 e1
      exact ev_pos (by omega) (hj' _)
  · intro s hs
    subst hs
    simp only [spec_l3Name.l0, size_ofL]
    exact ev_neg (by omega) (hj' _)
  · have key : ∀ (r : Str) (n : Nat), 1 ≤ n → n + r.length = l.length → run (fun n c => if n ≤ 30 then (if nmB c = true then (if n = 0 then (if letB c = true then .inr (n + 1) else .inl false) else .inr (n + 1)) else .inl false) else .inl (decide (1 ≤ l.length) && decide (l.length ≤ 30))) (fun _ => decide (1 ≤ l.length) && decide (l.length ≤ 30)) r n = (decide (l.length ≤ 30) && r.all nmB) := by
      intro r
      induction r with
      | nil => intro n h1 h2; have : decide (1 ≤ l.length) = true := decide_eq_true (by simp at h2; omega); simp only [run, this]; simp
      | cons c r ih =>
        intro n h1 hn
        simp only [List.length_cons] at hn
        unfold run
        have h1l : decide (1 ≤ l.length) = true := decide_eq_true (by omega)
        by_cases h20 : n ≤ 30
        · simp only [if_pos h20, if_neg (show ¬ n = 0 by omega)]
          cases e : nmB c with
          | true => simp [e, ih (n + 1) (by omega) (by omega)]
          | false => simp [e]
        · simp only [if_neg h20]
          have : decide (l.length ≤ 30) = false := decide_eq_false (by omega)
          simp [this]
    cases l with
    | nil => simp [run, isNm]
    | cons c r =>
      unfold run isNm
      have hc := key r 1 (by omega) (by simp; omega)
      simp only [if_pos (show (0 : Nat) ≤ 30 by omega), if_true]
      cases e : nmB c with
      | true =>
        cases e2 : letB c with
        | true => simp only [if_true]; rw [hc]; simp [e]
        | false => simp
      | false => simp [e]
theorem spec_l7Word_ev (l : Str) (hl : l.length ≤ 140737488355328) : Ev (fun k => spec_l7Word.f k (ofL l)) (isSmall l) := by
  unfold spec_l7Word.f isSmall
  refine ev_bind (spec_l3Name_ev l (by omega)) ?_
  cases e : isNm l with
  | true =>
    refine ev_pos rfl (ev_bind0 (spec_LowerText_eq l hl) (ev_eq (ev_some _) ?_))
    simp only [toList_ofL, beq_dec, Bool.true_and]
  | false => exact ev_neg (by simp) (ev_some _)

/-! The place of a name. -/
def fidx (n : Str) : List (Str × Str) → Nat → Int
  | [], _ => -1
  | c :: r, i => if low c.1 = low n then (i : Int) else fidx n r (i + 1)
def small (ls : List (Str × Str)) : Prop := ∀ x ∈ ls, x.1.length ≤ 1048576 ∧ x.2.length ≤ 1048576
theorem small_of {ls : List (Str × Str)} (h : szp ls ≤ 1048576) : small ls := fun x hx => by
  have := szp_mem hx
  exact ⟨by omega, by omega⟩
theorem fidx_range (n : Str) (r : List (Str × Str)) : ∀ i : Nat, fidx n r i = -1 ∨ ((i : Int) ≤ fidx n r i ∧ fidx n r i < i + r.length) := by
  induction r with
  | nil => intro i; exact Or.inl rfl
  | cons c r ih =>
    intro i
    unfold fidx
    split
    · right; simp only [List.length_cons]; omega
    · rcases ih (i + 1) with h | ⟨h1, h2⟩
      · exact Or.inl h
      · right; simp only [List.length_cons]; omega
theorem fidx_run (n : Str) (r : List (Str × Str)) : ∀ i : Nat, run (fun (i : Nat) (c : Str × Str) => if low c.1 = low n then .inl (i : Int) else .inr (i + 1)) (fun _ => (-1 : Int)) r i = fidx n r i := by
  induction r with
  | nil => intro i; rfl
  | cons c r ih =>
    intro i
    unfold run fidx
    by_cases e : low c.1 = low n
    · simp only [if_pos e]
    · simp only [if_neg e, ih]
theorem spec_l3Find_ev (ls : List (Str × Str)) (n : Str) (hs : small ls) (hn : n.length ≤ 1048576) (hl : ls.length ≤ 1048576) : Ev (fun k => spec_l3Find.f k (ls.map e76) (ofL n)) (fidx n ls 0) := by
  unfold spec_l3Find.f
  refine ev_eq (run_start (xs := ls) (F := fun k (_ : Nat) i => spec_l3Find.l0 k (ls.map e76) (ofL n) i) (st := fun i c => if low c.1 = low n then .inl (i : Int) else .inr (i + 1)) (fin := fun _ => (-1 : Int)) (s := 0) (fun p i => i = p.length) rfl ?_ ?_) (fidx_run n ls 0)
  · intro p c r i h hi
    subst hi
    have hz := len_mid h
    have e1 := rd76_mid h
    have hc := hs c (by rw [h]; simp)
    have w1 : wrap64 ((p.length : Int) + 1) = (p.length : Int) + 1 := wrap_id (by omega) (by omega)
    have hq := spec_SameText_eq c.1 n (by omega) (by omega)
    simp only [spec_l3Find.l0, e1, w1, List.length_map, e76, hq]
    clear w1 e1
    by_cases e : low c.1 = low n
    · simp only [if_pos e]
      refine ⟨(fun v hv => ?_), fun s' hs => by cases hs⟩
      cases hv
      exact ev_pos (by omega) (ev_pos (by omega) (ev_bind0 rfl (ev_pos (decide_eq_true e) (ev_some _))))
    · simp only [if_neg e]
      refine ⟨(fun v hv => by cases hv), fun s' hs => ⟨?_, fun v hv => ?_⟩⟩
      · cases hs; simp
      · exact ev_pos (by omega) (ev_pos (by omega) (ev_bind0 rfl (ev_neg (by simp [e]) hv)))
  · intro s _
    simp only [spec_l3Find.l0, List.length_map]
    exact ev_neg (by omega) (ev_some _)
theorem impl_fieldPlace_ev (ls : List (Str × Str)) (n : Str) (hs : small ls) (hn : n.length ≤ 1048576) (hl : ls.length ≤ 1048576) : Ev (fun k => impl_fieldPlace.f k (ls.map e76) (ofL n)) (fidx n ls 0) := by
  unfold impl_fieldPlace.f impl_Field_fieldPlace_1.f
  refine ev_bind ?_ (ev_some _)
  rw [List.length_map]
  refine ev_eq (run_start (xs := ls) (F := fun k (_ : Nat) i => impl_Field_fieldPlace_1.l0 k (ls.map e76) (ls.length : Int) i (ofL n)) (st := fun i c => if low c.1 = low n then .inl (i : Int) else .inr (i + 1)) (fin := fun _ => (-1 : Int)) (s := 0) (fun p i => i = p.length) rfl ?_ ?_) (fidx_run n ls 0)
  · intro p c r i h hi
    subst hi
    have hz := len_mid h
    have e1 := rd76_mid h
    have hc := hs c (by rw [h]; simp)
    have w1 : wrap64 ((p.length : Int) + 1) = (p.length : Int) + 1 := wrap_id (by omega) (by omega)
    have hq := impl_SameText_eq c.1 n (by omega) (by omega)
    simp only [impl_Field_fieldPlace_1.l0, impl_fieldPlace_1.f, e1, w1, List.length_map, e76, hq, Option.bind_some]
    clear w1 e1
    by_cases e : low c.1 = low n
    · simp only [if_pos e]
      refine ⟨(fun v hv => ?_), fun s' hs => by cases hs⟩
      cases hv
      exact ev_pos (by omega) (ev_pos (by omega) (ev_pos (by omega) (ev_pos (decide_eq_true e) (ev_some _))))
    · simp only [if_neg e]
      refine ⟨(fun v hv => by cases hv), fun s' hs => ⟨?_, fun v hv => ?_⟩⟩
      · cases hs; simp
      · exact ev_pos (by omega) (ev_pos (by omega) (ev_pos (by omega) (ev_neg (by simp [e]) hv)))
  · intro s _
    simp only [impl_Field_fieldPlace_1.l0]
    exact ev_neg (by omega) (ev_some _)

/-! Texts: the model. -/
def okB (c : UInt8) : Bool := 32 ≤ c && c ≤ 126
def tvalid (l : Str) : Bool := l.all okB && decide (l.length ≤ 200)
theorem okB_lo (c : UInt8) (h : (c.toNat : Int) < 32) : okB c = false := by
  have : c < 32 := (u8_lt c 32 (by omega)).mp h
  unfold okB
  simp [UInt8.le_iff_toNat_le, UInt8.lt_iff_toNat_lt] at this ⊢
  omega
theorem okB_hi (c : UInt8) (h : (c.toNat : Int) > 126) : okB c = false := by
  unfold okB
  simp [UInt8.le_iff_toNat_le, UInt8.lt_iff_toNat_lt]
  omega
theorem okB_mid (c : UInt8) (h : ¬ (c.toNat : Int) < 32) (h2 : ¬ (c.toNat : Int) > 126) : okB c = true := by
  unfold okB
  simp [UInt8.le_iff_toNat_le, UInt8.lt_iff_toNat_lt]
  omega
theorem tvalid_len {l : Str} (h : tvalid l = true) : l.length ≤ 200 := by
  unfold tvalid at h; simp at h; exact h.2

theorem impl_TextValid_loop (l : Str) (hl : l.length ≤ 1000000000000000) (r : Str) : ∀ (p : Str), l = p ++ r → Ev (fun k => impl_TextValid.l0 k (ofL l) (l.length : Int) (p.length : Int)) (r.all okB && decide (l.length ≤ 200)) := by
  induction r with
  | nil =>
    intro p h
    have hz : l.length = p.length := by rw [h, List.append_nil]
    refine ev_succ ?_
    simp only [impl_TextValid.l0, size_ofL]
    repeat (first | refine ev_pos (by first | assumption | omega | decide) ?_ | refine ev_neg (by first | assumption | omega | decide) ?_)
    exact ev_eq (ev_some _) (by simp; omega)
  | cons c r ih =>
    intro p h
    have hz : l.length = p.length + (r.length + 1) := by rw [h]; simp
    have e1 : bt (ofL l) (p.length : Int) = (c.toNat : Int) := by rw [h]; exact bt_mid p r c
    have := ih (p ++ [c]) (by rw [h]; simp)
    rw [len_snoc] at this
    refine ev_succ ?_
    simp (disch := omega) only [impl_TextValid.l0, size_ofL, e1, wrap_id]
    by_cases h1 : (c.toNat : Int) < 32
    · repeat (first | refine ev_pos (by first | assumption | omega | decide) ?_ | refine ev_neg (by first | assumption | omega | decide) ?_)
      exact ev_eq (ev_some _) (by simp [okB_lo c h1])
    · by_cases h2 : (c.toNat : Int) > 126
      · repeat (first | refine ev_pos (by first | assumption | omega | decide) ?_ | refine ev_neg (by first | assumption | omega | decide) ?_)
        exact ev_eq (ev_some _) (by simp [okB_hi c h2])
      · repeat (first | refine ev_pos (by first | assumption | omega | decide) ?_ | refine ev_neg (by first | assumption | omega | decide) ?_)
        exact ev_eq this (by simp [okB_mid c h1 h2])
theorem impl_TextValid_ev (l : Str) (hl : l.length ≤ 1000000000000000) : Ev (fun k => impl_TextValid.f k (ofL l)) (tvalid l) := by
  unfold impl_TextValid.f
  rw [size_ofL]
  exact impl_TextValid_loop l hl l [] rfl

theorem spec_TextValid_loop (l : Str) (hl : l.length ≤ 1000000000000000) (r : Str) : ∀ (p : Str), l = p ++ r → Ev (fun k => spec_TextValid.l0 k (ofL l) (p.length : Int)) (r.all okB && decide (l.length ≤ 200)) := by
  induction r with
  | nil =>
    intro p h
    have hz : l.length = p.length := by rw [h, List.append_nil]
    refine ev_succ ?_
    simp only [spec_TextValid.l0, size_ofL]
    repeat (first | refine ev_pos (by first | assumption | omega | decide) ?_ | refine ev_neg (by first | assumption | omega | decide) ?_)
    refine ev_succ ?_
    simp only [spec_TextValid.j1, size_ofL]
    repeat (first | refine ev_pos (by first | assumption | omega | decide) ?_ | refine ev_neg (by first | assumption | omega | decide) ?_)
    exact ev_eq (ev_some _) (by simp; omega)
  | cons c r ih =>
    intro p h
    have hz : l.length = p.length + (r.length + 1) := by rw [h]; simp
    have e1 : bt (ofL l) (p.length : Int) = (c.toNat : Int) := by rw [h]; exact bt_mid p r c
    have := ih (p ++ [c]) (by rw [h]; simp)
    rw [len_snoc] at this
    by_cases h0 : (p.length : Int) ≤ 200
    · refine ev_succ ?_
      simp only [spec_TextValid.l0, size_ofL]
      repeat (first | refine ev_pos (by first | assumption | omega | decide) ?_ | refine ev_neg (by first | assumption | omega | decide) ?_)
      refine ev_succ ?_
      simp (disch := omega) only [spec_TextValid.j1, size_ofL, e1, wrap_id, decide_eq_true h0]
      by_cases h1 : (c.toNat : Int) < 32
      · repeat (first | refine ev_pos (by first | assumption | omega | decide) ?_ | refine ev_neg (by first | assumption | omega | decide) ?_)
        exact ev_eq (ev_some _) (by simp [okB_lo c h1])
      · by_cases h2 : (c.toNat : Int) > 126
        · repeat (first | refine ev_pos (by first | assumption | omega | decide) ?_ | refine ev_neg (by first | assumption | omega | decide) ?_)
          exact ev_eq (ev_some _) (by simp [okB_hi c h2])
        · repeat (first | refine ev_pos (by first | assumption | omega | decide) ?_ | refine ev_neg (by first | assumption | omega | decide) ?_)
          exact ev_eq this (by simp [okB_mid c h1 h2])
    · refine ev_succ ?_
      simp only [spec_TextValid.l0, size_ofL]
      repeat (first | refine ev_pos (by first | assumption | omega | decide) ?_ | refine ev_neg (by first | assumption | omega | decide) ?_)
      refine ev_succ ?_
      simp only [spec_TextValid.j1, size_ofL, decide_eq_false h0]
      repeat (first | refine ev_pos (by first | assumption | omega | decide) ?_ | refine ev_neg (by first | assumption | omega | decide) ?_)
      have d1 : decide ((l.length : Int) ≤ 200) = false := decide_eq_false (by omega)
      have d2 : decide (l.length ≤ 200) = false := decide_eq_false (by omega)
      exact ev_eq (ev_some _) (by rw [d1, d2, Bool.and_false])
theorem spec_TextValid_ev (l : Str) (hl : l.length ≤ 1000000000000000) : Ev (fun k => spec_TextValid.f k (ofL l)) (tvalid l) := by
  unfold spec_TextValid.f
  exact spec_TextValid_loop l hl l [] rfl

/-! Words quoted. -/
def escB (c : UInt8) : Str := if c = 34 ∨ c = 92 then [92, c] else [c]
def esc : Str → Str
  | [] => []
  | c :: r => escB c ++ esc r
def quote (l : Str) : Str := 34 :: (esc l ++ [34])
def qw (l : Str) : Str := if tvalid l = true then (if atomV l = true then l else quote l) else []
theorem esc_append (a b : Str) : esc (a ++ b) = esc a ++ esc b := by
  induction a with
  | nil => rfl
  | cons c a ih => simp only [List.cons_append, esc, ih, List.append_assoc]
theorem escB_len (c : UInt8) : (escB c).length ≤ 2 := by unfold escB; split <;> simp
theorem esc_len (l : Str) : (esc l).length ≤ 2 * l.length := by
  induction l with
  | nil => simp [esc]
  | cons c r ih => have := escB_len c; simp only [esc, List.length_append, List.length_cons]; omega
theorem qw_len (l : Str) : (qw l).length ≤ 2 * l.length + 2 := by
  unfold qw quote
  have := esc_len l
  split
  · split
    · omega
    · simp only [List.length_cons, List.length_append, List.length_nil]; omega
  · simp
theorem impl_QuoteWord_ev (l : Str) (hl : l.length ≤ 1048576) : Ev (fun k => impl_QuoteWord.f k (ofL l)) (ofL (qw l)) := by
  have key : ∀ (r p : Str), l = p ++ r → Ev (fun k => impl_QuoteWord.l0 k (ofL l) (zn (34 :: esc p)) (l.length : Int) (p.length : Int)) (ofL (quote l)) := by
    intro r
    induction r with
    | nil =>
      intro p h
      rw [List.append_nil] at h
      subst h
      have h1 := esc_len l
      refine ev_succ ?_
      simp only [impl_QuoteWord.l0, zn_length]
      refine ev_neg (by omega) (ev_pos (by simp only [List.length_cons]; omega) (ev_eq (ev_some _) ?_))
      rw [show ([34] : List Int) = zn [34] from rfl, ← zn_append, strOfNums_zn]
      rfl
    | cons c r ih =>
      intro p h
      have hz := len_mid h
      have e1 := bt_ofL_mid h
      have h1 := esc_len p
      have hh := ih (p ++ [c]) (by rw [h]; simp)
      rw [len_snoc, esc_append] at hh
      have w1 : wrap64 ((p.length : Int) + 1) = (p.length : Int) + 1 := wrap_id (by omega) (by omega)
      have h34 := u8_eq c 34 (by omega)
      have h92 := u8_eq c 92 (by omega)
      have b1 : (34 :: esc p : Str).length < 140737488355328 := by simp only [List.length_cons]; omega
      have b2 : (34 :: esc p ++ [92] : Str).length < 140737488355328 := by simp only [List.length_cons, List.length_append, List.length_nil]; omega
      refine ev_succ ?_
      have e92 : ([92] : List Int) = zn [92] := rfl
      have ec : ([(c.toNat : Int)] : List Int) = zn [c] := rfl
      simp only [impl_QuoteWord.l0, e1, w1, size_ofL, zn_length, Option.bind_some, e92, ec, ← zn_append]
      clear w1 e1
      refine ev_pos (by omega) (ev_pos (by omega) (ev_pos (by omega) ?_))
      have two : escB c = [92, c] → (34 :: esc p ++ [92]) ++ [c] = 34 :: (esc p ++ (esc [c])) := fun h => by simp [esc, h]
      have one : escB c = [c] → (34 :: esc p) ++ [c] = 34 :: (esc p ++ (esc [c])) := fun h => by simp [esc, h]
      by_cases c1 : (c.toNat : Int) = 34
      · have hc : c = 34 := h34.mp c1
        refine ev_pos c1 (ev_pos b1 (ev_pos b2 ?_))
        rw [two (by unfold escB; rw [if_pos (Or.inl hc)])]
        exact hh
      · have hc : ¬ c = 34 := fun h => c1 (h34.mpr h)
        by_cases c2 : (c.toNat : Int) = 92
        · have hc2 : c = 92 := h92.mp c2
          refine ev_neg c1 (ev_pos c2 (ev_pos b1 (ev_pos b2 ?_)))
          rw [two (by unfold escB; rw [if_pos (Or.inr hc2)])]
          exact hh
        · have hc2 : ¬ c = 92 := fun h => c2 (h92.mpr h)
          refine ev_neg c1 (ev_neg c2 (ev_pos b1 ?_))
          rw [one (by unfold escB; rw [if_neg (by simp [hc, hc2])])]
          exact hh
  unfold impl_QuoteWord.f qw
  refine ev_bind (impl_TextValid_ev l (by omega)) ?_
  cases e1 : tvalid l with
  | false => exact ev_neg (by simp) (ev_eq (ev_some _) rfl)
  | true =>
    refine ev_pos rfl (ev_bind (impl_AtomValid_ev l (by omega)) ?_)
    cases e2 : atomV l with
    | true => exact ev_pos rfl (ev_some _)
    | false =>
      have := key l [] rfl
      simp only [size_ofL]
      exact ev_neg (by simp) this
theorem spec_QuoteWord_ev (l : Str) (hl : l.length ≤ 1048576) : Ev (fun k => spec_QuoteWord.f k (ofL l)) (ofL (qw l)) := by
  have key : ∀ (r p : Str), l = p ++ r → Ev (fun k => spec_l1Quote.l0 k (ofL l) (ofL (34 :: esc p)) (p.length : Int)) (ofL (quote l)) := by
    intro r
    induction r with
    | nil =>
      intro p h
      rw [List.append_nil] at h
      subst h
      have h1 := esc_len l
      refine ev_succ ?_
      simp only [spec_l1Quote.l0, size_ofL]
      refine ev_neg (by omega) (ev_pos (by simp only [List.length_cons]; omega) (ev_eq (ev_some _) ?_))
      rw [show (⟨#[34]⟩ : ByteArray) = ofL [34] from rfl, ofL_append]
      rfl
    | cons c r ih =>
      intro p h
      have hz := len_mid h
      have e1 := bt_ofL_mid h
      have h1 := esc_len p
      have hh := ih (p ++ [c]) (by rw [h]; simp)
      rw [len_snoc, esc_append] at hh
      have w1 : wrap64 ((p.length : Int) + 1) = ((p.length + 1 : Nat) : Int) := (wrap_id (by omega) (by omega)).trans (by omega)
      have w2 : ((p.length + 1 : Nat) : Int) = (p.length : Int) + 1 := by omega
      have h34 := u8_eq c 34 (by omega)
      have h92 := u8_eq c 92 (by omega)
      have e3 : strOfNums ([92] : List Int) = ofL [92] := strOfNums_zn [92]
      have e4 : (l.drop p.length).take (p.length + 1 - p.length) = [c] := by
        rw [h, List.drop_left, show p.length + 1 - p.length = 1 by omega]; rfl
      refine ev_succ ?_
      simp only [spec_l1Quote.l0, e1, w1, size_ofL, Option.bind_some, e3, Int.toNat_natCast, extract_ofL, e4, ofL_append]
      clear w1 e1 e3 e4
      simp only [w2]
      refine ev_pos (by omega) (ev_pos (by omega) ?_)
      have two : escB c = [92, c] → (34 :: esc p ++ [92]) ++ [c] = 34 :: (esc p ++ (esc [c])) := fun h => by simp [esc, h]
      have one : escB c = [c] → (34 :: esc p) ++ [c] = 34 :: (esc p ++ (esc [c])) := fun h => by simp [esc, h]
      have b1 : (34 :: esc p : Str).length + ([92] : Str).length ≤ 9223372036854775807 := by simp only [List.length_cons, List.length_nil]; omega
      have b2 : (34 :: esc p ++ [92] : Str).length + ([c] : Str).length ≤ 9223372036854775807 := by simp only [List.length_cons, List.length_append, List.length_nil]; omega
      have b3 : (34 :: esc p : Str).length + ([c] : Str).length ≤ 9223372036854775807 := by simp only [List.length_cons, List.length_nil]; omega
      by_cases c1 : (c.toNat : Int) = 34
      · have hc : c = 34 := h34.mp c1
        refine ev_pos c1 (ev_pos b1 (ev_pos (by omega) (ev_pos (by omega) (ev_pos b2 ?_))))
        rw [two (by unfold escB; rw [if_pos (Or.inl hc)])]
        exact hh
      · have hc : ¬ c = 34 := fun h => c1 (h34.mpr h)
        by_cases c2 : (c.toNat : Int) = 92
        · have hc2 : c = 92 := h92.mp c2
          refine ev_neg c1 (ev_pos c2 (ev_pos b1 (ev_pos (by omega) (ev_pos (by omega) (ev_pos b2 ?_)))))
          rw [two (by unfold escB; rw [if_pos (Or.inr hc2)])]
          exact hh
        · have hc2 : ¬ c = 92 := fun h => c2 (h92.mpr h)
          refine ev_neg c1 (ev_neg c2 (ev_pos (by omega) (ev_pos (by omega) (ev_pos b3 ?_))))
          rw [one (by unfold escB; rw [if_neg (by simp [hc, hc2])])]
          exact hh
  unfold spec_QuoteWord.f qw
  refine ev_bind (spec_TextValid_ev l (by omega)) ?_
  cases e1 : tvalid l with
  | false => exact ev_neg (by simp) (ev_eq (ev_some _) rfl)
  | true =>
    refine ev_pos rfl (ev_bind (spec_AtomValid_ev l (by omega)) ?_)
    cases e2 : atomV l with
    | true => exact ev_pos rfl (ev_some _)
    | false =>
      have := key l [] rfl
      unfold spec_l1Quote.f
      exact ev_neg (by simp) (ev_bind this (ev_some _))

/-! Kinds as texts, valid kinds. -/
def kpart (p : Str × Str) : Str := [59, 32] ++ p.1 ++ [61] ++ qw p.2
def ktail : List (Str × Str) → Str
  | [] => []
  | c :: r => kpart c ++ ktail r
def ktext (a b : Str) (ps : List (Str × Str)) : Str := (a ++ [47] ++ b) ++ ktail ps
def kfl (q : List (Str × Str)) : List (Str × Str) → Bool
  | [] => true
  | c :: r => isSmall c.1 && (tvalid c.2 && decide (c.2.length ≤ 40)) && decide (¬ (fidx c.1 q 0 ≥ 0)) && kfl (q ++ [c]) r
def kvalid (a b : Str) (ps : List (Str × Str)) : Bool := isSmall a && isSmall b && decide (¬ (ps.length > 4)) && kfl [] ps && decide ((ktext a b ps).length ≤ 150)
theorem kpart_len (p : Str × Str) : (kpart p).length = 3 + p.1.length + (qw p.2).length := by
  unfold kpart; simp only [List.length_append, List.length_cons, List.length_nil]
  omega
theorem ktail_append (a b : List (Str × Str)) : ktail (a ++ b) = ktail a ++ ktail b := by
  induction a with
  | nil => rfl
  | cons c a ih => simp only [List.cons_append, ktail, ih, List.append_assoc]
theorem ktail_len (ps : List (Str × Str)) : (ktail ps).length ≤ 2 * szp ps + 5 * ps.length := by
  induction ps with
  | nil => simp [ktail]
  | cons c r ih =>
    have h1 := kpart_len c
    have h2 := qw_len c.2
    simp only [ktail, szp, List.length_append, List.length_cons]
    omega
theorem szp_append (a b : List (Str × Str)) : szp (a ++ b) = szp a + szp b := by
  induction a with
  | nil => simp [szp]
  | cons c a ih => simp only [List.cons_append, szp, ih]; omega
theorem small_take {ls p r : List (Str × Str)} (h : ls = p ++ r) (hs : small ls) : small p := fun x hx => hs x (by rw [h]; exact List.mem_append_left _ hx)
theorem take_map_mid {ls p r : List (Str × Str)} (h : ls = p ++ r) : (ls.map e76).take p.length = p.map e76 := by
  rw [h, List.map_append]
  exact List.take_left' (by simp)
theorem impl_kindText_ev (a b : Str) (ps : List (Str × Str)) (ha : a.length ≤ 1048576) (hb : b.length ≤ 1048576) (hz : szp ps ≤ 1048576) (hn : ps.length ≤ 1048576) : Ev (fun k => impl_kindText.f k (ofL a) (ofL b) (ps.map e76)) (ofL (ktext a b ps)) := by
  have hs := small_of hz
  unfold impl_kindText.f
  have e47 : (⟨#[47]⟩ : ByteArray) = ofL [47] := rfl
  simp only [e47, ofL_append, size_ofL, List.length_map]
  refine ev_pos (by omega) (ev_pos (by first | omega | (simp only [List.length_append, List.length_cons, List.length_nil]; omega)) ?_)
  have key : ∀ (r p : List (Str × Str)), ps = p ++ r → Ev (fun k => impl_kindText.l0 k (ofL (a ++ [47] ++ b ++ ktail p)) (ps.map e76) (ps.length : Int) (p.length : Int)) (ofL (ktext a b ps)) := by
    intro r
    induction r with
    | nil =>
      intro p h
      rw [List.append_nil] at h
      subst h
      refine ev_succ ?_
      simp only [impl_kindText.l0]
      exact ev_neg (by omega) (ev_some _)
    | cons c r ih =>
      intro p h
      have hz2 := len_mid h
      have e1 := rd76_mid h
      have hc := hs c (by rw [h]; simp)
      have hh := ih (p ++ [c]) (by rw [h]; simp)
      rw [len_snoc, ktail_append] at hh
      have hq := qw_len c.2
      have hp : (ktail p).length ≤ 20000000 := by
        have h1 := ktail_len p
        have h2 : szp p ≤ szp ps := by rw [h, szp_append]; omega
        omega
      have hi := impl_QuoteWord_ev c.2 (by omega)
      have w1 : wrap64 ((p.length : Int) + 1) = (p.length : Int) + 1 := wrap_id (by omega) (by omega)
      have e59 : (⟨#[59, 32]⟩ : ByteArray) = ofL [59, 32] := rfl
      have e61 : (⟨#[61]⟩ : ByteArray) = ofL [61] := rfl
      refine ev_succ ?_
      simp only [impl_kindText.l0, e1, w1, e76, e59, e61, size_ofL, ofL_append, List.length_map]
      clear w1 e1
      refine ev_pos (by omega) (ev_pos (by omega) (ev_pos (by omega) (ev_pos (by first | omega | (simp only [List.length_cons, List.length_nil]; omega)) (ev_pos (by first | omega | (simp only [List.length_append, List.length_cons, List.length_nil]; omega)) (ev_bind hi ?_)))))
      simp only [size_ofL, ofL_append]
      refine ev_pos (by first | omega | (simp only [List.length_append, List.length_cons, List.length_nil]; omega)) (ev_pos (by first | omega | (simp only [List.length_append, List.length_cons, List.length_nil]; omega)) ?_)
      have e : a ++ [47] ++ b ++ ktail p ++ ([59, 32] ++ c.1 ++ [61] ++ qw c.2) = a ++ [47] ++ b ++ (ktail p ++ ktail [c]) := by
        simp [ktail, kpart]
      rw [e]
      exact hh
  have := key ps [] rfl
  simpa [ktail] using this
theorem impl_KindValid_ev (a b : Str) (ps : List (Str × Str)) (ha : a.length ≤ 1048576) (hb : b.length ≤ 1048576) (hz : szp ps ≤ 1048576) (hn : ps.length ≤ 1048576) : Ev (fun k => impl_KindValid.f k (ofL a) (ofL b) (ps.map e76)) (kvalid a b ps) := by
  have hs := small_of hz
  have ht := impl_kindText_ev a b ps ha hb hz hn
  have hbad : Ev (fun k => impl_KindValid.j0 k true (ofL a) (ofL b) (ps.map e76)) false := by
    refine ev_succ ?_
    simp only [impl_KindValid.j0]
    exact ev_pos trivial (ev_some _)
  have key : ∀ (r p : List (Str × Str)), ps = p ++ r → Ev (fun k => impl_KindValid.l0 k (ps.map e76) (ps.length : Int) (p.length : Int) (ofL a) (ofL b) (ps.map e76)) (kfl p r && decide ((ktext a b ps).length ≤ 150)) := by
    intro r
    induction r with
    | nil =>
      intro p h
      rw [List.append_nil] at h
      subst h
      refine ev_succ ?_
      simp only [impl_KindValid.l0, kfl, Bool.true_and]
      refine ev_neg (by omega) (ev_bind ht (ev_eq (ev_some _) ?_))
      rw [size_ofL]
      by_cases h1 : (ktext a b ps).length ≤ 150
      · rw [decide_eq_true h1]; exact decide_eq_true (by omega)
      · rw [decide_eq_false h1]; exact decide_eq_false (by omega)
    | cons c r ih =>
      intro p h
      have hz2 := len_mid h
      have e1 := rd76_mid h
      have hc := hs c (by rw [h]; simp)
      have hh := ih (p ++ [c]) (by rw [h]; simp)
      rw [len_snoc] at hh
      have w1 : wrap64 ((p.length : Int) + 1) = (p.length : Int) + 1 := wrap_id (by omega) (by omega)
      have i1 := impl_isSmallName_ev c.1 (by omega)
      have i2 := impl_TextValid_ev c.2 (by omega)
      have i3 := impl_fieldPlace_ev p c.1 (small_take h hs) hc.1 (by omega)
      have e3 := take_map_mid h
      refine ev_succ ?_
      simp only [impl_KindValid.l0, kfl, e1, w1, e76, size_ofL, List.length_map, Int.toNat_natCast]
      clear w1 e1
      refine ev_pos (by omega) (ev_pos (by omega) (ev_pos (by omega) (ev_bind i1 ?_)))
      cases q1 : isSmall c.1 with
      | false => exact ev_neg (by simp) (ev_some _)
      | true =>
        refine ev_pos rfl (ev_bind i2 ?_)
        cases q2 : tvalid c.2 with
        | false => exact ev_neg (by simp) (ev_some _)
        | true =>
          refine ev_pos rfl ?_
          by_cases q3 : c.2.length ≤ 40
          · rw [decide_eq_true q3]
            refine ev_neg (by omega) (ev_pos (by omega) ?_)
            rw [e3]
            refine ev_bind i3 ?_
            by_cases q4 : fidx c.1 p 0 ≥ 0
            · refine ev_pos q4 (ev_eq (ev_some _) ?_)
              rw [decide_eq_false (fun hn => hn q4)]; rfl
            · refine ev_neg q4 ?_
              rw [decide_eq_true q4]
              simpa using hh
          · rw [decide_eq_false q3]
            exact ev_pos (by omega) (ev_some _)
  unfold impl_KindValid.f kvalid
  refine ev_bind (impl_isSmallName_ev a (by omega)) ?_
  cases q1 : isSmall a with
  | false => exact ev_neg (by simp) hbad
  | true =>
    refine ev_pos rfl (ev_bind (impl_isSmallName_ev b (by omega)) ?_)
    cases q2 : isSmall b with
    | false => exact ev_neg (by simp) hbad
    | true =>
      refine ev_pos rfl (ev_succ ?_)
      simp only [impl_KindValid.j0, List.length_map]
      by_cases q3 : ps.length > 4
      · refine ev_pos (decide_eq_true (by omega)) (ev_eq (ev_some _) ?_)
        rw [decide_eq_false (fun hn => hn q3)]; rfl
      · refine ev_neg (by simp; omega) ?_
        rw [decide_eq_true q3]
        have := key ps [] rfl
        simpa using this
theorem spec_l2Name_ev (l : Str) (hl : l.length ≤ 1000000000) : Ev (fun k => spec_l2Name.f k (ofL l)) (tvalid l && decide (l.length ≤ 40)) := by
  unfold spec_l2Name.f
  refine ev_bind (spec_TextValid_ev l (by omega)) ?_
  cases q2 : tvalid l with
  | false => exact ev_neg (by simp) (ev_some _)
  | true =>
    refine ev_pos rfl (ev_eq (ev_some _) ?_)
    rw [size_ofL, Bool.true_and]
    by_cases h1 : l.length ≤ 40
    · rw [decide_eq_true h1]; exact decide_eq_true (by omega)
    · rw [decide_eq_false h1]; exact decide_eq_false (by omega)
theorem spec_KindValid_ev (a b : Str) (ps : List (Str × Str)) (ha : a.length ≤ 1048576) (hb : b.length ≤ 1048576) (hz : szp ps ≤ 1048576) (hn : ps.length ≤ 1048576) : Ev (fun k => spec_KindValid.f k (ofL a) (ofL b) (ps.map e76)) (kvalid a b ps) := by
  have hs := small_of hz
  have hbad : Ev (fun k => spec_KindValid.j0 k true (ofL a) (ofL b) (ps.map e76)) false := by
    refine ev_succ ?_
    simp only [spec_KindValid.j0]
    exact ev_pos trivial (ev_some _)
  have key : ∀ (r p : List (Str × Str)), ps = p ++ r → Ev (fun k => spec_KindValid.l0 k (((a ++ [47] ++ b ++ ktail p : Str).length : Nat) : Int) (p.length : Int) (ofL a) (ofL b) (ps.map e76)) (kfl p r && decide ((ktext a b ps).length ≤ 150)) := by
    intro r
    induction r with
    | nil =>
      intro p h
      rw [List.append_nil] at h
      subst h
      refine ev_succ ?_
      simp only [spec_KindValid.l0, kfl, Bool.true_and, List.length_map]
      refine ev_neg (by omega) (ev_eq (ev_some _) ?_)
      have e : a ++ [47] ++ b ++ ktail ps = ktext a b ps := rfl
      rw [e]
      by_cases h1 : (ktext a b ps).length ≤ 150
      · rw [decide_eq_true h1]; exact decide_eq_true (by omega)
      · rw [decide_eq_false h1]; exact decide_eq_false (by omega)
    | cons c r ih =>
      intro p h
      have hz2 := len_mid h
      have e1 := rd76_mid h
      have hc := hs c (by rw [h]; simp)
      have hh := ih (p ++ [c]) (by rw [h]; simp)
      rw [len_snoc] at hh
      have hp : (ktail p).length ≤ 20000000 := by
        have h1 := ktail_len p
        have h2 : szp p ≤ szp ps := by rw [h, szp_append]; omega
        omega
      have hq := qw_len c.2
      have hk := kpart_len c
      have i1 := spec_l7Word_ev c.1 (by omega)
      have i2 := spec_l2Name_ev c.2 (by omega)
      have i3 := spec_l3Find_ev p c.1 (small_take h hs) hc.1 (by omega)
      have i4 := spec_QuoteWord_ev c.2 (by omega)
      have e3 := take_map_mid h
      have en : (a ++ [47] ++ b ++ ktail (p ++ [c]) : Str).length = (a ++ [47] ++ b ++ ktail p : Str).length + 3 + c.1.length + (qw c.2).length := by
        rw [ktail_append]
        simp only [List.length_append, ktail, List.length_nil, hk]
        omega
      have hm : (a ++ [47] ++ b ++ ktail p : Str).length ≤ 30000000 := by
        simp only [List.length_append, List.length_cons, List.length_nil]; omega
      rw [en] at hh
      generalize (a ++ [47] ++ b ++ ktail p : Str).length = m at hh hm
      have w1 : Unit → wrap64 ((p.length : Int) + 1) = (p.length : Int) + 1 ∧ wrap64 (wrap64 (wrap64 ((m : Int) + 3) + (c.1.length : Int)) + ((qw c.2).length : Int)) = ((m + 3 + c.1.length + (qw c.2).length : Nat) : Int) := by
        intro _
        have x1 : wrap64 ((m : Int) + 3) = (m : Int) + 3 := wrap_id (by omega) (by omega)
        rw [x1]
        clear x1
        have x2 : wrap64 ((m : Int) + 3 + (c.1.length : Int)) = (m : Int) + 3 + (c.1.length : Int) := wrap_id (by omega) (by omega)
        rw [x2]
        clear x2
        exact ⟨wrap_id (by omega) (by omega), (wrap_id (by omega) (by omega)).trans (by omega)⟩
      refine ev_succ ?_
      simp only [spec_KindValid.l0, kfl, e1, (w1 ()).1, e76, size_ofL, List.length_map, Int.toNat_natCast]
      refine ev_pos (by omega) (ev_pos (by omega) (ev_bind i1 ?_))
      cases q1 : isSmall c.1 with
      | false => exact ev_neg (by simp) (ev_some _)
      | true =>
        refine ev_pos rfl (ev_bind i2 ?_)
        cases q2 : (tvalid c.2 && decide (c.2.length ≤ 40)) with
        | false => exact ev_neg (by simp) (ev_some _)
        | true =>
          refine ev_pos rfl (ev_pos (by omega) ?_)
          rw [e3]
          refine ev_bind i3 ?_
          by_cases q4 : fidx c.1 p 0 ≥ 0
          · refine ev_pos q4 (ev_eq (ev_some _) ?_)
            rw [decide_eq_false (fun hn => hn q4)]; rfl
          · refine ev_neg q4 (ev_bind i4 ?_)
            rw [decide_eq_true q4]
            simp only [size_ofL, (w1 ()).2]
            simpa using hh
  unfold spec_KindValid.f kvalid
  refine ev_bind (spec_l7Word_ev a (by omega)) ?_
  cases q1 : isSmall a with
  | false => exact ev_neg (by simp) hbad
  | true =>
    refine ev_pos rfl (ev_bind (spec_l7Word_ev b (by omega)) ?_)
    cases q2 : isSmall b with
    | false => exact ev_neg (by simp) hbad
    | true =>
      refine ev_pos rfl (ev_succ ?_)
      simp only [spec_KindValid.j0, List.length_map, size_ofL]
      by_cases q3 : ps.length > 4
      · refine ev_pos (decide_eq_true (by omega)) (ev_eq (ev_some _) ?_)
        rw [decide_eq_false (fun hn => hn q3)]; rfl
      · refine ev_neg (by simp; omega) ?_
        rw [decide_eq_true q3]
        have := key ps [] rfl
        have x1 : wrap64 ((a.length : Int) + (b.length : Int)) = (a.length : Int) + (b.length : Int) := wrap_id (by omega) (by omega)
        rw [x1]
        clear x1
        have x2 : wrap64 ((a.length : Int) + (b.length : Int) + 1) = (((a ++ [47] ++ b ++ ktail [] : Str).length : Nat) : Int) := by
          refine (wrap_id (by omega) (by omega)).trans ?_
          simp only [ktail, List.length_append, List.length_cons, List.length_nil]
          omega
        rw [x2]
        simpa using this

theorem kind_open {s u : ByteArray} {l : List S91} (hs : s.size ≤ maxLen) (hu : u.size ≤ maxLen) (hl : l.length ≤ maxLen) (hx : ∀ x ∈ l, x.f0.size ≤ maxLen ∧ x.f1.size ≤ maxLen) :
    ∃ (a b : Str) (ls : List (Str × Str)), s = ofL a ∧ u = ofL b ∧ l = ls.map e91 ∧ a.length ≤ 9223372036854775807 ∧ b.length ≤ 9223372036854775807 ∧ sane ls ∧ ls.length ≤ 9223372036854775807 := by
  unfold maxLen at *
  rw [size_L] at hs hu
  refine ⟨L s, L u, l.map p91, (ofL_L s).symm, (ofL_L u).symm, (map_e91 l).symm, by omega, by omega, fun x hm => ?_, by rw [List.length_map]; omega⟩
  obtain ⟨y, hy, rfl⟩ := List.mem_map.mp hm
  have := hx y hy
  rw [size_L, size_L] at this
  exact ⟨by show (L y.f0).length ≤ _; omega, by show (L y.f1).length ≤ _; omega⟩

theorem impl_isBoundary_1_eq (c : UInt8) : impl_isBoundary_1.f (c.toNat : Int) = some (alnB c) := by
  unfold impl_isBoundary_1.f alnB
  rw [impl_isLetter_eq, impl_isDigit_eq]
  cases letB c <;> simp
theorem impl_allBytes_isBoundary_1_ev (l : Str) (hl : l.length ≤ 1000000000000000) : Ev (fun k => impl_allBytes_isBoundary_1.f k (ofL l)) (l.all alnB) := by
  unfold impl_allBytes_isBoundary_1.f
  rw [size_ofL]
  refine ev_eq (run_start (xs := l) (F := fun k (_ : Unit) i => impl_allBytes_isBoundary_1.l0 k (ofL l) (l.length : Int) i) (st := fun _ c => if alnB c = true then .inr () else .inl false) (fin := fun _ => true) (s := ()) (fun _ _ => True) trivial ?_ ?_) ?_
  · intro p c r s h _
    have hz := len_mid h
    have e1 := bt_ofL_mid h
    have w1 : wrap64 ((p.length : Int) + 1) = (p.length : Int) + 1 := wrap_id (by omega) (by omega)
    simp only [impl_allBytes_isBoundary_1.l0, e1, w1, size_ofL]
    clear w1 e1
    cases e : alnB c with
    | true =>
      simp only [if_true]
      refine ⟨(fun v hv => by cases hv), fun s' hs => ⟨trivial, fun v hv => ?_⟩⟩
      refine ev_pos (by omega) (ev_pos (by omega) (ev_pos (by omega) (ev_bind0 (impl_isBoundary_1_eq c) (ev_pos e hv))))
    | false =>
      refine ⟨(fun v hv => ?_), fun s' hs => by simp at hs⟩
      simp only [Bool.false_eq_true, if_false, Sum.inl.injEq] at hv
      subst hv
      refine ev_pos (by omega) (ev_pos (by omega) (ev_pos (by omega) (ev_bind0 (impl_isBoundary_1_eq c) (ev_neg (by rw [e]; simp) (ev_some _)))))
  · intro s _
    simp only [impl_allBytes_isBoundary_1.l0]
    exact ev_neg (by omega) (ev_some _)
  · clear hl
    induction l with
    | nil => rfl
    | cons c r ih =>
      unfold run
      cases e : alnB c with
      | true => simp [e, ih]
      | false => simp [e]
theorem impl_isBoundary_ev (l : Str) (hl : l.length ≤ 1000000000000000) : Ev (fun k => impl_isBoundary.f k (ofL l)) (isBd l) := by
  unfold impl_isBoundary.f isBd
  rw [size_ofL]
  by_cases h1 : 1 ≤ l.length
  · rw [decide_eq_true h1]
    refine ev_pos (by omega) ?_
    by_cases h2 : l.length ≤ 20
    · rw [decide_eq_true h2]
      exact ev_pos (by omega) (ev_bind (impl_allBytes_isBoundary_1_ev l hl) (ev_some _))
    · rw [decide_eq_false h2]
      exact ev_neg (by omega) (ev_some _)
  · rw [decide_eq_false h1]
    exact ev_neg (by omega) (ev_some _)

theorem spec_l7Boundary_ev (l : Str) (hl : l.length ≤ 1000000000000000) : Ev (fun k => spec_l7Boundary.f k (ofL l)) (isBd l) := by
  unfold spec_l7Boundary.f
  have hj : Ev (fun k => spec_l7Boundary.j1 k (ofL l) (0 : Int) false) (decide (1 ≤ l.length) && decide (l.length ≤ 20)) := by
    refine ev_succ ?_
    simp only [spec_l7Boundary.j1, size_ofL]
    by_cases h1 : 1 ≤ l.length
    · rw [decide_eq_true h1]
      refine ev_neg (by simp) (ev_pos (by omega) (ev_eq (ev_some _) ?_))
      rw [Bool.true_and]
      by_cases h2 : l.length ≤ 20
      · rw [decide_eq_true h2]; exact decide_eq_true (by omega)
      · rw [decide_eq_false h2]; exact decide_eq_false (by omega)
    · rw [decide_eq_false h1]
      exact ev_neg (by simp) (ev_neg (by omega) (ev_some _))
  have hj' : ∀ i : Int, Ev (fun k => spec_l7Boundary.j1 k (ofL l) i false) (decide (1 ≤ l.length) && decide (l.length ≤ 20)) := by
    intro i
    obtain ⟨K, hK⟩ := hj
    refine ⟨K + 1, fun k hk => ?_⟩
    have := hK k (by omega)
    obtain ⟨m, rfl⟩ : ∃ m, k = m + 1 := ⟨k - 1, by omega⟩
    simp only [spec_l7Boundary.j1] at this ⊢
    exact this
  refine ev_eq (run_start (xs := l) (F := fun k (_ : Nat) i => spec_l7Boundary.l0 k (ofL l) i) (st := fun n c => if n ≤ 20 then (if alnB c = true then .inr (n + 1) else .inl false) else .inl (decide (1 ≤ l.length) && decide (l.length ≤ 20))) (fin := fun _ => decide (1 ≤ l.length) && decide (l.length ≤ 20)) (s := 0) (fun p n => n = p.length) rfl ?_ ?_) ?_
  · intro p c r n h hn
    subst hn
    have hz := len_mid h
    have e1 := bt_ofL_mid h
    have w1 : wrap64 ((p.length : Int) + 1) = (p.length : Int) + 1 := wrap_id (by omega) (by omega)
    by_cases h20 : p.length ≤ 20
    · simp only [if_pos h20]
      have hd : decide ((p.length : Int) ≤ 20) = true := decide_eq_true (by omega)
      simp only [spec_l7Boundary.l0, hd, size_ofL]
      cases e : alnB c with
      | true =>
        simp only [if_true]
        refine ⟨(fun v hv => by cases hv), fun s' hs => ⟨?_, fun v hv => ?_⟩⟩
        · cases hs; simp
        · refine ev_pos (by omega) (ev_succ ?_)
          simp only [spec_l7Boundary.j1, e1, w1, size_ofL]
          clear w1 e1
          exact ev_pos trivial (ev_pos (by omega) (ev_pos (by omega) (ev_bind0 (spec_l1Letter_eq c) (ev_pos e hv))))
      | false =>
        refine ⟨(fun v hv => ?_), fun s' hs => by simp at hs⟩
        simp only [Bool.false_eq_true, if_false, Sum.inl.injEq] at hv
        subst hv
        refine ev_pos (by omega) (ev_succ ?_)
        simp only [spec_l7Boundary.j1, e1, w1, size_ofL]
        clear w1 e1
        exact ev_pos trivial (ev_pos (by omega) (ev_pos (by omega) (ev_bind0 (spec_l1Letter_eq c) (ev_neg (by rw [e]; simp) (ev_some _)))))
    · simp only [if_neg h20]
      have hd : decide ((p.length : Int) ≤ 20) = false := decide_eq_false (by omega)
      refine ⟨(fun v hv => ?_), fun s' hs => by cases hs⟩
      cases hv
      simp only [spec_l7Boundary.l0, hd, size_ofL]
      clear w1 e1
      exact ev_pos (by omega) (hj' _)
  · intro s hs
    subst hs
    simp only [spec_l7Boundary.l0, size_ofL]
    exact ev_neg (by omega) (hj' _)
  · unfold isBd
    have key : ∀ (r : Str) (n : Nat), n + r.length = l.length → run (fun n c => if n ≤ 20 then (if alnB c = true then .inr (n + 1) else .inl false) else .inl (decide (1 ≤ l.length) && decide (l.length ≤ 20))) (fun _ => decide (1 ≤ l.length) && decide (l.length ≤ 20)) r n = (decide (1 ≤ l.length) && decide (l.length ≤ 20) && r.all alnB) := by
      intro r
      induction r with
      | nil => intro n _; simp [run]
      | cons c r ih =>
        intro n hn
        simp only [List.length_cons] at hn
        unfold run
        by_cases h20 : n ≤ 20
        · simp only [if_pos h20]
          cases e : alnB c with
          | true => simp [e, ih (n + 1) (by omega)]
          | false => simp [e]
        · simp only [if_neg h20]
          have : decide (l.length ≤ 20) = false := decide_eq_false (by omega)
          simp [this]
    exact key l 0 (by omega)

/-! The boundary of a kind. -/
def getF (ps : List (Str × Str)) (n : Str) : Str × Bool := if fidx n ps 0 < 0 then ([], false) else ((ps.getD (fidx n ps 0).toNat ([], [])).2, true)
def multi : Str := [109, 117, 108, 116, 105, 112, 97, 114, 116]
def bnd : Str := [98, 111, 117, 110, 100, 97, 114, 121]
def bOf (a b : Str) (ps : List (Str × Str)) : Str × Bool := if kvalid a b ps = true ∧ a = multi ∧ isBd (getF ps bnd).1 = true then ((getF ps bnd).1, true) else ([], false)
theorem getF_small (ps : List (Str × Str)) (n : Str) (hs : small ps) : (getF ps n).1.length ≤ 1048576 := by
  unfold getF
  split
  · simp
  · rw [List.getD_eq_getElem?_getD]
    cases e : ps[(fidx n ps 0).toNat]? with
    | none => simp
    | some x => exact (hs x (List.mem_of_getElem? e)).2
theorem rd76_getD (ps : List (Str × Str)) (i : Int) : (rd_T76 (ps.map e76) i).f1 = ofL ((ps.getD i.toNat ([], [])).2) := by
  unfold rd_T76
  rw [List.getD_eq_getElem?_getD, List.getD_eq_getElem?_getD, List.getElem?_map]
  cases ps[i.toNat]? with
  | none => rfl
  | some x => rfl
theorem impl_GetField_ev (ps : List (Str × Str)) (n : Str) (hs : small ps) (hn : n.length ≤ 1048576) (hl : ps.length ≤ 1048576) : Ev (fun k => impl_GetField.f k (ps.map e76) (ofL n)) (ofL (getF ps n).1, (getF ps n).2) := by
  unfold impl_GetField.f getF
  refine ev_bind (impl_fieldPlace_ev ps n hs hn hl) ?_
  have hr := fidx_range n ps 0
  by_cases h : fidx n ps 0 < 0
  · simp only [if_pos h]; exact ev_eq (ev_some _) rfl
  · simp only [if_neg h, List.length_map, rd76_getD]
    exact ev_pos (by omega) (ev_pos (by omega) (ev_some _))
theorem spec_GetField_ev (ps : List (Str × Str)) (n : Str) (hs : small ps) (hn : n.length ≤ 1048576) (hl : ps.length ≤ 1048576) : Ev (fun k => spec_GetField.f k (ps.map e76) (ofL n)) (ofL (getF ps n).1, (getF ps n).2) := by
  unfold spec_GetField.f getF
  refine ev_bind (spec_l3Find_ev ps n hs hn hl) ?_
  have hr := fidx_range n ps 0
  by_cases h : fidx n ps 0 < 0
  · simp only [if_pos h]; exact ev_eq (ev_some _) rfl
  · simp only [if_neg h, List.length_map, rd76_getD]
    exact ev_pos (by omega) (ev_pos (by omega) (ev_some _))
theorem getF_none (ps : List (Str × Str)) (n : Str) (h : (getF ps n).2 = false) : (getF ps n).1 = [] := by
  unfold getF at *
  split at h
  · rename_i h1; rw [if_pos h1]
  · cases h
theorem bnd_lit : (⟨#[98, 111, 117, 110, 100, 97, 114, 121]⟩ : ByteArray) = ofL bnd := rfl
theorem impl_BoundaryOf_ev (a b : Str) (ps : List (Str × Str)) (ha : a.length ≤ 1048576) (hb : b.length ≤ 1048576) (hz : szp ps ≤ 1048576) (hn : ps.length ≤ 1048576) : Ev (fun k => impl_BoundaryOf.f k (ofL a) (ofL b) (ps.map e76)) (ofL (bOf a b ps).1, (bOf a b ps).2) := by
  have hs := small_of hz
  have hg := getF_small ps bnd hs
  unfold impl_BoundaryOf.f
  refine ev_bind (impl_KindValid_ev a b ps ha hb hz hn) ?_
  simp only [toList_ofL]
  have hbad : bOf a b ps = ([], false) → Ev (fun k => impl_BoundaryOf.j0 k true (ofL a) (ofL b) (ps.map e76)) (ofL (bOf a b ps).1, (bOf a b ps).2) := by
    intro e
    rw [e]
    refine ev_succ ?_
    simp only [impl_BoundaryOf.j0]
    exact ev_pos trivial (ev_eq (ev_some _) rfl)
  cases e : kvalid a b ps with
  | false => exact ev_neg (by simp) (hbad (by unfold bOf; rw [if_neg (by simp [e])]))
  | true =>
    refine ev_pos rfl ?_
    by_cases hm : a = multi
    · have e2 : (a != ([109, 117, 108, 116, 105, 112, 97, 114, 116] : List UInt8)) = false := by rw [hm]; decide
      rw [e2]
      refine ev_succ ?_
      simp only [impl_BoundaryOf.j0, bnd_lit]
      refine ev_neg (by simp) (ev_bind (impl_GetField_ev ps bnd hs (by decide) (by omega)) (ev_bind (impl_isBoundary_ev (getF ps bnd).1 (by omega)) ?_))
      cases e3 : isBd (getF ps bnd).1 with
      | true =>
        have hv : bOf a b ps = ((getF ps bnd).1, true) := by unfold bOf; rw [if_pos ⟨e, hm, e3⟩]
        rw [hv]; exact ev_pos rfl (ev_some _)
      | false =>
        have hv : bOf a b ps = ([], false) := by unfold bOf; rw [if_neg (by rw [e3]; simp)]
        rw [hv]; exact ev_neg (by simp) (ev_eq (ev_some _) rfl)
    · have e2 : (a != ([109, 117, 108, 116, 105, 112, 97, 114, 116] : List UInt8)) = true := by simpa [multi] using hm
      rw [e2]
      exact hbad (by unfold bOf; rw [if_neg (by simp [hm])])
theorem spec_BoundaryOf_ev (a b : Str) (ps : List (Str × Str)) (ha : a.length ≤ 1048576) (hb : b.length ≤ 1048576) (hz : szp ps ≤ 1048576) (hn : ps.length ≤ 1048576) : Ev (fun k => spec_BoundaryOf.f k (ofL a) (ofL b) (ps.map e76)) (ofL (bOf a b ps).1, (bOf a b ps).2) := by
  have hs := small_of hz
  have hg := getF_small ps bnd hs
  unfold spec_BoundaryOf.f
  simp only [bnd_lit, toList_ofL]
  refine ev_bind (spec_GetField_ev ps bnd hs (by decide) (by omega)) (ev_bind (spec_KindValid_ev a b ps ha hb hz hn) ?_)
  cases e : kvalid a b ps with
  | false =>
    have hv : bOf a b ps = ([], false) := by unfold bOf; rw [if_neg (by rw [e]; simp)]
    rw [hv]; exact ev_neg (by simp) (ev_eq (ev_some _) rfl)
  | true =>
    refine ev_pos rfl ?_
    by_cases hm : a = multi
    · refine ev_pos hm ?_
      cases e4 : (getF ps bnd).2 with
      | false =>
        have := getF_none ps bnd e4
        have hv : bOf a b ps = ([], false) := by unfold bOf; rw [if_neg (by rw [this]; simp [isBd])]
        rw [hv]; exact ev_neg (by simp) (ev_eq (ev_some _) rfl)
      | true =>
        refine ev_pos rfl (ev_bind (spec_l7Boundary_ev (getF ps bnd).1 (by omega)) ?_)
        cases e3 : isBd (getF ps bnd).1 with
        | true =>
          have hv : bOf a b ps = ((getF ps bnd).1, true) := by unfold bOf; rw [if_pos ⟨e, hm, e3⟩]
          rw [hv]; exact ev_pos rfl (ev_some _)
        | false =>
          have hv : bOf a b ps = ([], false) := by unfold bOf; rw [if_neg (by rw [e3]; simp)]
          rw [hv]; exact ev_neg (by simp) (ev_eq (ev_some _) rfl)
    · have hv : bOf a b ps = ([], false) := by unfold bOf; rw [if_neg (by simp [hm])]
      rw [hv]; exact ev_neg hm (ev_eq (ev_some _) rfl)

def laws_FnExactBoundaryOf.Pure : Prop := ∀ (s0 u0 : ByteArray) (l0 : List S91), s0.size ≤ maxLen → u0.size ≤ maxLen → l0.length ≤ maxLen → (∀ x ∈ l0, x.f0.size ≤ maxLen ∧ x.f1.size ≤ maxLen) → ∃ k, laws_FnExactBoundaryOf.f k s0 u0 l0 = some true
theorem FnExactBoundaryOf : laws_FnExactBoundaryOf.Pure := by
  intro s0 u0 l0 h1 h2 h3 h4
  apply ev_rounds
  obtain ⟨a, b, x, rfl, rfl, rfl, ha, hb, hx, hxl⟩ := kind_open h1 h2 h3 h4
  clear h1 h2 h3 h4
  unfold laws_FnExactBoundaryOf.f
  obtain ⟨v, hv, hv1, hv2⟩ := szKind_ev a b ha hb x hx hxl 1048576 (by omega)
  by_cases h0 : v < 0
  · exact ev_bind hv (ev_pos h0 (ev_some _))
  · have hvv := hv2 (by omega)
    have t1 := toKind_ev a b x (by omega)
    have q1 := eqKind_ev a b x (by omega)
    have i1 := impl_BoundaryOf_ev a b x (by omega) (by omega) (by omega) (by omega)
    have i2 := spec_BoundaryOf_ev a b x (by omega) (by omega) (by omega) (by omega)
    refine ev_bind hv (ev_neg h0 (ev_bind t1 (ev_bind i2 (ev_bind t1 (ev_bind i1 (ev_pos rfl (ev_succ ?_)))))))
    simp only [laws_FnExactBoundaryOf.j0]
    exact ev_neg (by simp) (ev_bind t1 (ev_bind q1 (ev_pos rfl (ev_some _))))

end Go.Proofs.Ytengipddcaookaa.Pure
