/- Proved here: the pure form of the law FnExactJoinParts (the program's JoinParts is the reference's) returns true for all arguments; conditions: none beyond those that the printed statement bears. -/
import Derived.Test.YtengipddcaookaaPFnExactJoinPartsx5
import Derived.Test.YtengipddcaookaaZb
namespace Go.Proofs.Ytengipddcaookaa.Pure
open Go.RowKit Go.Proofs.Ytengipddcaookaa.X Go.Proofs.Ytengipddcaookaa.PFnExactJoinParts Go.Proofs.YtengipddcaookaaW.PrintWords Go.Proofs.YtengipddcaookaaW.PrintLast Go.Proofs.Ytengipddcaookaa.Z
set_option linter.unusedVariables false
set_option linter.unusedSimpArgs false

theorem mem_L {v : ByteArray} {ws : List ByteArray} (h : v ∈ ws) : L v ∈ ws.map L := List.mem_map_of_mem h
theorem small_nat {n : Int} {ws : List Int} (h : n ∈ ws) (m : Nat) (hm : ∀ x ∈ ws, 0 ≤ x ∧ x ≤ (m : Int)) : ∃ k : Nat, n = (k : Int) ∧ k ≤ m := by
  have := hm n h
  exact ⟨n.toNat, by omega, by omega⟩

theorem rdLL_mid {ps p r : List (List Str)} {c : List Str} (h : ps = p ++ c :: r) : rd_L1 (ps.map (List.map ofL)) (p.length : Int) = c.map ofL := by
  unfold rd_L1
  rw [List.getD_eq_getElem?_getD, h]
  simp
/-- How many lines there are, one more counted for each part. -/
def tl : List (List Str) → Nat
  | [] => 0
  | c :: r => c.length + 1 + tl r
theorem tl_append (a b : List (List Str)) : tl (a ++ b) = tl a + tl b := by
  induction a with
  | nil => simp [tl]
  | cons c a ih => simp only [List.cons_append, tl, ih]; omega
theorem tl_len (a : List (List Str)) : a.length ≤ tl a := by
  induction a with
  | nil => simp [tl]
  | cons c a ih => simp only [List.length_cons, tl]; omega
theorem tl_mem {a : List (List Str)} {c : List Str} (h : c ∈ a) : c.length ≤ tl a := by
  induction a with
  | nil => cases h
  | cons d a ih =>
    simp only [tl]
    rcases List.mem_cons.mp h with rfl | h
    · omega
    · have := ih h; omega

/-! Letters and digits, boundaries: the model. -/
def letB (c : UInt8) : Bool := decide (97 ≤ (c.toNat : Int) ∧ (c.toNat : Int) ≤ 122) || decide (65 ≤ (c.toNat : Int) ∧ (c.toNat : Int) ≤ 90)
def digB (c : UInt8) : Bool := decide (48 ≤ (c.toNat : Int) ∧ (c.toNat : Int) ≤ 57)
def alnB (c : UInt8) : Bool := letB c || digB c
def isBd (l : Str) : Bool := decide (1 ≤ l.length) && decide (l.length ≤ 20) && l.all alnB
theorem isBd_len {l : Str} (h : isBd l = true) : l.length ≤ 20 := by
  unfold isBd at h; simp at h; exact h.1.2

theorem impl_isLetter_eq (c : UInt8) : impl_isLetter.f (c.toNat : Int) = some (letB c) := by
  unfold impl_isLetter.f letB
  by_cases h1 : 97 ≤ (c.toNat : Int) <;> by_cases h2 : (c.toNat : Int) ≤ 122 <;> by_cases h3 : 65 ≤ (c.toNat : Int) <;> by_cases h4 : (c.toNat : Int) ≤ 90 <;> simp [h1, h2, h3, h4]

theorem impl_isDigit_eq (c : UInt8) : impl_isDigit.f (c.toNat : Int) = some (digB c) := by
  unfold impl_isDigit.f digB
  by_cases h1 : 48 ≤ (c.toNat : Int) <;> by_cases h2 : (c.toNat : Int) ≤ 57 <;> simp [h1, h2]

theorem impl_isBoundary_1_eq (c : UInt8) : impl_isBoundary_1.f (c.toNat : Int) = some (alnB c) := by
  unfold impl_isBoundary_1.f alnB
  rw [impl_isLetter_eq, impl_isDigit_eq]
  cases letB c <;> simp
theorem impl_allBytes_isBoundary_1_ev (l : Str) (hl : l.length ≤ 1000000000000000) : Ev (fun k => impl_allBytes_isBoundary_1.f k (ofL l)) (l.all alnB) := by
  unfold impl_allBytes_isBoundary_1.f
  rw [size_ofL]
  refine ev_eq (run_start (xs := l) (F := fun k (_ : Unit) i => impl_allBytes_isBoundary_1.l0 k (ofL l) (l.length : Int) i) (st := fun _ c => if alnB c = true then .inr () else .inl false) (fin := fun _ => true) (s := ()) (fun _ _ => True) trivial ?_ ?_) ?_
  · intro p c r s h _
    have hz := len_mid h
    have e1 := bt_ofL_mid h
    have w1 : wrap64 ((p.length : Int) + 1) = (p.length : Int) + 1 := wrap_id (by omega) (by omega)
    simp only [impl_allBytes_isBoundary_1.l0, e1, w1, size_ofL]
    clear w1 e1
    cases e : alnB c with
    | true =>
      simp only [if_true]
      refine ⟨(fun v hv => by cases hv), fun s' hs => ⟨trivial, fun v hv => ?_⟩⟩
      refine ev_pos (by omega) (ev_pos (by omega) (ev_pos (by omega) (ev_bind0 (impl_isBoundary_1_eq c) (ev_pos e hv))))
    | false =>
      refine ⟨(fun v hv => ?_), fun s' hs => by simp at hs⟩
      simp only [Bool.false_eq_true, if_false, Sum.inl.injEq] at hv
      subst hv
      refine ev_pos (by omega) (ev_pos (by omega) (ev_pos (by omega) (ev_bind0 (impl_isBoundary_1_eq c) (ev_neg (by rw [e]; simp) (ev_some _)))))
  · intro s _
    simp only [impl_allBytes_isBoundary_1.l0]
    exact ev_neg (by omega) (ev_some _)
  · clear hl
    induction l with
    | nil => rfl
    | cons c r ih =>
      unfold run
      cases e : alnB c with
      | true => simp [e, ih]
      | false => simp [e]
theorem impl_isBoundary_ev (l : Str) (hl : l.length ≤ 1000000000000000) : Ev (fun k => impl_isBoundary.f k (ofL l)) (isBd l) := by
  unfold impl_isBoundary.f isBd
  rw [size_ofL]
  by_cases h1 : 1 ≤ l.length
  · rw [decide_eq_true h1]
    refine ev_pos (by omega) ?_
    by_cases h2 : l.length ≤ 20
    · rw [decide_eq_true h2]
      exact ev_pos (by omega) (ev_bind (impl_allBytes_isBoundary_1_ev l hl) (ev_some _))
    · rw [decide_eq_false h2]
      exact ev_neg (by omega) (ev_some _)
  · rw [decide_eq_false h1]
    exact ev_neg (by omega) (ev_some _)

theorem spec_l1Letter_eq (c : UInt8) : spec_l1Letter.f (c.toNat : Int) = some (alnB c) := by
  unfold spec_l1Letter.f alnB letB digB
  by_cases h1 : 97 ≤ (c.toNat : Int) <;> by_cases h2 : (c.toNat : Int) ≤ 122 <;> by_cases h3 : 65 ≤ (c.toNat : Int) <;> by_cases h4 : (c.toNat : Int) ≤ 90 <;> by_cases h5 : 48 ≤ (c.toNat : Int) <;> by_cases h6 : (c.toNat : Int) ≤ 57 <;> simp [h1, h2, h3, h4, h5, h6]
theorem spec_l7Boundary_ev (l : Str) (hl : l.length ≤ 1000000000000000) : Ev (fun k => spec_l7Boundary.f k (ofL l)) (isBd l) := by
  unfold spec_l7Boundary.f
  have hj : Ev (fun k => spec_l7Boundary.j1 k (ofL l) (0 : Int) false) (decide (1 ≤ l.length) && decide (l.length ≤ 20)) := by
    refine ev_succ ?_
    simp only [spec_l7Boundary.j1, size_ofL]
    by_cases h1 : 1 ≤ l.length
    · rw [decide_eq_true h1]
      refine ev_neg (by simp) (ev_pos (by omega) (ev_eq (ev_some _) ?_))
      rw [Bool.true_and]
      by_cases h2 : l.length ≤ 20
      · rw [decide_eq_true h2]; exact decide_eq_true (by omega)
      · rw [decide_eq_false h2]; exact decide_eq_false (by omega)
    · rw [decide_eq_false h1]
      exact ev_neg (by simp) (ev_neg (by omega) (ev_some _))
  have hj' : ∀ i : Int, Ev (fun k => spec_l7Boundary.j1 k (ofL l) i false) (decide (1 ≤ l.length) && decide (l.length ≤ 20)) := by
    intro i
    obtain ⟨K, hK⟩ := hj
    refine ⟨K + 1, fun k hk => ?_⟩
    have := hK k (by omega)
    obtain ⟨m, rfl⟩ : ∃ m, k = m + 1 := ⟨k - 1, by omega⟩
    simp only [spec_l7Boundary.j1] at this ⊢
    exact this
  refine ev_eq (run_start (xs := l) (F := fun k (_ : Nat) i => spec_l7Boundary.l0 k (ofL l) i) (st := fun n c => if n ≤ 20 then (if alnB c = true then .inr (n + 1) else .inl false) else .inl (decide (1 ≤ l.length) && decide (l.length ≤ 20))) (fin := fun _ => decide (1 ≤ l.length) && decide (l.length ≤ 20)) (s := 0) (fun p n => n = p.length) rfl ?_ ?_) ?_
  · intro p c r n h hn
    subst hn
    have hz := len_mid h
    have e1 := bt_ofL_mid h
    have w1 : wrap64 ((p.length : Int) + 1) = (p.length : Int) + 1 := wrap_id (by omega) (by omega)
    by_cases h20 : p.length ≤ 20
    · simp only [if_pos h20]
      have hd : decide ((p.length : Int) ≤ 20) = true := decide_eq_true (by omega)
      simp only [spec_l7Boundary.l0, hd, size_ofL]
      cases e : alnB c with
      | true =>
        simp only [if_true]
        refine ⟨(fun v hv => by cases hv), fun s' hs => ⟨?_, fun v hv => ?_⟩⟩
        · cases hs; simp
        · refine ev_pos (by omega) (ev_succ ?_)
          simp only [spec_l7Boundary.j1, e1, w1, size_ofL]
          clear w1 e1
          exact ev_pos trivial (ev_pos (by omega) (ev_pos (by omega) (ev_bind0 (spec_l1Letter_eq c) (ev_pos e hv))))
      | false =>
        refine ⟨(fun v hv => ?_), fun s' hs => by simp at hs⟩
        simp only [Bool.false_eq_true, if_false, Sum.inl.injEq] at hv
        subst hv
        refine ev_pos (by omega) (ev_succ ?_)
        simp only [spec_l7Boundary.j1, e1, w1, size_ofL]
        clear w1 e1
        exact ev_pos trivial (ev_pos (by omega) (ev_pos (by omega) (ev_bind0 (spec_l1Letter_eq c) (ev_neg (by rw [e]; simp) (ev_some _)))))
    · simp only [if_neg h20]
      have hd : decide ((p.length : Int) ≤ 20) = false := decide_eq_false (by omega)
      refine ⟨(fun v hv => ?_), fun s' hs => by cases hs⟩
      cases hv
      simp only [spec_l7Boundary.l0, hd, size_ofL]
      clear w1 e1
      exact ev_pos (by omega) (hj' _)
  · intro s hs
    subst hs
    simp only [spec_l7Boundary.l0, size_ofL]
    exact ev_neg (by omega) (hj' _)
  · unfold isBd
    have key : ∀ (r : Str) (n : Nat), n + r.length = l.length → run (fun n c => if n ≤ 20 then (if alnB c = true then .inr (n + 1) else .inl false) else .inl (decide (1 ≤ l.length) && decide (l.length ≤ 20))) (fun _ => decide (1 ≤ l.length) && decide (l.length ≤ 20)) r n = (decide (1 ≤ l.length) && decide (l.length ≤ 20) && r.all alnB) := by
      intro r
      induction r with
      | nil => intro n _; simp [run]
      | cons c r ih =>
        intro n hn
        simp only [List.length_cons] at hn
        unfold run
        by_cases h20 : n ≤ 20
        · simp only [if_pos h20]
          cases e : alnB c with
          | true => simp [e, ih (n + 1) (by omega)]
          | false => simp [e]
        · simp only [if_neg h20]
          have : decide (l.length ≤ 20) = false := decide_eq_false (by omega)
          simp [this]
    exact key l 0 (by omega)

theorem slices_Index_ev (ls : List Str) (x : Str) (hn : ls.length ≤ 1000000000000000) : ∃ i : Int, Ev (fun k => slices_Index_string_string.f k (ls.map ofL) (ofL x)) i ∧ (i = -1 ∨ 0 ≤ i) ∧ (0 ≤ i ↔ x ∈ ls) := by
  unfold slices_Index_string_string.f
  rw [List.length_map]
  refine ⟨_, run_start (xs := ls) (F := fun k (_ : Nat) i => slices_Index_string_string.l0 k (ls.map ofL) (ofL x) (ls.length : Int) i) (st := fun n c => if x = c then .inl (n : Int) else .inr (n + 1)) (fin := fun _ => (-1 : Int)) (s := 0) (fun p n => n = p.length) rfl ?_ ?_, ?_, ?_⟩
  · intro p c r n h hn
    subst hn
    have hz := len_mid h
    have e1 := rdOf_ofL h
    have w1 : wrap64 ((p.length : Int) + 1) = (p.length : Int) + 1 := wrap_id (by omega) (by omega)
    simp only [slices_Index_string_string.l0, e1, w1, List.length_map, toList_ofL]
    clear w1 e1
    by_cases e : x = c
    · simp only [if_pos e]
      refine ⟨(fun v hv => ?_), fun s' hs => by cases hs⟩
      cases hv
      exact ev_pos (by omega) (ev_pos (by omega) (ev_pos (by omega) (ev_some _)))
    · simp only [if_neg e]
      refine ⟨(fun v hv => by cases hv), fun s' hs => ⟨?_, fun v hv => ?_⟩⟩
      · cases hs; simp
      · exact ev_pos (by omega) (ev_pos (by omega) (ev_pos (by omega) hv))
  · intro s _
    simp only [slices_Index_string_string.l0]
    exact ev_neg (by omega) (ev_some _)
  · have key : ∀ (r : List Str) (n : Nat), run (fun (n : Nat) c => if x = c then .inl (n : Int) else .inr (n + 1)) (fun _ => (-1 : Int)) r n = -1 ∨ 0 ≤ run (fun (n : Nat) c => if x = c then .inl (n : Int) else .inr (n + 1)) (fun _ => (-1 : Int)) r n := by
      intro r
      induction r with
      | nil => intro n; exact Or.inl rfl
      | cons c r ih =>
        intro n
        unfold run
        by_cases e : x = c
        · simp only [if_pos e]; exact Or.inr (by omega)
        · simp only [if_neg e]; exact ih (n + 1)
    exact key ls 0
  · have key : ∀ (r : List Str) (n : Nat), 0 ≤ run (fun (n : Nat) c => if x = c then .inl (n : Int) else .inr (n + 1)) (fun _ => (-1 : Int)) r n ↔ x ∈ r := by
      intro r
      induction r with
      | nil => intro n; simp [run]
      | cons c r ih =>
        intro n
        unfold run
        by_cases e : x = c
        · simp only [if_pos e]; simp [e]
        · simp only [if_neg e]; rw [ih]; simp [e]
    exact key ls 0
theorem slices_Contains_ev (ls : List Str) (x : Str) (hn : ls.length ≤ 1000000000000000) : Ev (fun k => slices_Contains_string_string.f k (ls.map ofL) (ofL x)) (decide (x ∈ ls)) := by
  obtain ⟨i, hi, h1, h2⟩ := slices_Index_ev ls x hn
  unfold slices_Contains_string_string.f
  refine ev_bind hi (ev_eq (ev_some _) ?_)
  by_cases h : x ∈ ls
  · rw [decide_eq_true h]; exact decide_eq_true (h2.mpr h)
  · rw [decide_eq_false h]; exact decide_eq_false (fun hh => h (h2.mp hh))

/-! Lines that divide: the model. -/
def dash (b : Str) : Str := [45, 45] ++ b
def fin2 (b : Str) : Str := [45, 45] ++ b ++ [45, 45]
def dv (ls : List Str) (b : Str) : Bool := decide (dash b ∈ ls) || decide (fin2 b ∈ ls)
def lk (l b : Str) : Bool := decide (l = dash b) || decide (l = fin2 b)
theorem dv_lk (ls : List Str) (b : Str) : dv ls b = ls.any (fun l => lk l b) := by
  unfold dv
  rw [Bool.eq_iff_iff]
  simp only [lk, Bool.or_eq_true, decide_eq_true_iff, List.any_eq_true]
  constructor
  · rintro (h | h)
    · exact ⟨_, h, Or.inl rfl⟩
    · exact ⟨_, h, Or.inr rfl⟩
  · rintro ⟨x, h, rfl | rfl⟩
    · exact Or.inl h
    · exact Or.inr h
theorem dash_ne_fin (b : Str) : dash b ≠ fin2 b := by
  unfold dash fin2
  intro h
  have := congrArg List.length h
  simp at this
theorem dash_ofL (b : Str) : (⟨#[45, 45]⟩ : ByteArray) ++ ofL b = ofL (dash b) := by rw [mk_ofL, lit_list, ofL_append]; rfl
theorem fin_ofL (b : Str) : ofL (dash b) ++ (⟨#[45, 45]⟩ : ByteArray) = ofL (fin2 b) := by rw [mk_ofL, lit_list, ofL_append]; rfl
theorem dash_len (b : Str) : (dash b).length = b.length + 2 := by unfold dash; simp
theorem fin_len (b : Str) : (fin2 b).length = b.length + 4 := by unfold fin2; simp

theorem impl_divides_ev (ls : List Str) (b : Str) (hb : b.length ≤ 1000000000000000) (hn : ls.length ≤ 1000000000000000) : Ev (fun k => impl_divides.f k (ls.map ofL) (ofL b)) (dv ls b) := by
  unfold impl_divides.f dv
  have hd := dash_len b
  simp only [dash_ofL, fin_ofL, size_ofL]
  refine ev_pos (by omega) (ev_bind (slices_Contains_ev ls (dash b) hn) ?_)
  cases e : decide (dash b ∈ ls) with
  | true => exact ev_pos rfl (ev_some _)
  | false => exact ev_neg (by simp) (ev_pos (by omega) (ev_bind (slices_Contains_ev ls (fin2 b) hn) (ev_some _)))

theorem spec_l7Looks_eq (l b : Str) (hb : b.length ≤ 1000000000000000) : spec_l7Looks.f (ofL l) (ofL b) = some (lk l b) := by
  unfold spec_l7Looks.f lk
  have hd := dash_len b
  simp only [dash_ofL, fin_ofL, size_ofL, toList_ofL]
  rw [if_pos (by omega)]
  by_cases h : l = dash b
  · rw [if_pos h, decide_eq_true h]; rfl
  · rw [if_neg h, decide_eq_false h, if_pos (by omega)]
    simp only [Bool.false_or]
    congr 1
    rw [Bool.eq_iff_iff]; simp

/-! Parts joined: the model. -/
def jb (b : Str) : List (List Str) → List Str
  | [] => []
  | c :: r => dash b :: (c ++ jb b r)
def jR (b : Str) (ps : List (List Str)) : Option (List Str) := if isBd b = true ∧ ps ≠ [] ∧ ps.any (fun c => dv c b) = false then some (jb b ps ++ [fin2 b]) else none
def jres (o : Option (List Str)) : List ByteArray × Bool := match o with
  | none => ([], false)
  | some l => (l.map ofL, true)
theorem jb_len (b : Str) (ps : List (List Str)) : (jb b ps).length = tl ps := by
  induction ps with
  | nil => rfl
  | cons c r ih => simp only [jb, tl, List.length_cons, List.length_append, ih]; omega
theorem jb_append (b : Str) (a c : List (List Str)) : jb b (a ++ c) = jb b a ++ jb b c := by
  induction a with
  | nil => rfl
  | cons d a ih => simp [jb, ih]
theorem jR_bad1 {b : Str} (ps : List (List Str)) (h : isBd b = false) : jR b ps = none := by
  unfold jR; rw [if_neg (by rw [h]; simp)]
theorem jR_bad2 (b : Str) : jR b [] = none := by
  unfold jR; rw [if_neg (by simp)]
theorem jR_val {b : Str} {ps : List (List Str)} (h1 : isBd b = true) (h2 : ps ≠ []) : jres (jR b ps) = if ps.any (fun c => dv c b) = true then ([], false) else ((jb b ps ++ [fin2 b]).map ofL, true) := by
  unfold jR
  cases e : ps.any (fun c => dv c b) with
  | true => rw [if_neg (by simp), if_pos rfl]; rfl
  | false => rw [if_pos ⟨h1, h2, rfl⟩, if_neg (by simp)]; rfl

theorem impl_JoinParts_1_ev (ls : List Str) (b : Str) (hb : b.length ≤ 1000000000000) (hn : ls.length ≤ 1000000000000) : Ev (fun k => impl_JoinParts_1.f k (ls.map ofL) (ofL b)) (dv ls b) := by
  unfold impl_JoinParts_1.f
  exact ev_bind (impl_divides_ev ls b (by omega) (by omega)) (ev_some _)
theorem impl_ContainsParts_ev (ps : List (List Str)) (b : Str) (hb : b.length ≤ 1000000000000) (hn : tl ps ≤ 1000000000000) : Ev (fun k => slices_ContainsFunc_string_string_JoinParts_1.f k (ps.map (List.map ofL)) (ofL b)) (ps.any (fun c => dv c b)) := by
  unfold slices_ContainsFunc_string_string_JoinParts_1.f slices_IndexFunc_string_string_JoinParts_1.f
  have hl := tl_len ps
  have key : ∀ (r : List (List Str)) (n : Nat), decide (run (fun (n : Nat) c => if dv c b = true then .inl (n : Int) else .inr (n + 1)) (fun _ => (-1 : Int)) r n ≥ 0) = r.any (fun c => dv c b) := by
    intro r
    induction r with
    | nil => intro n; rfl
    | cons c r ih =>
      intro n
      unfold run
      cases e : dv c b with
      | true => simp [e]
      | false => simp only [Bool.false_eq_true, if_false, ih, List.any_cons, e, Bool.false_or]
  rw [List.length_map]
  refine ev_bind (run_start (xs := ps) (F := fun k (_ : Nat) i => slices_IndexFunc_string_string_JoinParts_1.l0 k (ps.map (List.map ofL)) (ps.length : Int) i (ofL b)) (st := fun n c => if dv c b = true then .inl (n : Int) else .inr (n + 1)) (fin := fun _ => (-1 : Int)) (s := 0) (fun p n => n = p.length) rfl ?_ ?_) (ev_eq (ev_some _) (key ps 0))
  · intro p c r n h hn'
    subst hn'
    have hz := len_mid h
    have hc : c.length ≤ tl ps := tl_mem (by rw [h]; simp)
    have e1 := rdLL_mid h
    have w1 : wrap64 ((p.length : Int) + 1) = (p.length : Int) + 1 := wrap_id (by omega) (by omega)
    simp only [slices_IndexFunc_string_string_JoinParts_1.l0, e1, w1, List.length_map]
    clear w1 e1
    have hd := impl_JoinParts_1_ev c b hb (by omega)
    cases e : dv c b with
    | true =>
      simp only [if_true]
      rw [e] at hd
      refine ⟨(fun v hv => ?_), fun s' hs => by cases hs⟩
      cases hv
      exact ev_pos (by omega) (ev_pos (by omega) (ev_pos (by omega) (ev_bind hd (ev_pos rfl (ev_some _)))))
    | false =>
      rw [e] at hd
      refine ⟨(fun v hv => by cases hv), fun s' hs => ⟨?_, fun v hv => ?_⟩⟩
      · cases hs; simp
      · exact ev_pos (by omega) (ev_pos (by omega) (ev_pos (by omega) (ev_bind hd (ev_neg (by simp) hv))))
  · intro s _
    simp only [slices_IndexFunc_string_string_JoinParts_1.l0]
    exact ev_neg (by omega) (ev_some _)
theorem impl_JoinParts_ev (ps : List (List Str)) (b : Str) (hb : b.length ≤ 1000000000000) (hn : tl ps ≤ 1000000000000) : Ev (fun k => impl_JoinParts.f k (ps.map (List.map ofL)) (ofL b)) (jres (jR b ps)) := by
  have hl := tl_len ps
  have hd := dash_len b
  have hbad : ∀ ps : List (List Str), Ev (fun k => impl_JoinParts.j0 k (ps.map (List.map ofL)) true (ofL b)) (jres none) := by
    intro ps
    refine ev_succ ?_
    simp only [impl_JoinParts.j0]
    exact ev_pos trivial (ev_some _)
  unfold impl_JoinParts.f
  refine ev_bind (impl_isBoundary_ev b (by omega)) ?_
  unfold jR
  cases e1 : isBd b with
  | false =>
    rw [if_neg (by simp)]
    exact ev_neg (by simp) (hbad ps)
  | true =>
    refine ev_pos rfl ?_
    rw [List.length_map]
    by_cases e2 : ps = []
    · rw [if_neg (by simp [e2])]
      exact ev_pos (by simp [e2]) (hbad ps)
    · have h2 : ps.length ≠ 0 := by rw [ne_eq, List.length_eq_zero_iff]; exact e2
      refine ev_neg (by omega) (ev_bind (impl_ContainsParts_ev ps b hb hn) ?_)
      cases e3 : ps.any (fun c => dv c b) with
      | true =>
        rw [if_neg (by simp)]
        exact hbad ps
      | false =>
        rw [if_pos ⟨rfl, e2, rfl⟩]
        refine ev_succ ?_
        simp only [impl_JoinParts.j0, Bool.false_eq_true, if_false, List.length_map]
        refine ev_eq (run_start (xs := ps) (F := fun k (out : List Str) i => impl_JoinParts.l0 k (out.map ofL) (ps.map (List.map ofL)) (ps.length : Int) i (ofL b)) (st := fun out c => .inr (out ++ (dash b :: c))) (fin := fun out => jres (some (out ++ [fin2 b]))) (s := []) (fun p out => out = jb b p) rfl ?_ ?_) ?_
        · intro p c r out h ho
          have hz := len_mid h
          have e1 := rdLL_mid h
          have hlen : out.length = tl p := by rw [ho, jb_len]
          have htl : tl ps = tl p + (c.length + 1 + tl r) := by rw [h, tl_append]; rfl
          have w1 : wrap64 ((p.length : Int) + 1) = (p.length : Int) + 1 := wrap_id (by omega) (by omega)
          simp only [impl_JoinParts.l0, e1, w1, List.length_map, dash_ofL, size_ofL, Option.bind_some, List.length_append, List.length_cons, List.length_nil]
          clear w1 e1
          refine ⟨(fun v hv => by cases hv), fun s' hs => ⟨?_, fun v hv => ?_⟩⟩
          · cases hs; rw [ho, jb_append]; simp [jb]
          · cases hs
            refine ev_pos (by omega) (ev_pos (by omega) (ev_pos (by omega) (ev_pos (by omega) (ev_pos (by omega) (ev_pos (by omega) ?_)))))
            have e5 : out.map ofL ++ [ofL (dash b)] ++ c.map ofL = (out ++ (dash b :: c)).map ofL := by simp
            rw [e5]
            exact hv
        · intro out ho
          have hlen : out.length = tl ps := by rw [ho, jb_len]
          have hd4 := fin_len b
          simp only [impl_JoinParts.l0, dash_ofL, fin_ofL, size_ofL, List.length_map]
          refine ev_neg (by omega) (ev_pos (by omega) (ev_pos (by omega) (ev_pos (by omega) (ev_eq (ev_some _) ?_))))
          simp [jres]
        · have key : ∀ (r : List (List Str)) (out : List Str), run (fun out c => .inr (out ++ (dash b :: c))) (fun out => jres (some (out ++ [fin2 b]))) r out = jres (some (out ++ jb b r ++ [fin2 b])) := by
            intro r
            induction r with
            | nil => intro out; simp [run, jb]
            | cons c r ih => intro out; unfold run; simp only; rw [ih]; simp [jb]
          exact key ps []

theorem spec_JoinParts_l1 (ps : List (List Str)) (b : Str) (hb : b.length ≤ 1000000000000) (hn : tl ps ≤ 1000000000000) (p r : List (List Str)) (c : List Str) (h : ps = p ++ c :: r) (out : List Str) (ho : out.length ≤ tl p + 1) (V : List ByteArray × Bool)
    (hV : c.any (fun l => lk l b) = false → Ev (fun k => spec_JoinParts.l0 k (ps.map (List.map ofL)) (ofL b) ((out ++ c).map ofL) ((p.length : Int) + 1)) V) :
    Ev (fun k => spec_JoinParts.l1 k (ps.map (List.map ofL)) (ofL b) (out.map ofL) (p.length : Int) 0) (if c.any (fun l => lk l b) = true then ([], false) else V) := by
  have hz := len_mid h
  have hl := tl_len ps
  have e1 := rdLL_mid h
  have htl : tl ps = tl p + (c.length + 1 + tl r) := by rw [h, tl_append]; rfl
  have w0 : wrap64 ((p.length : Int) + 1) = (p.length : Int) + 1 := wrap_id (by omega) (by omega)
  refine ev_eq (run_start (xs := c) (F := fun k (o : List Str) i => spec_JoinParts.l1 k (ps.map (List.map ofL)) (ofL b) (o.map ofL) (p.length : Int) i) (st := fun o l => if lk l b = true then .inl ([], false) else .inr (o ++ [l])) (fin := fun _ => V) (s := out) (fun q o => o = out ++ q ∧ q.any (fun l => lk l b) = false) ⟨by simp, rfl⟩ ?_ ?_) ?_
  · rintro q l s o hc ⟨ho2, hq⟩
    have hzc := len_mid hc
    have e2 := rdOf_ofL hc
    have hlo : o.length = out.length + q.length := by rw [ho2, List.length_append]
    have w1 : wrap64 ((q.length : Int) + 1) = (q.length : Int) + 1 := wrap_id (by omega) (by omega)
    simp only [spec_JoinParts.l1, e1, e2, w1, List.length_map]
    clear w1 e2 w0
    have hk := spec_l7Looks_eq l b (by omega)
    cases e : lk l b with
    | true =>
      rw [e] at hk
      simp only [if_true]
      refine ⟨(fun v hv => ?_), fun s' hs => by cases hs⟩
      cases hv
      exact ev_pos (by omega) (ev_pos (by omega) (ev_pos (by omega) (ev_pos (by omega) (ev_bind0 hk (ev_pos rfl (ev_some _))))))
    | false =>
      rw [e] at hk
      refine ⟨(fun v hv => by cases hv), fun s' hs => ⟨?_, fun v hv => ?_⟩⟩
      · cases hs; exact ⟨by rw [ho2]; simp, by simp [List.any_append, hq, e]⟩
      · cases hs
        refine ev_pos (by omega) (ev_pos (by omega) (ev_pos (by omega) (ev_pos (by omega) (ev_bind0 hk (ev_neg (by simp) (ev_pos (by omega) ?_))))))
        have e5 : o.map ofL ++ [ofL l] = (o ++ [l]).map ofL := by simp
        rw [e5]
        exact hv
  · rintro o ⟨ho2, hq⟩
    simp only [spec_JoinParts.l1, e1, w0, List.length_map]
    clear w0
    rw [ho2]
    exact ev_pos (by omega) (ev_pos (by omega) (ev_neg (by omega) (hV hq)))
  · have key : ∀ (r : List Str) (o : List Str), run (fun o l => if lk l b = true then .inl ([], false) else .inr (o ++ [l])) (fun _ => V) r o = if r.any (fun l => lk l b) = true then ([], false) else V := by
      intro r
      induction r with
      | nil => intro o; rfl
      | cons c r ih =>
        intro o
        unfold run
        cases e : lk c b with
        | true => simp [e]
        | false => simp only [Bool.false_eq_true, if_false, ih, List.any_cons, e, Bool.false_or]
    exact key c out
theorem spec_JoinParts_l0 (ps : List (List Str)) (b : Str) (hb : b.length ≤ 1000000000000) (hn : tl ps ≤ 1000000000000) (r : List (List Str)) : ∀ (p : List (List Str)), ps = p ++ r → Ev (fun k => spec_JoinParts.l0 k (ps.map (List.map ofL)) (ofL b) ((jb b p).map ofL) (p.length : Int)) (if r.any (fun c => dv c b) = true then ([], false) else ((jb b ps ++ [fin2 b]).map ofL, true)) := by
  have hd := dash_len b
  have hd4 := fin_len b
  induction r with
  | nil =>
    intro p h
    rw [List.append_nil] at h
    subst h
    have hlen := jb_len b ps
    refine ev_succ ?_
    simp only [spec_JoinParts.l0, dash_ofL, fin_ofL, size_ofL, List.length_map]
    refine ev_neg (by omega) (ev_pos (by omega) (ev_pos (by omega) (ev_pos (by omega) (ev_eq (ev_some _) ?_))))
    simp
  | cons c r ih =>
    intro p h
    have hz := len_mid h
    have hl := tl_len ps
    have hlen := jb_len b p
    have htl : tl ps = tl p + (c.length + 1 + tl r) := by rw [h, tl_append]; rfl
    have h1 := ih (p ++ [c]) (by rw [h]; simp)
    rw [len_snoc] at h1
    have e5 : jb b (p ++ [c]) = jb b p ++ [dash b] ++ c := by rw [jb_append]; simp [jb]
    rw [e5] at h1
    have h2 := spec_JoinParts_l1 ps b hb hn p r c h (jb b p ++ [dash b]) (by rw [List.length_append, hlen]; simp) _ (fun _ => h1)
    refine ev_succ ?_
    simp only [spec_JoinParts.l0, dash_ofL, size_ofL, List.length_map]
    have e6 : (jb b p).map ofL ++ [ofL (dash b)] = (jb b p ++ [dash b]).map ofL := by simp
    rw [e6]
    refine ev_pos (by omega) (ev_pos (by omega) (ev_pos (by omega) (ev_eq h2 ?_)))
    rw [← dv_lk, List.any_cons]
    cases dv c b <;> simp
theorem spec_JoinParts_ev (ps : List (List Str)) (b : Str) (hb : b.length ≤ 1000000000000) (hn : tl ps ≤ 1000000000000) : Ev (fun k => spec_JoinParts.f k (ps.map (List.map ofL)) (ofL b)) (jres (jR b ps)) := by
  have hbad : Ev (fun k => spec_JoinParts.j0 k (ps.map (List.map ofL)) (ofL b) [] true) (jres none) := by
    refine ev_succ ?_
    simp only [spec_JoinParts.j0]
    exact ev_pos trivial (ev_some _)
  unfold spec_JoinParts.f
  simp only [Option.bind_some, List.length_map]
  refine ev_bind (spec_l7Boundary_ev b (by omega)) ?_
  cases e1 : isBd b with
  | false =>
    rw [jR_bad1 ps e1]
    exact ev_neg (by simp) hbad
  | true =>
    refine ev_pos rfl ?_
    by_cases e2 : ps = []
    · subst e2
      rw [jR_bad2]
      exact hbad
    · have h2 : ps.length ≠ 0 := by rw [ne_eq, List.length_eq_zero_iff]; exact e2
      have : ((ps.length : Int) == 0) = false := by rw [beq_eq_false_iff_ne]; omega
      rw [this, jR_val e1 e2]
      refine ev_succ ?_
      simp only [spec_JoinParts.j0]
      exact ev_neg (by simp) (spec_JoinParts_l0 ps b hb hn ps [] rfl)

/-! Parts split: the model. The state: none, or the parts that are whole and the one that is open. -/
def sp (b : Str) : List Str → Option (List (List Str) × List Str) → Option (List (List Str))
  | [], _ => none
  | l :: r, none => if l = dash b then sp b r (some ([], [])) else sp b r none
  | l :: r, some (q, c) => if l = dash b then sp b r (some (q ++ [c], [])) else if l = fin2 b then some (q ++ [c]) else sp b r (some (q, c ++ [l]))
def spR (b : Str) (ls : List Str) : Option (List (List Str)) := if isBd b = true then sp b ls none else none
def spres (o : Option (List (List Str))) : List (List ByteArray) × Bool := match o with
  | none => ([], false)
  | some l => (l.map (List.map ofL), true)
def spSt (b : Str) (s : Option (List (List Str) × List Str)) (l : Str) : (List (List ByteArray) × Bool) ⊕ Option (List (List Str) × List Str) := match s with
  | none => if l = dash b then .inr (some ([], [])) else .inr none
  | some (q, c) => if l = dash b then .inr (some (q ++ [c], [])) else if l = fin2 b then .inl (spres (some (q ++ [c]))) else .inr (some (q, c ++ [l]))
theorem sp_run (b : Str) (r : List Str) : ∀ s, run (spSt b) (fun _ => spres none) r s = spres (sp b r s) := by
  induction r with
  | nil => intro s; rfl
  | cons l r ih =>
    intro s
    unfold run
    cases s with
    | none =>
      simp only [spSt, sp]
      by_cases h : l = dash b
      · simp only [if_pos h, ih]
      · simp only [if_neg h, ih]
    | some s =>
      obtain ⟨q, c⟩ := s
      simp only [spSt, sp]
      by_cases h : l = dash b
      · simp only [if_pos h, ih]
      · by_cases h2 : l = fin2 b
        · simp only [if_neg h, if_pos h2]
        · simp only [if_neg h, if_neg h2, ih]
def spSize : Option (List (List Str) × List Str) → Nat
  | none => 0
  | some (q, c) => q.length + 1 + c.length
/-- What is split is no longer than what came in. -/
theorem sp_size (b : Str) (r : List Str) : ∀ (s : Option (List (List Str) × List Str)) (o : List (List Str)), sp b r s = some o → tl o + 1 ≤ r.length + (match s with
    | none => 0
    | some (q, c) => tl q + 1 + c.length) ∧ o ≠ [] := by
  induction r with
  | nil => intro s o h; cases h
  | cons l r ih =>
    intro s o h
    simp only [List.length_cons]
    cases s with
    | none =>
      simp only [sp] at h ⊢
      by_cases h1 : l = dash b
      · rw [if_pos h1] at h
        obtain ⟨h2, h3⟩ := ih _ _ h
        simp only [tl, List.length_nil] at h2
        exact ⟨by omega, h3⟩
      · rw [if_neg h1] at h
        obtain ⟨h2, h3⟩ := ih _ _ h
        simp only at h2
        exact ⟨by omega, h3⟩
    | some s =>
      obtain ⟨q, c⟩ := s
      simp only [sp] at h ⊢
      by_cases h1 : l = dash b
      · rw [if_pos h1] at h
        obtain ⟨h2, h3⟩ := ih _ _ h
        simp only [tl_append, tl, List.length_nil] at h2
        exact ⟨by omega, h3⟩
      · rw [if_neg h1] at h
        by_cases h4 : l = fin2 b
        · rw [if_pos h4] at h
          cases h
          simp only [tl_append, tl]
          exact ⟨by omega, by simp⟩
        · rw [if_neg h4] at h
          obtain ⟨h2, h3⟩ := ih _ _ h
          simp only [List.length_append, List.length_cons, List.length_nil] at h2
          exact ⟨by omega, h3⟩
/-- No part holds a line that divides. -/
theorem sp_clean (b : Str) (r : List Str) : ∀ (s : Option (List (List Str) × List Str)) (o : List (List Str)), sp b r s = some o → (∀ q c, s = some (q, c) → (q.any (fun x => dv x b) = false ∧ dv c b = false)) → o.any (fun x => dv x b) = false := by
  induction r with
  | nil => intro s o h; cases h
  | cons l r ih =>
    intro s o h hs
    have hnil : dv [] b = false := by unfold dv; simp
    cases s with
    | none =>
      simp only [sp] at h
      by_cases h1 : l = dash b
      · rw [if_pos h1] at h
        exact ih _ _ h (fun q c e => by cases e; exact ⟨rfl, hnil⟩)
      · rw [if_neg h1] at h
        exact ih _ _ h (fun q c e => by cases e)
    | some s =>
      obtain ⟨q, c⟩ := s
      obtain ⟨hq, hc⟩ := hs q c rfl
      simp only [sp] at h
      have hqc : (q ++ [c]).any (fun x => dv x b) = false := by rw [List.any_append, hq]; simp [hc]
      by_cases h1 : l = dash b
      · rw [if_pos h1] at h
        exact ih _ _ h (fun q' c' e => by cases e; exact ⟨hqc, hnil⟩)
      · rw [if_neg h1] at h
        by_cases h4 : l = fin2 b
        · rw [if_pos h4] at h
          cases h
          exact hqc
        · rw [if_neg h4] at h
          refine ih _ _ h (fun q' c' e => by
            cases e
            refine ⟨hq, ?_⟩
            rw [dv_lk] at hc ⊢
            rw [List.any_append, hc]
            simp [lk, h1, h4])
/-- What is joined is split again. -/
theorem sp_part (b : Str) (c : List Str) : ∀ (rest : List Str) (q : List (List Str)) (d : List Str), dv c b = false → sp b (c ++ rest) (some (q, d)) = sp b rest (some (q, d ++ c)) := by
  induction c with
  | nil => intro rest q d _; simp
  | cons l c ih =>
    intro rest q d h
    rw [dv_lk, List.any_cons, Bool.or_eq_false_iff, ← dv_lk] at h
    obtain ⟨h1, h2⟩ := h
    simp only [lk, Bool.or_eq_false_iff, decide_eq_false_iff_not] at h1
    rw [List.cons_append, sp, if_neg h1.1, if_neg h1.2, ih rest q (d ++ [l]) h2]
    simp
theorem sp_jb (b : Str) (ps : List (List Str)) : ∀ (q : List (List Str)) (d : List Str) (rest : List Str), ps.any (fun x => dv x b) = false → sp b (jb b ps ++ fin2 b :: rest) (some (q, d)) = some (q ++ [d] ++ ps) := by
  induction ps with
  | nil =>
    intro q d rest _
    simp only [jb, List.nil_append, sp]
    rw [if_neg (fun h => dash_ne_fin b h.symm), if_pos trivial]
    simp
  | cons c r ih =>
    intro q d rest h
    rw [List.any_cons, Bool.or_eq_false_iff] at h
    simp only [jb, List.cons_append, sp]
    rw [if_pos trivial, List.append_assoc, sp_part b c _ _ _ h.1, ih _ _ _ h.2]
    simp
theorem sp_join (b : Str) (ps : List (List Str)) (rest : List Str) (h : ps.any (fun x => dv x b) = false) (hne : ps ≠ []) : sp b (jb b ps ++ fin2 b :: rest) none = some ps := by
  cases ps with
  | nil => exact absurd rfl hne
  | cons c r =>
    rw [List.any_cons, Bool.or_eq_false_iff] at h
    simp only [jb, List.cons_append, sp]
    rw [if_pos trivial, List.append_assoc, sp_part b c _ _ _ h.1, sp_jb b r _ _ _ h.2]
    simp
/-- Lines ahead of the first part, and behind the last, are left out. -/
theorem sp_before (b : Str) (x : Str) (hx : x ≠ dash b) (r : List Str) : sp b (x :: r) none = sp b r none := by
  rw [sp, if_neg hx]
theorem sp_behind (b : Str) (r : List Str) : ∀ (s : Option (List (List Str) × List Str)) (o : List (List Str)) (more : List Str), sp b r s = some o → sp b (r ++ more) s = some o := by
  induction r with
  | nil => intro s o more h; cases h
  | cons l r ih =>
    intro s o more h
    rw [List.cons_append]
    cases s with
    | none =>
      simp only [sp] at h ⊢
      split at h
      · rename_i h1; rw [if_pos h1]; exact ih _ _ _ h
      · rename_i h1; rw [if_neg h1]; exact ih _ _ _ h
    | some s =>
      obtain ⟨q, c⟩ := s
      simp only [sp] at h ⊢
      split at h
      · rename_i h1; rw [if_pos h1]; exact ih _ _ _ h
      · rename_i h1
        rw [if_neg h1]
        split at h
        · rename_i h2; rw [if_pos h2]; exact h
        · rename_i h2; rw [if_neg h2]; exact ih _ _ _ h

theorem run_unit {α R : Type} (fin : Unit → R) (r : List α) : run (fun (_ : Unit) (_ : α) => (.inr () : R ⊕ Unit)) fin r () = fin () := by
  induction r with
  | nil => rfl
  | cons c r ih => unfold run; exact ih
theorem jR_some {b : Str} {ps : List (List Str)} {s : List Str} (h : jR b ps = some s) : isBd b = true ∧ ps ≠ [] ∧ ps.any (fun c => dv c b) = false ∧ s = jb b ps ++ [fin2 b] := by
  unfold jR at h
  split at h
  · rename_i h1
    cases h
    exact ⟨h1.1, h1.2.1, h1.2.2, rfl⟩
  · cases h
theorem spR_some {b : Str} {ls : List Str} {ps : List (List Str)} (h : spR b ls = some ps) : isBd b = true ∧ sp b ls none = some ps ∧ tl ps + 1 ≤ ls.length ∧ ps ≠ [] ∧ ps.any (fun c => dv c b) = false := by
  unfold spR at h
  split at h
  · rename_i h1
    obtain ⟨h2, h3⟩ := sp_size b ls none ps h
    exact ⟨h1, h, by simpa using h2, h3, sp_clean b ls none ps h (fun q c e => by cases e)⟩
  · cases h
theorem spR_join {b : Str} {ps : List (List Str)} (rest : List Str) (h1 : isBd b = true) (h2 : ps ≠ []) (h3 : ps.any (fun c => dv c b) = false) : spR b (jb b ps ++ fin2 b :: rest) = some ps := by
  unfold spR
  rw [if_pos h1]
  exact sp_join b ps rest h3 h2

/-! Texts that came in: their size, a copy, and the same again. -/
def szs : List Str → Nat
  | [] => 0
  | c :: r => c.length + szs r
theorem szs_append (a b : List Str) : szs (a ++ b) = szs a + szs b := by
  induction a with
  | nil => simp [szs]
  | cons c a ih => simp only [List.cons_append, szs, ih]; omega
theorem szs_mem {a : List Str} {c : Str} (h : c ∈ a) : c.length ≤ szs a := by
  induction a with
  | nil => cases h
  | cons d a ih =>
    simp only [szs]
    rcases List.mem_cons.mp h with rfl | h
    · omega
    · have := ih h; omega
theorem map_ofL_L (l : List ByteArray) : (l.map L).map ofL = l := by
  rw [List.map_map]
  exact (List.map_congr_left (fun x _ => ofL_L x)).trans (List.map_id l)
theorem szString_loop (ls : List Str) (hl : ∀ x ∈ ls, x.length ≤ 9223372036854775807) (hn : ls.length ≤ 9223372036854775807) (r : List Str) : ∀ (p : List Str) (left : Nat), ls = p ++ r → left ≤ 1048576 → ∃ v : Int, Ev (fun k => laws_szStringS.l0 k (ls.map ofL) (left : Int) (p.length : Int)) v ∧ v ≤ left ∧ (0 ≤ v → v = (left : Int) - szs r) := by
  induction r with
  | nil =>
    intro p left h hle
    have hz : ls.length = p.length := by rw [h, List.append_nil]
    refine ⟨left, ev_succ ?_, Int.le_refl _, fun _ => by simp [szs]⟩
    simp only [laws_szStringS.l0, List.length_map]
    exact ev_neg (by omega) (ev_some _)
  | cons c r ih =>
    intro p left h hle
    have hz := len_mid h
    have e1 := rdOf_ofL h
    have hc := hl c (by rw [h]; simp)
    have w1 : wrap64 ((p.length : Int) + 1) = (p.length : Int) + 1 ∧ wrap64 ((left : Int) - (c.length : Int)) = (left : Int) - (c.length : Int) := ⟨wrap_id (by omega) (by omega), wrap_id (by omega) (by omega)⟩
    by_cases hlt : (left : Int) - (c.length : Int) < 0
    · refine ⟨-1, ev_succ ?_, by omega, fun h => by omega⟩
      simp only [laws_szStringS.l0, List.length_map, e1, size_ofL, w1.1, w1.2]
      clear w1
      exact ev_pos (by omega) (ev_pos (by omega) (ev_pos hlt (ev_some _)))
    · obtain ⟨v, hv, hv1, hv2⟩ := ih (p ++ [c]) (left - c.length) (by rw [h]; simp) (by omega)
      rw [len_snoc] at hv
      refine ⟨v, ev_succ ?_, by omega, fun h0 => by have := hv2 h0; simp only [szs]; omega⟩
      have e2 : (left : Int) - (c.length : Int) = ((left - c.length : Nat) : Int) := by omega
      simp only [laws_szStringS.l0, List.length_map, e1, size_ofL, w1.1, w1.2]
      clear w1
      rw [e2]
      exact ev_pos (by omega) (ev_pos (by omega) (ev_neg (by omega) hv))
theorem laws_szStringS_ev (ls : List Str) (hl : ∀ x ∈ ls, x.length ≤ 9223372036854775807) (hn : ls.length ≤ 9223372036854775807) (left : Nat) (hle : left ≤ 1048576) : ∃ v : Int, Ev (fun k => laws_szStringS.f k (ls.map ofL) (left : Int)) v ∧ v ≤ left ∧ (0 ≤ v → v = (left : Int) - ls.length - szs ls) := by
  unfold laws_szStringS.f
  have w1 : wrap64 ((left : Int) - (ls.length : Int)) = (left : Int) - (ls.length : Int) := wrap_id (by omega) (by omega)
  rw [List.length_map, w1]
  clear w1
  by_cases h : (left : Int) - (ls.length : Int) < 0
  · exact ⟨-1, ev_pos h (ev_some _), by omega, fun h => by omega⟩
  · have e2 : (left : Int) - (ls.length : Int) = ((left - ls.length : Nat) : Int) := by omega
    obtain ⟨v, hv, hv1, hv2⟩ := szString_loop ls hl hn ls [] (left - ls.length) rfl (by omega)
    rw [e2]
    exact ⟨v, ev_neg (by omega) hv, by omega, fun h0 => by have := hv2 h0; omega⟩
theorem laws_toStringS_ev (ls : List Str) (hn : ls.length ≤ 1000000000000) : Ev (fun k => laws_toStringS.f k (ls.map ofL)) (ls.map ofL) := by
  have key : ∀ (r p : List Str), ls = p ++ r → Ev (fun k => laws_toStringS.l0 k (ls.map ofL) (p.map ofL ++ List.replicate r.length (⟨#[]⟩ : ByteArray)) (p.length : Int)) (ls.map ofL) := by
    intro r
    induction r with
    | nil =>
      intro p h
      have hz : ls.length = p.length := by rw [h, List.append_nil]
      refine ev_succ ?_
      simp only [laws_toStringS.l0, List.length_map]
      refine ev_neg (by omega) (ev_eq (ev_some _) ?_)
      rw [h]; simp
    | cons c r ih =>
      intro p h
      have hz := len_mid h
      have e1 := rdOf_ofL h
      have w1 : wrap64 ((p.length : Int) + 1) = (p.length : Int) + 1 := wrap_id (by omega) (by omega)
      have := ih (p ++ [c]) (by rw [h]; simp)
      rw [len_snoc] at this
      have e2 : (p.map ofL ++ List.replicate (r.length + 1) (⟨#[]⟩ : ByteArray)).set p.length (ofL c) = (p ++ [c]).map ofL ++ List.replicate r.length (⟨#[]⟩ : ByteArray) := by
        rw [List.set_append_right _ _ (by simp), List.length_map, Nat.sub_self, List.replicate_succ, List.set_cons_zero, List.map_append, List.append_assoc]
        rfl
      rw [← e2] at this
      refine ev_succ ?_
      simp only [laws_toStringS.l0, List.length_map, e1, w1, Int.toNat_natCast, List.length_cons]
      clear w1
      exact ev_pos (by omega) (ev_pos (by omega) (ev_pos (by simp; omega) this))
  unfold laws_toStringS.f
  simp only [List.length_map, Int.toNat_natCast]
  exact ev_pos (by omega) (ev_pos (by omega) (key ls [] rfl))
theorem laws_eqStringS_ev (a b : List Str) (hn : a.length ≤ 1000000000000000) : Ev (fun k => laws_eqStringS.f k (a.map ofL) (b.map ofL)) (decide (a = b)) := by
  unfold laws_eqStringS.f
  simp only [List.length_map]
  by_cases hl : a.length = b.length
  · refine ev_pos (by omega) ?_
    refine ev_eq (run_start (xs := a) (F := fun k (_ : List Str) i => laws_eqStringS.l0 k (a.map ofL) (b.map ofL) i) (st := fun r c => match r with
      | [] => .inl false
      | d :: r => if c = d then .inr r else .inl false) (fin := fun _ => true) (s := b) (fun p r => ∃ q, b = q ++ r ∧ q.length = p.length) ⟨[], rfl, rfl⟩ ?_ ?_) ?_
    · rintro p c r s h ⟨q, hq, hql⟩
      have hz := len_mid h
      have e1 := rdOf_ofL h
      have w1 : wrap64 ((p.length : Int) + 1) = (p.length : Int) + 1 := wrap_id (by omega) (by omega)
      cases s with
      | nil => rw [hq] at hl; simp at hl; omega
      | cons d s =>
        have e2 := rdOf_ofL hq
        rw [hql] at e2
        simp only [laws_eqStringS.l0, e1, e2, w1, List.length_map, toList_ofL]
        clear w1 e1 e2
        by_cases e : c = d
        · simp only [if_pos e]
          refine ⟨(fun v hv => by cases hv), fun s' hs => ⟨?_, fun v hv => ?_⟩⟩
          · cases hs; exact ⟨q ++ [d], by rw [hq]; simp, by simp [hql]⟩
          · exact ev_pos (by omega) (ev_pos (by omega) (ev_pos (by omega) hv))
        · simp only [if_neg e]
          refine ⟨(fun v hv => ?_), fun s' hs => by cases hs⟩
          cases hv
          exact ev_pos (by omega) (ev_pos (by omega) (ev_pos (by omega) (ev_some _)))
    · intro s _
      simp only [laws_eqStringS.l0, List.length_map]
      exact ev_neg (by omega) (ev_some _)
    · clear hn
      induction a generalizing b with
      | nil => cases b with
        | nil => rfl
        | cons d b => simp at hl
      | cons c a ih => cases b with
        | nil => simp at hl
        | cons d b =>
          unfold run
          by_cases e : c = d
          · simp only [if_pos e]; rw [ih b (by simpa using hl)]; simp [e]
          · simp only [if_neg e]; simp [e]
  · refine ev_neg (by omega) (ev_eq (ev_some _) ?_)
    rw [eq_comm]; exact decide_eq_false (fun h => hl (by rw [h]))

/-! Several answers from one number of rounds on. -/
def Evp (p : Nat → Prop) : Prop := ∃ K, ∀ k, K ≤ k → p k
theorem evp_of {α : Type} {g : Nat → Option α} {r : α} (h : Ev g r) : Evp (fun k => g k = some r) := h
theorem evp_and {p q : Nat → Prop} (h : Evp p) (h2 : Evp q) : Evp (fun k => p k ∧ q k) := by
  obtain ⟨K, h⟩ := h
  obtain ⟨M, h2⟩ := h2
  exact ⟨K + M, fun k hk => ⟨h k (by omega), h2 k (by omega)⟩⟩
theorem evp_some {p : Nat → Prop} (h : Evp p) : ∃ k, p k := by
  obtain ⟨K, h⟩ := h
  exact ⟨K, h K (Nat.le_refl _)⟩

/-! Marks. -/
theorem markText_loop : ∀ (n : Nat) (a : Nat) (out : Str), a < n → out.length + a ≤ 100000000000000000 → ∃ s : Str, Ev (fun k => laws_markText.l0 k (a : Int) (ofL out)) (ofL s) := by
  intro n
  induction n with
  | zero => intro a out h; omega
  | succ n ih =>
    intro a out h hb
    by_cases h0 : a = 0
    · subst h0
      refine ⟨109 :: out, ev_succ ?_⟩
      simp only [laws_markText.l0, size_ofL, mk_ofL, lit_list, ofL_append]
      exact ev_neg (by simp) (ev_pos (by omega) (ev_some _))
    · have hd : a / 10 + 1 ≤ a := by omega
      have e1 : Int.tdiv (a : Int) 10 = ((a / 10 : Nat) : Int) := by rw [Int.tdiv_eq_ediv_of_nonneg (by omega)]; omega
      have e2 : wrap64 (((a / 10 : Nat) : Int)) = ((a / 10 : Nat) : Int) := wrap_id (by omega) (by omega)
      obtain ⟨x, hx⟩ : ∃ x : Int, x = (wrap64 (48 + (Int.tmod (a : Int) 10))) % 256 := ⟨_, rfl⟩
      obtain ⟨c, hc⟩ : ∃ c : Str, strOfNums [x] = ofL c ∧ c.length = 1 := ⟨[UInt8.ofNat x.toNat], rfl, rfl⟩
      obtain ⟨s, hs⟩ := ih (a / 10) (c ++ out) (by omega) (by rw [List.length_append, hc.2]; omega)
      refine ⟨s, ev_succ ?_⟩
      simp only [laws_markText.l0, ← hx, Option.bind_some, hc.1, size_ofL, ofL_append, e1, e2]
      exact ev_pos (by omega) (ev_pos (by rw [hc.2]; omega) hs)
theorem markText_ev (a : Nat) (h : a ≤ 10000000000000000) : ∃ s : Str, Ev (fun k => laws_markText.f k (a : Int)) (ofL s) := by
  unfold laws_markText.f
  by_cases h0 : a = 0
  · exact ⟨[109, 48], ev_pos (by omega) (ev_some _)⟩
  · obtain ⟨s, hs⟩ := markText_loop (a + 1) a [] (by omega) (by simp; omega)
    exact ⟨s, ev_neg (by omega) hs⟩
/-- What is written as marks. -/
def IsMark (T : Nat → Str) : Prop := ∀ a : Nat, a ≤ 10000000000000000 → Ev (fun k => laws_markText.f k (a : Int)) (ofL (T a))
theorem marks_are : ∃ T, IsMark T := by
  have : ∀ a : Nat, ∃ s : Str, a ≤ 10000000000000000 → Ev (fun k => laws_markText.f k (a : Int)) (ofL s) := by
    intro a
    by_cases h : a ≤ 10000000000000000
    · obtain ⟨s, hs⟩ := markText_ev a h
      exact ⟨s, fun _ => hs⟩
    · exact ⟨[], fun h2 => absurd h2 h⟩
  obtain ⟨T, hT⟩ := Classical.axiomOfChoice this
  exact ⟨T, hT⟩
def mks (T : Nat → Str) : Nat → Nat → List ByteArray
  | _, 0 => []
  | m, n + 1 => ofL (T m) :: mks T (m + 1) n
theorem mks_length (T : Nat → Str) (n : Nat) : ∀ m, (mks T m n).length = n := by
  induction n with
  | zero => intro m; rfl
  | succ n ih => intro m; rw [mks, List.length_cons, ih]
theorem markStringS_loop (T : Nat → Str) (hT : IsMark T) (r : List ByteArray) : ∀ (p : List ByteArray) (m : Nat), p.length + r.length ≤ 1000000000000000 → m + r.length ≤ 10000000000000000 → Ev (fun k => laws_markStringS.l0 k (p ++ r) (m : Int) (p.length : Int)) (((m + r.length : Nat) : Int), p ++ mks T m r.length) := by
  induction r with
  | nil =>
    intro p m h h2
    refine ev_succ ?_
    simp only [laws_markStringS.l0]
    exact ev_neg (by simp) (ev_some _)
  | cons c r ih =>
    intro p m h h2
    simp only [List.length_cons] at h h2
    have w1 : wrap64 ((p.length : Int) + 1) = (p.length : Int) + 1 ∧ wrap64 ((m : Int) + 1) = ((m + 1 : Nat) : Int) := ⟨wrap_id (by omega) (by omega), wrap_id (by omega) (by omega)⟩
    have e1 : (p ++ c :: r).set ((p.length : Nat) : Int).toNat (ofL (T m)) = (p ++ [ofL (T m)]) ++ r := by
      rw [Int.toNat_natCast, List.set_append_right _ _ (Nat.le_refl _), Nat.sub_self, List.set_cons_zero]; simp
    have := ih (p ++ [ofL (T m)]) (m + 1) (by simp; omega) (by omega)
    rw [len_snoc] at this
    refine ev_succ ?_
    simp only [laws_markStringS.l0, w1.1, w1.2]
    clear w1
    refine ev_pos (by simp; omega) (ev_bind (hT m (by omega)) (ev_pos (by omega) ?_))
    rw [e1]
    refine ev_eq this ?_
    simp only [mks, List.length_cons, List.append_assoc, List.singleton_append]
    congr 1
    omega
theorem markStringS_ev (T : Nat → Str) (hT : IsMark T) (r : List ByteArray) (m : Nat) (h : r.length ≤ 1000000000000000) (h2 : m + r.length ≤ 10000000000000000) : Ev (fun k => laws_markStringS.f k r (m : Int)) (((m + r.length : Nat) : Int), mks T m r.length) := by
  unfold laws_markStringS.f
  have := markStringS_loop T hT r [] m (by simpa using h) h2
  simpa using this
theorem heldStringS_loop (T : Nat → Str) (hT : IsMark T) (n : Nat) : ∀ (p : List ByteArray) (m : Nat), p.length + n ≤ 1000000000000000 → m + n ≤ 10000000000000000 → Ev (fun k => laws_heldStringS.l0 k (p ++ mks T m n) (m : Int) (p.length : Int)) (((m + n : Nat) : Int)) := by
  induction n with
  | zero =>
    intro p m h h2
    refine ev_succ ?_
    simp only [laws_heldStringS.l0, mks, List.append_nil]
    exact ev_neg (by omega) (ev_some _)
  | succ n ih =>
    intro p m h h2
    have w1 : wrap64 ((p.length : Int) + 1) = (p.length : Int) + 1 ∧ wrap64 ((m : Int) + 1) = ((m + 1 : Nat) : Int) := ⟨wrap_id (by omega) (by omega), wrap_id (by omega) (by omega)⟩
    have := ih (p ++ [ofL (T m)]) (m + 1) (by simp; omega) (by omega)
    rw [len_snoc] at this
    have e1 : rdOf ByteArray.empty (p ++ mks T m (n + 1)) (p.length : Int) = ofL (T m) := rdOf_mid _ _ _ _
    refine ev_succ ?_
    simp only [laws_heldStringS.l0, w1.1, w1.2, e1]
    clear w1
    refine ev_pos (by simp [mks]; omega) (ev_pos (by omega) (ev_bind (hT m (by omega)) (ev_pos rfl ?_)))
    refine ev_eq ?_ (show (((m + 1 + n : Nat) : Int)) = ((m + (n + 1) : Nat) : Int) by omega)
    have e2 : p ++ mks T m (n + 1) = (p ++ [ofL (T m)]) ++ mks T (m + 1) n := by simp [mks]
    rw [e2]
    exact this
theorem heldStringS_ev (T : Nat → Str) (hT : IsMark T) (n m : Nat) (h : n ≤ 1000000000000000) (h2 : m + n ≤ 10000000000000000) : Ev (fun k => laws_heldStringS.f k (mks T m n) (m : Int)) (((m + n : Nat) : Int)) := by
  unfold laws_heldStringS.f
  have := heldStringS_loop T hT n [] m (by simpa using h) h2
  simpa using this

/-! Marks in lists of lists. -/
theorem rdL_mid (p r : List (List ByteArray)) (c : List ByteArray) : rd_L1 (p ++ c :: r) (p.length : Int) = c := by
  unfold rd_L1
  rw [List.getD_eq_getElem?_getD]
  simp
def tot : List (List ByteArray) → Nat
  | [] => 0
  | c :: r => c.length + tot r
def mkss (T : Nat → Str) : Nat → List (List ByteArray) → List (List ByteArray)
  | _, [] => []
  | m, c :: r => mks T m c.length :: mkss T (m + c.length) r
theorem mkss_length (T : Nat → Str) (r : List (List ByteArray)) : ∀ m, (mkss T m r).length = r.length := by
  induction r with
  | nil => intro m; rfl
  | cons c r ih => intro m; simp [mkss, ih]
theorem markStringSS_loop (T : Nat → Str) (hT : IsMark T) (r : List (List ByteArray)) : ∀ (p : List (List ByteArray)) (m : Nat), p.length + r.length ≤ 100000000000000 → m + tot r ≤ 100000000000000 → Ev (fun k => laws_markStringSS.l0 k (p ++ r) (m : Int) (p.length : Int)) (((m + tot r : Nat) : Int), p ++ mkss T m r) := by
  induction r with
  | nil =>
    intro p m h h2
    refine ev_succ ?_
    simp only [laws_markStringSS.l0, tot, mkss]
    exact ev_neg (by simp) (ev_some _)
  | cons c r ih =>
    intro p m h h2
    simp only [List.length_cons, tot] at h h2
    have w1 : wrap64 ((p.length : Int) + 1) = (p.length : Int) + 1 := wrap_id (by omega) (by omega)
    have e1 : (p ++ c :: r).set ((p.length : Nat) : Int).toNat (mks T m c.length) = (p ++ [mks T m c.length]) ++ r := by
      rw [Int.toNat_natCast, List.set_append_right _ _ (Nat.le_refl _), Nat.sub_self, List.set_cons_zero]; simp
    have := ih (p ++ [mks T m c.length]) (m + c.length) (by simp; omega) (by omega)
    rw [len_snoc] at this
    have hm := markStringS_ev T hT c m (by omega) (by omega)
    refine ev_succ ?_
    simp only [laws_markStringSS.l0, rdL_mid, w1]
    clear w1
    refine ev_pos (by simp; omega) (ev_pos (by omega) (ev_bind hm ?_))
    simp only [e1]
    refine ev_eq this ?_
    simp only [mkss, tot, List.append_assoc, List.singleton_append]
    congr 1
    omega
theorem markStringSS_ev (T : Nat → Str) (hT : IsMark T) (r : List (List ByteArray)) (m : Nat) (h : r.length ≤ 100000000000000) (h2 : m + tot r ≤ 100000000000000) : Ev (fun k => laws_markStringSS.f k r (m : Int)) (((m + tot r : Nat) : Int), mkss T m r) := by
  unfold laws_markStringSS.f
  have := markStringSS_loop T hT r [] m (by simpa using h) h2
  simpa using this
theorem tot_map (ps : List (List Str)) : tot (ps.map (List.map ofL)) ≤ tl ps := by
  induction ps with
  | nil => simp [tot, tl]
  | cons c r ih => simp only [List.map_cons, tot, tl, List.length_map]; omega
theorem eqStringSS_loop (ps : List (List Str)) (hn : tl ps ≤ 100000000000000) (r : List (List Str)) : ∀ (p : List (List Str)), ps = p ++ r → Ev (fun k => laws_eqStringSS.l0 k (ps.map (List.map ofL)) (ps.map (List.map ofL)) (p.length : Int)) true := by
  induction r with
  | nil =>
    intro p h
    have hz : ps.length = p.length := by rw [h, List.append_nil]
    refine ev_succ ?_
    simp only [laws_eqStringSS.l0, List.length_map]
    exact ev_neg (by omega) (ev_some _)
  | cons c r ih =>
    intro p h
    have hz := len_mid h
    have hl := tl_len ps
    have hc : c.length ≤ tl ps := tl_mem (by rw [h]; simp)
    have w1 : wrap64 ((p.length : Int) + 1) = (p.length : Int) + 1 := wrap_id (by omega) (by omega)
    have := ih (p ++ [c]) (by rw [h]; simp)
    rw [len_snoc] at this
    refine ev_succ ?_
    simp only [laws_eqStringSS.l0, List.length_map, rdLL_mid h, w1]
    clear w1
    exact ev_pos (by omega) (ev_pos (by omega) (ev_pos (by omega) (ev_bind (laws_eqStringS_ev c c (by omega)) (ev_pos (decide_eq_true rfl) this))))
theorem eqStringSS_ev (ps : List (List Str)) (hn : tl ps ≤ 100000000000000) : Ev (fun k => laws_eqStringSS.f k (ps.map (List.map ofL)) (ps.map (List.map ofL))) true := by
  unfold laws_eqStringSS.f
  exact ev_pos rfl (eqStringSS_loop ps hn ps [] rfl)

def szss : List (List Str) → Nat
  | [] => 0
  | c :: r => c.length + szs c + szss r
theorem szSS_loop (ps : List (List Str)) (hl : ∀ c ∈ ps, c.length ≤ 9223372036854775807 ∧ ∀ x ∈ c, x.length ≤ 9223372036854775807) (hn : ps.length ≤ 9223372036854775807) (r : List (List Str)) : ∀ (p : List (List Str)) (left : Nat), ps = p ++ r → left ≤ 1048576 → ∃ v : Int, Ev (fun k => laws_szStringSS.l0 k (ps.map (List.map ofL)) (left : Int) (p.length : Int)) v ∧ v ≤ left ∧ (0 ≤ v → v = (left : Int) - szss r) := by
  induction r with
  | nil =>
    intro p left h hle
    have hz : ps.length = p.length := by rw [h, List.append_nil]
    refine ⟨left, ev_succ ?_, Int.le_refl _, fun _ => by simp [szss]⟩
    simp only [laws_szStringSS.l0, List.length_map]
    exact ev_neg (by omega) (ev_some _)
  | cons c r ih =>
    intro p left h hle
    have hz := len_mid h
    obtain ⟨hc1, hc2⟩ := hl c (by rw [h]; simp)
    have w1 : wrap64 ((p.length : Int) + 1) = (p.length : Int) + 1 := wrap_id (by omega) (by omega)
    obtain ⟨u, hu, hu1, hu2⟩ := laws_szStringS_ev c hc2 hc1 left hle
    by_cases hlt : u < 0
    · refine ⟨-1, ev_succ ?_, by omega, fun h => by omega⟩
      simp only [laws_szStringSS.l0, List.length_map, rdLL_mid h, w1]
      clear w1
      exact ev_pos (by omega) (ev_pos (by omega) (ev_bind hu (ev_pos hlt (ev_some _))))
    · obtain ⟨n, rfl⟩ := Int.eq_ofNat_of_zero_le (Int.not_lt.mp hlt)
      have hu3 := hu2 (by omega)
      obtain ⟨v, hv, hv1, hv2⟩ := ih (p ++ [c]) n (by rw [h]; simp) (by omega)
      rw [len_snoc] at hv
      refine ⟨v, ev_succ ?_, by omega, fun h0 => by have := hv2 h0; simp only [szss]; omega⟩
      simp only [laws_szStringSS.l0, List.length_map, rdLL_mid h, w1]
      clear w1
      exact ev_pos (by omega) (ev_pos (by omega) (ev_bind hu (ev_neg hlt hv)))
theorem laws_szStringSS_ev (ps : List (List Str)) (hl : ∀ c ∈ ps, c.length ≤ 9223372036854775807 ∧ ∀ x ∈ c, x.length ≤ 9223372036854775807) (hn : ps.length ≤ 9223372036854775807) (left : Nat) (hle : left ≤ 1048576) : ∃ v : Int, Ev (fun k => laws_szStringSS.f k (ps.map (List.map ofL)) (left : Int)) v ∧ v ≤ left ∧ (0 ≤ v → v = (left : Int) - ps.length - szss ps) := by
  unfold laws_szStringSS.f
  have w1 : wrap64 ((left : Int) - (ps.length : Int)) = (left : Int) - (ps.length : Int) := wrap_id (by omega) (by omega)
  rw [List.length_map, w1]
  clear w1
  by_cases h : (left : Int) - (ps.length : Int) < 0
  · exact ⟨-1, ev_pos h (ev_some _), by omega, fun h => by omega⟩
  · have e2 : (left : Int) - (ps.length : Int) = ((left - ps.length : Nat) : Int) := by omega
    obtain ⟨v, hv, hv1, hv2⟩ := szSS_loop ps hl hn ps [] (left - ps.length) rfl (by omega)
    rw [e2]
    exact ⟨v, ev_neg (by omega) hv, by omega, fun h0 => by have := hv2 h0; omega⟩
theorem szss_tl (ps : List (List Str)) : tl ps ≤ ps.length + szss ps := by
  induction ps with
  | nil => simp [tl]
  | cons c r ih => simp only [tl, szss, List.length_cons]; omega
theorem szss_mem {ps : List (List Str)} {c : List Str} (h : c ∈ ps) : c.length + szs c ≤ szss ps := by
  induction ps with
  | nil => cases h
  | cons d a ih =>
    simp only [szss]
    rcases List.mem_cons.mp h with rfl | h
    · omega
    · have := ih h; omega
theorem laws_toStringSS_ev (ps : List (List Str)) (hn : tl ps ≤ 10000000000) : Ev (fun k => laws_toStringSS.f k (ps.map (List.map ofL))) (ps.map (List.map ofL)) := by
  have hl := tl_len ps
  have key : ∀ (r p : List (List Str)), ps = p ++ r → Ev (fun k => laws_toStringSS.l0 k (ps.map (List.map ofL)) (p.map (List.map ofL) ++ List.replicate r.length []) (p.length : Int)) (ps.map (List.map ofL)) := by
    intro r
    induction r with
    | nil =>
      intro p h
      have hz : ps.length = p.length := by rw [h, List.append_nil]
      refine ev_succ ?_
      simp only [laws_toStringSS.l0, List.length_map]
      refine ev_neg (by omega) (ev_eq (ev_some _) ?_)
      rw [h]; simp
    | cons c r ih =>
      intro p h
      have hz := len_mid h
      have hc : c.length ≤ tl ps := tl_mem (by rw [h]; simp)
      have w1 : wrap64 ((p.length : Int) + 1) = (p.length : Int) + 1 := wrap_id (by omega) (by omega)
      have := ih (p ++ [c]) (by rw [h]; simp)
      rw [len_snoc] at this
      have e2 : (p.map (List.map ofL) ++ List.replicate (r.length + 1) []).set p.length (c.map ofL) = (p ++ [c]).map (List.map ofL) ++ List.replicate r.length [] := by
        rw [List.set_append_right _ _ (by simp), List.length_map, Nat.sub_self, List.replicate_succ, List.set_cons_zero, List.map_append, List.append_assoc]
        rfl
      refine ev_succ ?_
      simp only [laws_toStringSS.l0, List.length_map, rdLL_mid h, w1, List.length_cons, List.length_append, List.length_replicate, Int.toNat_natCast, e2]
      clear w1
      exact ev_pos (by omega) (ev_pos (by omega) (ev_bind (laws_toStringS_ev c (by omega)) (ev_pos (by omega) (e2 ▸ this))))
  unfold laws_toStringSS.f
  simp only [List.length_map, Int.toNat_natCast]
  have := key ps [] rfl
  simp only [List.map_nil, List.nil_append, List.length_nil] at this
  exact ev_pos (by omega) (ev_pos (by omega) this)

theorem mapmap_ofL_L (l : List (List ByteArray)) : (l.map (List.map L)).map (List.map ofL) = l := by
  rw [List.map_map]
  exact (List.map_congr_left (fun x _ => map_ofL_L x)).trans (List.map_id l)
theorem FnExactJoinParts : ∀ (l0 : List (List ByteArray)) (a1 : ByteArray), l0.length ≤ maxLen → (∀ x ∈ l0, x.length ≤ maxLen ∧ ∀ y ∈ x, y.size ≤ maxLen) → a1.size ≤ maxLen → ∃ k, laws_FnExactJoinParts.Ok k l0 a1 := by
  intro l0 a1 hlen hx ha
  unfold maxLen at hlen hx ha
  obtain ⟨b, rfl⟩ : ∃ b, a1 = ofL b := ⟨L a1, (ofL_L a1).symm⟩
  by_cases hc : ((ofL b).size : Int) > 1048576
  · exact ⟨0, Or.inl hc⟩
  have hb : b.length ≤ 1048576 := by rw [size_ofL] at hc; omega
  rw [← mapmap_ofL_L l0]
  have hx2 : ∀ c ∈ l0.map (List.map L), c.length ≤ 9223372036854775807 ∧ ∀ x ∈ c, x.length ≤ 9223372036854775807 := fun c hm => by
    obtain ⟨d, hd, rfl⟩ := List.mem_map.mp hm
    refine ⟨by rw [List.length_map]; exact (hx d hd).1, fun x hxm => ?_⟩
    obtain ⟨y, hy, rfl⟩ := List.mem_map.mp hxm
    have := (hx d hd).2 y hy
    rw [size_L] at this
    omega
  have hl2 : (l0.map (List.map L)).length ≤ 9223372036854775807 := by rw [List.length_map]; omega
  generalize l0.map (List.map L) = ps at hx2 hl2
  obtain ⟨v, hv, hv1, hv2⟩ := laws_szStringSS_ev ps hx2 hl2 1048576 (by omega)
  by_cases h0 : v < 0
  · obtain ⟨k, h⟩ := evp_some (evp_of hv)
    exact ⟨k, Or.inr ⟨hc, v, h, Or.inl h0⟩⟩
  have hs := hv2 (by omega)
  have htl := szss_tl ps
  obtain ⟨T, hT⟩ := marks_are
  obtain ⟨ls, bb, hls, hll⟩ : ∃ (ls : List Str) (bb : Bool), jres (jR b ps) = (ls.map ofL, bb) ∧ ls.length ≤ tl ps + 1 := by
    cases e : jR b ps with
    | none => exact ⟨[], false, rfl, by simp⟩
    | some s => exact ⟨s, true, rfl, by rw [(jR_some e).2.2.2, List.length_append, jb_len]; simp⟩
  have i1 := spec_JoinParts_ev ps b (by omega) (by omega)
  have i2 := impl_JoinParts_ev ps b (by omega) (by omega)
  rw [hls] at i1 i2
  have hl := tl_len ps
  have ht := tot_map ps
  have hm1 := markStringSS_ev T hT (ps.map (List.map ofL)) 1 (by rw [List.length_map]; omega) (by omega)
  have hm2 := markStringS_ev T hT (ls.map ofL) 1 (by rw [List.length_map]; omega) (by rw [List.length_map]; omega)
  have hh := heldStringS_ev T hT ls.length 1 (by omega) (by omega)
  rw [List.length_map] at hm2
  obtain ⟨k, h1, h2, h3, h4, h5, h6, h7, h8, h9⟩ := evp_some (evp_and (evp_of hv) (evp_and (evp_of (laws_toStringSS_ev ps (by omega))) (evp_and (evp_of i1) (evp_and (evp_of i2) (evp_and (evp_of (laws_eqStringS_ev ls ls (by omega))) (evp_and (evp_of (eqStringSS_ev ps (by omega))) (evp_and (evp_of hm1) (evp_and (evp_of hm2) (evp_of hh)))))))))
  rw [decide_eq_true rfl] at h5
  exact ⟨k, Or.inr ⟨hc, v, h1, Or.inr ⟨h0, _, _, _, _, _, _, h2, h3, h4, h5, h6, h7, by omega, h8, by rw [mks_length, List.length_map], h9, by omega⟩⟩⟩

end Go.Proofs.Ytengipddcaookaa.Pure
