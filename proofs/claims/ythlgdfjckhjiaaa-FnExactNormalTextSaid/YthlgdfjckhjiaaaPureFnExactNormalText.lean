/- Proved here: the pure form of the law FnExactNormalText (the program's NormalText is the reference's) returns true for all arguments; conditions: none beyond those that the printed statement bears. -/
import Derived.Test.YthlgdfjckhjiaaaPFnExactNormalTextx1
import Derived.Test.YthlgdfjckhjiaaaZb
namespace Go.Proofs.Ythlgdfjckhjiaaa.Pure
open Go.RowKit Go.Proofs.Ythlgdfjckhjiaaa.PFnExactNormalText Go.Proofs.YthlgdfjckhjiaaaW.PrintWords Go.Proofs.YthlgdfjckhjiaaaW.PrintLast Go.Proofs.Ythlgdfjckhjiaaa.Z
set_option linter.unusedVariables false
set_option linter.unusedSimpArgs false

/-! Whole ends: the model. -/
def nrm : Str → Str × Nat
  | [] => ([], 0)
  | [c] => if c = 13 ∨ c = 10 then ([13, 10], 1) else ([c], 0)
  | c :: d :: r => if c = 13 ∧ d = 10 then (13 :: 10 :: (nrm r).1, (nrm r).2) else if c = 13 ∨ c = 10 then (13 :: 10 :: (nrm (d :: r)).1, (nrm (d :: r)).2 + 1) else (c :: (nrm (d :: r)).1, (nrm (d :: r)).2)
theorem nrm_end (r : Str) : r.length = 0 → nrm r = ([], 0) := by
  intro h; cases r with
  | nil => rfl
  | cons c r => simp at h
theorem nrm_whole (r : Str) : nrm (13 :: 10 :: r) = (13 :: 10 :: (nrm r).1, (nrm r).2) := by
  rw [nrm, if_pos ⟨rfl, rfl⟩]
theorem nrm_bare (c : UInt8) (r : Str) (h : c = 13 ∨ c = 10) (h2 : c = 13 → r.head? ≠ some 10) : nrm (c :: r) = (13 :: 10 :: (nrm r).1, (nrm r).2 + 1) := by
  cases r with
  | nil => simp only [nrm, if_pos h]
  | cons d r =>
    rw [nrm, if_neg (fun hh => h2 hh.1 (by simp [hh.2])), if_pos h]
theorem nrm_other (c : UInt8) (r : Str) (h : ¬ (c = 13 ∨ c = 10)) : nrm (c :: r) = (c :: (nrm r).1, (nrm r).2) := by
  cases r with
  | nil => simp only [nrm, if_neg h]
  | cons d r =>
    rw [nrm, if_neg (fun hh => h (Or.inl hh.1)), if_neg h]
/-- The ways a text begins. -/
theorem nrm_ways (P : Str → Prop) (h0 : P []) (h1 : ∀ r, P r → P (13 :: 10 :: r)) (h2 : ∀ c r, (c = 13 ∨ c = 10) → (c = 13 → r.head? ≠ some 10) → P r → P (c :: r)) (h3 : ∀ c r, ¬ (c = 13 ∨ c = 10) → P r → P (c :: r)) (r : Str) : P r := by
  have : ∀ n, ∀ r : Str, r.length ≤ n → P r := by
    intro n
    induction n with
    | zero => intro r h; cases r with
      | nil => exact h0
      | cons c r => simp at h
    | succ n ih =>
      intro r h
      cases r with
      | nil => exact h0
      | cons c r =>
        simp only [List.length_cons] at h
        by_cases hc : c = 13 ∨ c = 10
        · by_cases hd : c = 13 ∧ r.head? = some 10
          · obtain ⟨rfl, hd⟩ := hd
            cases r with
            | nil => simp at hd
            | cons d r =>
              simp only [List.head?_cons, Option.some.injEq] at hd
              subst hd
              simp only [List.length_cons] at h
              exact h1 r (ih r (by omega))
          · exact h2 c r hc (fun e f => hd ⟨e, f⟩) (ih r (by omega))
        · exact h3 c r hc (ih r (by omega))
  exact this r.length r (Nat.le_refl _)
theorem nrm_len (r : Str) : (nrm r).1.length = r.length + (nrm r).2 := by
  refine nrm_ways (fun r => (nrm r).1.length = r.length + (nrm r).2) rfl ?_ ?_ ?_ r
  · intro r ih; rw [nrm_whole]; simp only [List.length_cons, ih]; omega
  · intro c r h h2 ih; rw [nrm_bare c r h h2]; simp only [List.length_cons, ih]; omega
  · intro c r h ih; rw [nrm_other c r h]; simp only [List.length_cons, ih]; omega
theorem nrm_le (r : Str) : (nrm r).2 ≤ r.length := by
  refine nrm_ways (fun r => (nrm r).2 ≤ r.length) (Nat.le_refl _) ?_ ?_ ?_ r
  · intro r ih; rw [nrm_whole]; simp only [List.length_cons]; omega
  · intro c r h h2 ih; rw [nrm_bare c r h h2]; simp only [List.length_cons]; omega
  · intro c r h ih; rw [nrm_other c r h]; simp only [List.length_cons]; omega
theorem nrm_zero (r : Str) : (nrm r).2 = 0 ↔ (nrm r).1 = r := by
  constructor
  · refine nrm_ways (fun r => (nrm r).2 = 0 → (nrm r).1 = r) (fun _ => rfl) ?_ ?_ ?_ r
    · intro r ih h; rw [nrm_whole] at h ⊢; simp only at h ⊢; rw [ih h]
    · intro c r h h2 ih hh; rw [nrm_bare c r h h2] at hh; simp at hh
    · intro c r h ih hh; rw [nrm_other c r h] at hh ⊢; simp only at hh ⊢; rw [ih hh]
  · intro h
    have := nrm_len r
    rw [h] at this; omega
/-- What stands behind something that is no second half of an end. -/
theorem nrm_append (a b : Str) (h : b.head? ≠ some 10 ∨ (nrm a).2 = 0) : nrm (a ++ b) = ((nrm a).1 ++ (nrm b).1, (nrm a).2 + (nrm b).2) := by
  revert h
  refine nrm_ways (fun a => (b.head? ≠ some 10 ∨ (nrm a).2 = 0) → nrm (a ++ b) = ((nrm a).1 ++ (nrm b).1, (nrm a).2 + (nrm b).2)) ?_ ?_ ?_ ?_ a
  · intro _; simp [nrm]
  · intro r ih h
    rw [nrm_whole] at h ⊢
    rw [List.cons_append, List.cons_append, nrm_whole, ih h]; rfl
  · intro c r hc h2 ih h
    rw [nrm_bare c r hc h2] at h ⊢
    have hb : b.head? ≠ some 10 := by
      rcases h with h | h
      · exact h
      · simp at h
    rw [List.cons_append, nrm_bare c (r ++ b) hc (fun e => by
      cases r with
      | nil => exact hb
      | cons d r => exact h2 e), ih (Or.inl hb)]
    simp only [List.cons_append]; congr 1; omega
  · intro c r hc ih h
    rw [nrm_other c r hc] at h ⊢
    rw [List.cons_append, nrm_other c (r ++ b) hc, ih h]; rfl
theorem nrm_nrm (r : Str) : nrm (nrm r).1 = ((nrm r).1, 0) := by
  refine nrm_ways (fun r => nrm (nrm r).1 = ((nrm r).1, 0)) rfl ?_ ?_ ?_ r
  · intro r ih; rw [nrm_whole]; simp only; rw [nrm_whole, ih]
  · intro c r h h2 ih; rw [nrm_bare c r h h2]; simp only; rw [nrm_whole, ih]
  · intro c r h ih; rw [nrm_other c r h]; simp only; rw [nrm_other c _ h, ih]

theorem bytes_end : bytesOf (⟨#[13, 10]⟩ : ByteArray) = zn [13, 10] := rfl

theorem impl_normal_loop (s : ByteArray) (hs : s.size ≤ 1000000000) (r : Str) : ∀ (p acc : Str) (c : Nat), L s = p ++ r → acc.length ≤ 2 * p.length → c ≤ p.length → Ev (fun k => impl_normal.l0 k s (zn acc) (c : Int) (p.length : Int)) (ofL (acc ++ (nrm r).1), ((c + (nrm r).2 : Nat) : Int)) := by
  refine nrm_ways (fun r => ∀ (p acc : Str) (c : Nat), L s = p ++ r → acc.length ≤ 2 * p.length → c ≤ p.length → Ev (fun k => impl_normal.l0 k s (zn acc) (c : Int) (p.length : Int)) (ofL (acc ++ (nrm r).1), ((c + (nrm r).2 : Nat) : Int))) ?_ ?_ ?_ ?_ r
  · intro p acc c h ha hc
    have hz := size_L s
    rw [h] at hz
    simp only [List.append_nil] at hz
    refine ev_succ ?_
    simp only [impl_normal.l0]
    refine ev_neg (by omega) ?_
    rw [strOfNums_zn]
    exact ev_eq (ev_some _) (by simp [nrm])
  · intro r ih p acc c h ha hc
    have hz := size_L s
    rw [h] at hz
    simp only [List.length_append, List.length_cons] at hz
    have e1 : bt s (p.length : Int) = 13 := bt_at_cons h
    have h' : L s = (p ++ [13]) ++ 10 :: r := by rw [h]; simp
    have e2 : bt s ((p ++ [13]).length : Int) = 10 := bt_at_cons h'
    have e3 : (((p ++ [13]).length : Nat) : Int) = (p.length : Int) + 1 := by simp
    have w1 : wrap64 ((p.length : Int) + 1) = (p.length : Int) + 1 := wrap_id (by omega) (by omega)
    have w2 : wrap64 ((p.length : Int) + 1 + 1) = (p.length : Int) + 1 + 1 := wrap_id (by omega) (by omega)
    rw [e3] at e2
    refine ev_succ ?_
    simp only [impl_normal.l0, w1, e1, e2]
    refine ev_pos (by omega) (ev_pos (by omega) (ev_pos (by decide) (ev_pos (by omega) (ev_pos (by omega) (ev_succ ?_)))))
    simp only [impl_normal.j1, w1, w2, bytes_end]
    refine ev_pos (by decide) (ev_pos (by rw [zn_length]; omega) ?_)
    have := ih (p ++ [13, 10]) (acc ++ [13, 10]) c (by rw [h]; simp) (by simp; omega) (by simp; omega)
    rw [zn_append] at this
    rw [nrm_whole]
    have e4 : (((p ++ [13, 10]).length : Nat) : Int) = (p.length : Int) + 1 + 1 := by rw [List.length_append, Int.natCast_add]; simp only [List.length_cons, List.length_nil]; omega
    rw [e4] at this
    refine ev_eq this ?_
    rw [List.append_assoc]; rfl
  · intro x r hx h2 ih p acc c h ha hc
    have hz := size_L s
    rw [h] at hz
    simp only [List.length_append, List.length_cons] at hz
    have e1 := bt_at_cons h
    have w1 : wrap64 ((p.length : Int) + 1) = (p.length : Int) + 1 := wrap_id (by omega) (by omega)
    have w2 : wrap64 ((c : Int) + 1) = (c : Int) + 1 := wrap_id (by omega) (by omega)
    have e4 : (((p ++ [x]).length : Nat) : Int) = (p.length : Int) + 1 := by simp
    have hj : Ev (fun k => impl_normal.j1 k s (zn acc) (c : Int) (p.length : Int) false) (ofL (acc ++ (nrm (x :: r)).1), ((c + (nrm (x :: r)).2 : Nat) : Int)) := by
      refine ev_succ ?_
      simp only [impl_normal.j1, w1, w2, e1, bytes_end]
      have := ih (p ++ [x]) (acc ++ [13, 10]) (c + 1) (by rw [h]; simp) (by simp; omega) (by simp; omega)
      rw [zn_append, e4] at this
      rw [nrm_bare x r hx h2]
      have this : Ev (fun k => impl_normal.l0 k s (zn acc ++ zn [13, 10]) ((c : Int) + 1) ((p.length : Int) + 1)) (ofL (acc ++ (13 :: 10 :: (nrm r).1)), ((c + ((nrm r).2 + 1) : Nat) : Int)) := by
        have e : c + 1 + (nrm r).2 = c + ((nrm r).2 + 1) := by omega
        rw [← e]
        simpa using this
      refine ev_neg (by decide) (ev_pos (by omega) (ev_pos (by omega) ?_))
      rcases hx with rfl | rfl
      · exact ev_pos (by decide) (ev_pos (by rw [zn_length]; omega) this)
      · exact ev_neg (by decide) (ev_pos (by decide) (ev_pos (by rw [zn_length]; omega) this))
    refine ev_succ ?_
    simp only [impl_normal.l0, w1, e1]
    refine ev_pos (by omega) (ev_pos (by omega) ?_)
    rcases hx with rfl | rfl
    · refine ev_pos (by decide) ?_
      cases r with
      | nil => exact ev_neg (by simp at hz; omega) hj
      | cons d r =>
        have h' : L s = (p ++ [13]) ++ d :: r := by rw [h]; simp
        have e2 := bt_at_cons h'
        rw [e4] at e2
        simp only [List.length_cons] at hz
        refine ev_pos (by omega) (ev_pos (by omega) ?_)
        have : (bt s ((p.length : Int) + 1) == 10) = false := by
          rw [e2]
          have h3 := h2 rfl
          simp only [List.head?_cons, ne_eq, Option.some.injEq] at h3
          rw [beq_eq_false_iff_ne]
          exact fun h4 => h3 ((u8_eq d 10 (by omega)).mp h4)
        rw [this]
        exact hj
    · exact ev_neg (by decide) hj
  · intro x r hx ih p acc c h ha hc
    have hz := size_L s
    rw [h] at hz
    simp only [List.length_append, List.length_cons] at hz
    have e1 := bt_at_cons h
    have w1 : wrap64 ((p.length : Int) + 1) = (p.length : Int) + 1 := wrap_id (by omega) (by omega)
    have e4 : (((p ++ [x]).length : Nat) : Int) = (p.length : Int) + 1 := by simp
    have n1 : ¬ (x.toNat : Int) = 13 := fun h4 => hx (Or.inl ((u8_eq x 13 (by omega)).mp h4))
    have n2 : ¬ (x.toNat : Int) = 10 := fun h4 => hx (Or.inr ((u8_eq x 10 (by omega)).mp h4))
    refine ev_succ ?_
    simp only [impl_normal.l0, w1, e1]
    refine ev_pos (by omega) (ev_pos (by omega) (ev_neg n1 (ev_succ ?_)))
    simp only [impl_normal.j1, w1, e1]
    refine ev_neg (by decide) (ev_pos (by omega) (ev_pos (by omega) (ev_neg n1 (ev_neg n2 (ev_pos (by rw [zn_length]; omega) ?_)))))
    have := ih (p ++ [x]) (acc ++ [x]) c (by rw [h]; simp) (by simp; omega) (by simp; omega)
    rw [zn_append, e4] at this
    rw [nrm_other x r hx]
    simpa [zn] using this
theorem impl_normal_ev (s : ByteArray) (hs : s.size ≤ 1000000000) : Ev (fun k => impl_normal.f k s) (ofL (nrm (L s)).1, (((nrm (L s)).2 : Nat) : Int)) := by
  have := impl_normal_loop s hs (L s) [] [] 0 rfl (by simp) (by simp)
  unfold impl_normal.f
  refine ev_eq this ?_
  rw [List.nil_append, Nat.zero_add]

theorem impl_NormalText_ev (s : ByteArray) (hs : s.size ≤ 1000000000) : Ev (fun k => impl_NormalText.f k s) (ofL (nrm (L s)).1) := by
  unfold impl_NormalText.f
  exact ev_bind (impl_normal_ev s hs) (ev_some _)

theorem zn_end : ([13, 10] : List Int) = zn [13, 10] := rfl
theorem spec_NormalText_loop (s : ByteArray) (hs : s.size ≤ 1000000000) (r : Str) : ∀ (p acc : Str), L s = p ++ r → acc.length ≤ 2 * p.length → Ev (fun k => spec_NormalText.l0 k s (zn acc) (p.length : Int)) (ofL (acc ++ (nrm r).1)) := by
  refine nrm_ways (fun r => ∀ (p acc : Str), L s = p ++ r → acc.length ≤ 2 * p.length → Ev (fun k => spec_NormalText.l0 k s (zn acc) (p.length : Int)) (ofL (acc ++ (nrm r).1))) ?_ ?_ ?_ ?_ r
  · intro p acc h ha
    have hz := size_L s
    rw [h] at hz
    simp only [List.append_nil] at hz
    refine ev_succ ?_
    simp only [spec_NormalText.l0]
    repeat (first | refine ev_pos (by first | assumption | omega | decide) ?_ | refine ev_neg (by first | assumption | omega | decide) ?_)
    rw [strOfNums_zn]
    exact ev_eq (ev_some _) (by rw [nrm_end [] rfl, List.append_nil])
  · intro r ih p acc h ha
    have hz := size_L s
    rw [h] at hz
    simp only [List.length_append, List.length_cons] at hz
    have e1 : bt s (p.length : Int) = 13 := bt_at_cons h
    have h' : L s = (p ++ [13]) ++ 10 :: r := by rw [h]; simp
    have e2 : bt s ((p ++ [13]).length : Int) = 10 := bt_at_cons h'
    have e3 : (((p ++ [13]).length : Nat) : Int) = (p.length : Int) + 1 := by simp
    rw [e3] at e2
    have := ih (p ++ [13, 10]) (acc ++ [13, 10]) (by rw [h]; simp) (by simp; omega)
    have e4 : (((p ++ [13, 10]).length : Nat) : Int) = (p.length : Int) + 1 + 1 := by rw [List.length_append, Int.natCast_add]; simp only [List.length_cons, List.length_nil]; omega
    have e5 : acc ++ [13, 10] ++ (nrm r).1 = acc ++ (nrm (13 :: 10 :: r)).1 := by rw [nrm_whole, List.append_assoc]; rfl
    rw [e4, zn_append, e5] at this
    refine ev_succ ?_
    simp (disch := omega) only [spec_NormalText.l0, wrap_id, e1, e2]
    repeat (first | refine ev_pos (by first | assumption | omega | decide) ?_ | refine ev_neg (by first | assumption | omega | decide) ?_)
    refine ev_succ ?_
    simp (disch := omega) only [spec_NormalText.j1, wrap_id, Option.bind_some]
    refine ev_pos (by decide) (ev_pos (by rw [zn_length]; simp only [List.length_cons, List.length_nil]; omega) ?_)
    exact this
  · intro x r hx h2 ih p acc h ha
    have hz := size_L s
    rw [h] at hz
    simp only [List.length_append, List.length_cons] at hz
    have e1 := bt_at_cons h
    have e4 : (((p ++ [x]).length : Nat) : Int) = (p.length : Int) + 1 := by simp
    have hj : Ev (fun k => spec_NormalText.j1 k s (zn acc) (p.length : Int) false) (ofL (acc ++ (nrm (x :: r)).1)) := by
      have := ih (p ++ [x]) (acc ++ [13, 10]) (by rw [h]; simp) (by simp; omega)
      have e5 : acc ++ [13, 10] ++ (nrm r).1 = acc ++ (nrm (x :: r)).1 := by rw [nrm_bare x r hx h2, List.append_assoc]; rfl
      rw [e4, zn_append, e5] at this
      refine ev_succ ?_
      simp (disch := omega) only [spec_NormalText.j1, wrap_id, e1, Option.bind_some]
      rcases hx with rfl | rfl
      · clear e1
        repeat (first | refine ev_pos (by first | assumption | omega | decide) ?_ | refine ev_neg (by first | assumption | omega | decide) ?_)
        exact ev_pos (by rw [zn_length]; simp only [List.length_cons, List.length_nil]; omega) this
      · clear e1
        repeat (first | refine ev_pos (by first | assumption | omega | decide) ?_ | refine ev_neg (by first | assumption | omega | decide) ?_)
        exact ev_pos (by rw [zn_length]; simp only [List.length_cons, List.length_nil]; omega) this
    refine ev_succ ?_
    simp (disch := omega) only [spec_NormalText.l0, wrap_id, e1]
    rcases hx with rfl | rfl
    · clear ih
      cases r with
      | nil =>
        simp only [List.length_nil] at hz
        clear e1
        repeat (first | refine ev_pos (by first | assumption | omega | decide) ?_ | refine ev_neg (by first | assumption | omega | decide) ?_)
        exact hj
      | cons d r =>
        have h' : L s = (p ++ [13]) ++ d :: r := by rw [h]; simp
        have e2 := bt_at_cons h'
        rw [e4] at e2
        simp only [List.length_cons] at hz
        have : (bt s ((p.length : Int) + 1) == 10) = false := by
          rw [e2]
          have h3 := h2 rfl
          simp only [List.head?_cons, ne_eq, Option.some.injEq] at h3
          rw [beq_eq_false_iff_ne]
          exact fun h4 => h3 ((u8_eq d 10 (by omega)).mp h4)
        simp only [this]
        clear e1 e2
        repeat (first | refine ev_pos (by first | assumption | omega | decide) ?_ | refine ev_neg (by first | assumption | omega | decide) ?_)
        exact hj
    · clear e1
      repeat (first | refine ev_pos (by first | assumption | omega | decide) ?_ | refine ev_neg (by first | assumption | omega | decide) ?_)
      exact hj
  · intro x r hx ih p acc h ha
    have hz := size_L s
    rw [h] at hz
    simp only [List.length_append, List.length_cons] at hz
    have e1 := bt_at_cons h
    have e4 : (((p ++ [x]).length : Nat) : Int) = (p.length : Int) + 1 := by simp
    have n1 : ¬ (x.toNat : Int) = 13 := fun h4 => hx (Or.inl ((u8_eq x 13 (by omega)).mp h4))
    have n2 : ¬ (x.toNat : Int) = 10 := fun h4 => hx (Or.inr ((u8_eq x 10 (by omega)).mp h4))
    have := ih (p ++ [x]) (acc ++ [x]) (by rw [h]; simp) (by simp; omega)
    have e5 : acc ++ [x] ++ (nrm r).1 = acc ++ (nrm (x :: r)).1 := by rw [nrm_other x r hx, List.append_assoc]; rfl
    rw [e4, zn_append, e5] at this
    refine ev_succ ?_
    simp (disch := omega) only [spec_NormalText.l0, wrap_id, e1]
    repeat (first | refine ev_pos (by first | assumption | omega | decide) ?_ | refine ev_neg (by first | assumption | omega | decide) ?_)
    refine ev_succ ?_
    simp (disch := omega) only [spec_NormalText.j1, wrap_id, e1]
    repeat (first | refine ev_pos (by first | assumption | omega | decide) ?_ | refine ev_neg (by first | assumption | omega | decide) ?_)
    exact ev_pos (by rw [zn_length]; omega) this
theorem spec_NormalText_ev (s : ByteArray) (hs : s.size ≤ 1000000000) : Ev (fun k => spec_NormalText.f k s) (ofL (nrm (L s)).1) := by
  have := spec_NormalText_loop s hs (L s) [] [] rfl (by simp)
  unfold spec_NormalText.f
  refine ev_eq this ?_
  rw [List.nil_append]

theorem FnExactNormalText : laws_FnExactNormalText.Pure := by
  intro s hs
  apply ev_rounds
  unfold laws_FnExactNormalText.f
  by_cases h : (s.size : Int) > 1048576
  · exact ev_pos h (ev_some _)
  · exact ev_neg h (ev_bind (spec_NormalText_ev s (by omega)) (ev_bind (impl_NormalText_ev s (by omega)) (ev_pos rfl (ev_some _))))

end Go.Proofs.Ythlgdfjckhjiaaa.Pure
