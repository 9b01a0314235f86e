/- Proved here: the pure form of the law FnExactUnstuffText (the program's UnstuffText is the reference's) returns true for all arguments; conditions: none beyond those that the printed statement bears. -/
import Derived.Test.YthlgdfjckhjiaaaPFnExactUnstuffTextx2
import Derived.Test.YthlgdfjckhjiaaaZb
namespace Go.Proofs.Ythlgdfjckhjiaaa.Pure
open Go.RowKit Go.Proofs.Ythlgdfjckhjiaaa.X Go.Proofs.Ythlgdfjckhjiaaa.PFnExactUnstuffText Go.Proofs.YthlgdfjckhjiaaaW.PrintWords Go.Proofs.YthlgdfjckhjiaaaW.PrintLast Go.Proofs.Ythlgdfjckhjiaaa.Z
set_option linter.unusedVariables false
set_option linter.unusedSimpArgs false

/-! Texts: the model. -/
def okB (c : UInt8) : Bool := 32 ≤ c && c ≤ 126
def tvalid (l : Str) : Bool := l.all okB && decide (l.length ≤ 200)
theorem okB_lo (c : UInt8) (h : (c.toNat : Int) < 32) : okB c = false := by
  have : c < 32 := (u8_lt c 32 (by omega)).mp h
  unfold okB
  simp [UInt8.le_iff_toNat_le, UInt8.lt_iff_toNat_lt] at this ⊢
  omega
theorem okB_hi (c : UInt8) (h : (c.toNat : Int) > 126) : okB c = false := by
  unfold okB
  simp [UInt8.le_iff_toNat_le, UInt8.lt_iff_toNat_lt]
  omega
theorem okB_mid (c : UInt8) (h : ¬ (c.toNat : Int) < 32) (h2 : ¬ (c.toNat : Int) > 126) : okB c = true := by
  unfold okB
  simp [UInt8.le_iff_toNat_le, UInt8.lt_iff_toNat_lt]
  omega
theorem tvalid_len {l : Str} (h : tvalid l = true) : l.length ≤ 200 := by
  unfold tvalid at h; simp at h; exact h.2

theorem impl_TextValid_loop (l : Str) (hl : l.length ≤ 1000000000000000) (r : Str) : ∀ (p : Str), l = p ++ r → Ev (fun k => impl_TextValid.l0 k (ofL l) (l.length : Int) (p.length : Int)) (r.all okB && decide (l.length ≤ 200)) := by
  induction r with
  | nil =>
    intro p h
    have hz : l.length = p.length := by rw [h, List.append_nil]
    refine ev_succ ?_
    simp only [impl_TextValid.l0, size_ofL]
    repeat (first | refine ev_pos (by first | assumption | omega | decide) ?_ | refine ev_neg (by first | assumption | omega | decide) ?_)
    exact ev_eq (ev_some _) (by simp; omega)
  | cons c r ih =>
    intro p h
    have hz : l.length = p.length + (r.length + 1) := by rw [h]; simp
    have e1 : bt (ofL l) (p.length : Int) = (c.toNat : Int) := by rw [h]; exact bt_mid p r c
    have := ih (p ++ [c]) (by rw [h]; simp)
    rw [len_snoc] at this
    refine ev_succ ?_
    simp (disch := omega) only [impl_TextValid.l0, size_ofL, e1, wrap_id]
    by_cases h1 : (c.toNat : Int) < 32
    · repeat (first | refine ev_pos (by first | assumption | omega | decide) ?_ | refine ev_neg (by first | assumption | omega | decide) ?_)
      exact ev_eq (ev_some _) (by simp [okB_lo c h1])
    · by_cases h2 : (c.toNat : Int) > 126
      · repeat (first | refine ev_pos (by first | assumption | omega | decide) ?_ | refine ev_neg (by first | assumption | omega | decide) ?_)
        exact ev_eq (ev_some _) (by simp [okB_hi c h2])
      · repeat (first | refine ev_pos (by first | assumption | omega | decide) ?_ | refine ev_neg (by first | assumption | omega | decide) ?_)
        exact ev_eq this (by simp [okB_mid c h1 h2])
theorem impl_TextValid_ev (l : Str) (hl : l.length ≤ 1000000000000000) : Ev (fun k => impl_TextValid.f k (ofL l)) (tvalid l) := by
  unfold impl_TextValid.f
  rw [size_ofL]
  exact impl_TextValid_loop l hl l [] rfl

theorem spec_TextValid_loop (l : Str) (hl : l.length ≤ 1000000000000000) (r : Str) : ∀ (p : Str), l = p ++ r → Ev (fun k => spec_TextValid.l0 k (ofL l) (p.length : Int)) (r.all okB && decide (l.length ≤ 200)) := by
  induction r with
  | nil =>
    intro p h
    have hz : l.length = p.length := by rw [h, List.append_nil]
    refine ev_succ ?_
    simp only [spec_TextValid.l0, size_ofL]
    repeat (first | refine ev_pos (by first | assumption | omega | decide) ?_ | refine ev_neg (by first | assumption | omega | decide) ?_)
    refine ev_succ ?_
    simp only [spec_TextValid.j1, size_ofL]
    repeat (first | refine ev_pos (by first | assumption | omega | decide) ?_ | refine ev_neg (by first | assumption | omega | decide) ?_)
    exact ev_eq (ev_some _) (by simp; omega)
  | cons c r ih =>
    intro p h
    have hz : l.length = p.length + (r.length + 1) := by rw [h]; simp
    have e1 : bt (ofL l) (p.length : Int) = (c.toNat : Int) := by rw [h]; exact bt_mid p r c
    have := ih (p ++ [c]) (by rw [h]; simp)
    rw [len_snoc] at this
    by_cases h0 : (p.length : Int) ≤ 200
    · refine ev_succ ?_
      simp only [spec_TextValid.l0, size_ofL]
      repeat (first | refine ev_pos (by first | assumption | omega | decide) ?_ | refine ev_neg (by first | assumption | omega | decide) ?_)
      refine ev_succ ?_
      simp (disch := omega) only [spec_TextValid.j1, size_ofL, e1, wrap_id, decide_eq_true h0]
      by_cases h1 : (c.toNat : Int) < 32
      · repeat (first | refine ev_pos (by first | assumption | omega | decide) ?_ | refine ev_neg (by first | assumption | omega | decide) ?_)
        exact ev_eq (ev_some _) (by simp [okB_lo c h1])
      · by_cases h2 : (c.toNat : Int) > 126
        · repeat (first | refine ev_pos (by first | assumption | omega | decide) ?_ | refine ev_neg (by first | assumption | omega | decide) ?_)
          exact ev_eq (ev_some _) (by simp [okB_hi c h2])
        · repeat (first | refine ev_pos (by first | assumption | omega | decide) ?_ | refine ev_neg (by first | assumption | omega | decide) ?_)
          exact ev_eq this (by simp [okB_mid c h1 h2])
    · refine ev_succ ?_
      simp only [spec_TextValid.l0, size_ofL]
      repeat (first | refine ev_pos (by first | assumption | omega | decide) ?_ | refine ev_neg (by first | assumption | omega | decide) ?_)
      refine ev_succ ?_
      simp only [spec_TextValid.j1, size_ofL, decide_eq_false h0]
      repeat (first | refine ev_pos (by first | assumption | omega | decide) ?_ | refine ev_neg (by first | assumption | omega | decide) ?_)
      have d1 : decide ((l.length : Int) ≤ 200) = false := decide_eq_false (by omega)
      have d2 : decide (l.length ≤ 200) = false := decide_eq_false (by omega)
      exact ev_eq (ev_some _) (by rw [d1, d2, Bool.and_false])
theorem spec_TextValid_ev (l : Str) (hl : l.length ≤ 1000000000000000) : Ev (fun k => spec_TextValid.f k (ofL l)) (tvalid l) := by
  unfold spec_TextValid.f
  exact spec_TextValid_loop l hl l [] rfl

theorem stringslite_HasPrefix_eq (a b : Str) : stringslite_HasPrefix.f (ofL a) (ofL b) = some (b.isPrefixOf a) := by
  unfold stringslite_HasPrefix.f
  simp only [size_ofL, extract_ofL, toList_ofL]
  by_cases h : (a.length : Int) ≥ (b.length : Int)
  · rw [if_pos h, if_pos (by omega), if_pos (by omega)]
    congr 1
    rw [Bool.eq_iff_iff, beq_iff_eq, List.isPrefixOf_iff_prefix, List.prefix_iff_eq_take]
    simp
    exact eq_comm
  · rw [if_neg h]
    congr 1
    rw [eq_comm, Bool.eq_false_iff, ne_eq, List.isPrefixOf_iff_prefix]
    intro hp
    have := hp.length_le
    omega

/-! Lines with dots: the model. -/
def stf (l : Str) : Str := if ([46] : Str).isPrefixOf l = true then 46 :: l else l
def stuffs : List Str → Str → Option Str
  | [], out => if (out ++ [46, 13, 10]).length > 2000 then none else some (out ++ [46, 13, 10])
  | l :: r, out => if tvalid l = false ∨ out.length > 2000 then none else stuffs r (out ++ (stf l ++ [13, 10]))
def sres (o : Option Str) : ByteArray × Bool := match o with
  | none => (ofL [], false)
  | some s => (ofL s, true)
theorem stf_len (l : Str) : (stf l).length ≤ l.length + 1 ∧ l.length ≤ (stf l).length := by
  unfold stf; split
  · simp
  · omega

/-! Lines taken apart: the model. -/
def cutE : Str → Option (Str × Str)
  | [] => none
  | c :: r => if c = 13 ∧ r.head? = some 10 then some ([], r.drop 1) else match cutE r with
    | none => none
    | some (a, b) => some (c :: a, b)
theorem cutE_some (s : Str) : ∀ a b : Str, cutE s = some (a, b) → s = a ++ 13 :: 10 :: b := by
  induction s with
  | nil => intro a b h; cases h
  | cons c r ih =>
    intro a b h
    rw [cutE] at h
    split at h
    · rename_i hc
      obtain ⟨rfl, h2⟩ := hc
      cases h
      cases r with
      | nil => cases h2
      | cons d r => simp at h2; subst h2; rfl
    · cases e : cutE r with
      | none => rw [e] at h; cases h
      | some q =>
        obtain ⟨x, y⟩ := q
        rw [e] at h
        cases h
        rw [ih x b e]; rfl
theorem cutE_len {s a b : Str} (h : cutE s = some (a, b)) : s.length = a.length + b.length + 2 := by
  rw [cutE_some s a b h]; simp; omega
theorem cutE_free (x t : Str) (h : ∀ c ∈ x, c ≠ 13) : cutE (x ++ 13 :: 10 :: t) = some (x, t) := by
  induction x with
  | nil => rfl
  | cons c x ih =>
    rw [List.cons_append, cutE, if_neg (fun hh => h c (by simp) hh.1), ih (fun d hd => h d (by simp [hd]))]
theorem cutE_none_free (x : Str) (h : ∀ c ∈ x, c ≠ 10) : cutE x = none := by
  induction x with
  | nil => rfl
  | cons c x ih =>
    rw [cutE, if_neg, ih (fun d hd => h d (by simp [hd]))]
    rintro ⟨_, h2⟩
    cases x with
    | nil => cases h2
    | cons d x => simp at h2; exact h d (by simp) h2
theorem cutE_pre (x t : Str) (h : ∀ c ∈ x, c ≠ 13) (ht : cutE t = none) : cutE (x ++ t) = none := by
  induction x with
  | nil => exact ht
  | cons c x ih => rw [List.cons_append, cutE, if_neg (fun hh => h c (by simp) hh.1), ih (fun d hd => h d (by simp [hd]))]
def undot (l : Str) : Str := if ([46] : Str).isPrefixOf l = true then l.drop 1 else l
/-- Lines read; at the end what is behind them. -/
def unst : Nat → Str → List Str → Option (List Str × Str)
  | 0, _, _ => none
  | n + 1, s, acc => match cutE s with
    | none => none
    | some (a, b) => if a = [46] then some (acc, b) else if tvalid (undot a) = true then unst n b (acc ++ [undot a]) else none
def unstuff (s : Str) : Option (List Str × Str) := if s.length > 2000 then none else unst (s.length + 1) s []
def ures (o : Option (List Str × Str)) : List ByteArray × ByteArray × Bool := match o with
  | none => ([], ofL [], false)
  | some (x, y) => (x.map ofL, ofL y, true)
theorem tvalid_no {l : Str} (h : tvalid l = true) (n : UInt8) (hn : n < 32) : ∀ c ∈ l, c ≠ n := by
  intro c hc e
  subst e
  unfold tvalid at h
  simp only [Bool.and_eq_true, List.all_eq_true] at h
  have := h.1 c hc
  unfold okB at this
  simp [UInt8.le_iff_toNat_le, UInt8.lt_iff_toNat_lt] at this hn
  omega
theorem stf_no {l : Str} (h : tvalid l = true) (n : UInt8) (hn : n < 32) : ∀ c ∈ stf l, c ≠ n := by
  intro c hc
  unfold stf at hc
  split at hc
  · rcases List.mem_cons.mp hc with rfl | hc
    · rintro rfl; revert hn; decide
    · exact tvalid_no h n hn c hc
  · exact tvalid_no h n hn c hc
theorem undot_stf (l : Str) : undot (stf l) = l := by
  unfold stf
  split
  · unfold undot; simp [List.isPrefixOf]
  · rename_i h
    unfold undot; rw [if_neg h]
theorem stf_ne (l : Str) : stf l ≠ [46] := by
  unfold stf
  split
  · rename_i h
    cases l with
    | nil => simp [List.isPrefixOf] at h
    | cons c l => simp
  · rename_i h
    intro e; subst e; simp [List.isPrefixOf] at h
/-- What is sent of lines, but for the end. -/
def sbody : List Str → Str
  | [] => []
  | l :: r => stf l ++ 13 :: 10 :: sbody r
theorem stuffs_body (ls : List Str) : ∀ (out s : Str), stuffs ls out = some s → s = out ++ sbody ls ++ [46, 13, 10] ∧ ∀ l ∈ ls, tvalid l = true := by
  induction ls with
  | nil =>
    intro out s h
    rw [stuffs] at h
    split at h
    · cases h
    · cases h; exact ⟨by simp [sbody], by simp⟩
  | cons c r ih =>
    intro out s h
    rw [stuffs] at h
    split at h
    · cases h
    · rename_i hc
      obtain ⟨h1, h2⟩ := ih _ _ h
      have hc1 : tvalid c = true := by
        cases e : tvalid c with
        | true => rfl
        | false => exact absurd (Or.inl e) hc
      refine ⟨by rw [h1]; simp [sbody], fun l hl => ?_⟩
      rcases List.mem_cons.mp hl with rfl | hl
      · exact hc1
      · exact h2 l hl
theorem unst_body (ls : List Str) (t : Str) : ∀ (n : Nat) (acc : List Str), (∀ l ∈ ls, tvalid l = true) → ls.length < n → unst n (sbody ls ++ 46 :: 13 :: 10 :: t) acc = some (acc ++ ls, t) := by
  induction ls with
  | nil =>
    intro n acc _ hn
    obtain ⟨n, rfl⟩ : ∃ m, n = m + 1 := ⟨n - 1, by simp at hn; omega⟩
    have : cutE (46 :: 13 :: 10 :: t) = some ([46], t) := cutE_free [46] t (by simp)
    rw [sbody, List.nil_append, unst, this]
    simp
  | cons c r ih =>
    intro n acc h hn
    obtain ⟨n, rfl⟩ : ∃ m, n = m + 1 := ⟨n - 1, by simp at hn; omega⟩
    have hc := h c (by simp)
    have : cutE (stf c ++ 13 :: 10 :: (sbody r ++ 46 :: 13 :: 10 :: t)) = some (stf c, sbody r ++ 46 :: 13 :: 10 :: t) := cutE_free _ _ (stf_no hc 13 (by decide))
    have e : sbody (c :: r) ++ 46 :: 13 :: 10 :: t = stf c ++ 13 :: 10 :: (sbody r ++ 46 :: 13 :: 10 :: t) := by simp [sbody]
    rw [e, unst, this]
    simp only [if_neg (stf_ne c), undot_stf, if_pos hc]
    rw [ih n (acc ++ [c]) (fun l hl => h l (by simp [hl])) (by simp at hn; omega)]
    simp
theorem sbody_len (ls : List Str) : ls.length ≤ (sbody ls).length := by
  induction ls with
  | nil => simp [sbody]
  | cons c r ih => simp only [sbody, List.length_append, List.length_cons]; omega
theorem unstuff_stuffs {ls : List Str} {s : Str} (h : stuffs ls [] = some s) (t : Str) (hl : s.length + t.length ≤ 2000) : unstuff (s ++ t) = some (ls, t) := by
  obtain ⟨h1, h2⟩ := stuffs_body ls [] s h
  have hb := sbody_len ls
  unfold unstuff
  rw [if_neg (by rw [List.length_append]; omega)]
  have e : s ++ t = sbody ls ++ 46 :: 13 :: 10 :: t := by rw [h1]; simp
  rw [e, unst_body ls t _ [] h2 (by simp only [List.length_append, List.length_cons]; omega)]
  rfl
theorem unst_tvalid : ∀ (n : Nat) (s : Str) (acc x : List Str) (y : Str), unst n s acc = some (x, y) → (∀ l ∈ acc, tvalid l = true) → ∀ l ∈ x, tvalid l = true := by
  intro n
  induction n with
  | zero => intro s acc x y h; cases h
  | succ n ih =>
    intro s acc x y h ha
    rw [unst] at h
    cases e : cutE s with
    | none => rw [e] at h; cases h
    | some q =>
      obtain ⟨a, b⟩ := q
      rw [e] at h
      simp only at h
      split at h
      · cases h; exact ha
      · split at h
        · rename_i ht
          refine ih b _ x y h ?_
          intro l hl
          rcases List.mem_append.mp hl with hl | hl
          · exact ha l hl
          · rw [List.mem_singleton.mp hl]; exact ht
        · cases h
theorem unst_len : ∀ (n : Nat) (s : Str) (acc x : List Str) (y : Str), unst n s acc = some (x, y) → y.length ≤ s.length ∧ x.length ≤ acc.length + s.length := by
  intro n
  induction n with
  | zero => intro s acc x y h; cases h
  | succ n ih =>
    intro s acc x y h
    rw [unst] at h
    cases e : cutE s with
    | none => rw [e] at h; cases h
    | some q =>
      obtain ⟨a, b⟩ := q
      have hl := cutE_len e
      rw [e] at h
      simp only at h
      split at h
      · cases h; exact ⟨by omega, by omega⟩
      · split at h
        · have := ih b _ x y h
          simp only [List.length_append, List.length_cons, List.length_nil] at this
          exact ⟨by omega, by omega⟩
        · cases h
theorem unstuff_end {ls : List Str} {s : Str} (h : stuffs ls [] = some s) : unstuff (s.take (s.length - 1)) = none := by
  obtain ⟨h1, h2⟩ := stuffs_body ls [] s h
  have e : s.take (s.length - 1) = sbody ls ++ [46, 13] := by
    rw [h1]
    have : ([] ++ sbody ls ++ [46, 13, 10] : Str) = (sbody ls ++ [46, 13]) ++ [10] := by simp
    rw [this, List.length_append, List.length_singleton, Nat.add_sub_cancel]
    exact List.take_left
  have key : ∀ (ls : List Str) (n : Nat) (acc : List Str), (∀ l ∈ ls, tvalid l = true) → unst n (sbody ls ++ [46, 13]) acc = none := by
    intro ls
    induction ls with
    | nil =>
      intro n acc _
      cases n with
      | zero => rfl
      | succ n => rfl
    | cons c r ih =>
      intro n acc h
      cases n with
      | zero => rfl
      | succ n =>
        have hc := h c (by simp)
        have : cutE (stf c ++ 13 :: 10 :: (sbody r ++ [46, 13])) = some (stf c, sbody r ++ [46, 13]) := cutE_free _ _ (stf_no hc 13 (by decide))
        have e : sbody (c :: r) ++ [46, 13] = stf c ++ 13 :: 10 :: (sbody r ++ [46, 13]) := by simp [sbody]
        rw [e, unst, this]
        simp only [if_neg (stf_ne c), undot_stf, if_pos hc]
        exact ih n (acc ++ [c]) (fun l hl => h l (by simp [hl]))
  rw [e]
  unfold unstuff
  split
  · rfl
  · exact key ls _ [] h2
/-- More rounds than letters tell the same. -/
theorem unst_more : ∀ (n m : Nat) (s : Str) (acc : List Str), s.length < n → s.length < m → unst n s acc = unst m s acc := by
  intro n
  induction n with
  | zero => intro m s acc h; omega
  | succ n ih =>
    intro m s acc hn hm
    obtain ⟨m, rfl⟩ : ∃ k, m = k + 1 := ⟨m - 1, by omega⟩
    rw [unst, unst]
    cases e : cutE s with
    | none => rfl
    | some q =>
      obtain ⟨a, b⟩ := q
      have hl := cutE_len e
      simp only
      split
      · rfl
      · split
        · exact ih m b _ (by omega) (by omega)
        · rfl
/-! Cut at the end of a line: the library's words. -/
theorem index_E (s : Str) : Lib.index s [13, 10] = match cutE s with
    | none => -1
    | some (a, _) => (a.length : Int) := by
  induction s with
  | nil => rfl
  | cons c r ih =>
    rw [Lib.index, cutE]
    have hp : ([13, 10] : Str).isPrefixOf (c :: r) = true ↔ (c = 13 ∧ r.head? = some 10) := by
      cases r with
      | nil => simp [List.isPrefixOf]
      | cons d r => simp only [List.isPrefixOf, List.head?_cons, Option.some.injEq, Bool.and_true, Bool.and_eq_true, beq_iff_eq]; constructor <;> (rintro ⟨h1, h2⟩; exact ⟨h1.symm, h2.symm⟩)
    by_cases h : c = 13 ∧ r.head? = some 10
    · rw [if_pos (hp.mpr h), if_pos h]; rfl
    · rw [if_neg (fun hh => h (hp.mp hh)), if_neg h, ih]
      cases e : cutE r with
      | none => rfl
      | some q =>
        obtain ⟨a, b⟩ := q
        simp only [List.length_cons]
        rw [if_neg (by simp)]
        rfl
theorem cut_E (s : Str) : Lib.cut s [13, 10] = match cutE s with
    | none => (s, [], false)
    | some (a, b) => (a, b, true) := by
  unfold Lib.cut
  rw [index_E]
  cases e : cutE s with
  | none => rfl
  | some q =>
    obtain ⟨a, b⟩ := q
    have := cutE_some s a b e
    simp only
    rw [if_pos (by omega)]
    subst this
    simp

theorem strings_Cut_E (s : Str) (h : s.length ≤ 1000000) : strings_Cut.f (ofL s) (⟨#[13, 10]⟩ : ByteArray) = some (match cutE s with
    | none => (ofL s, ofL [], false)
    | some (a, b) => (ofL a, ofL b, true)) := by
  unfold strings_Cut.f
  rw [if_pos (by rw [size_ofL]; omega)]
  have e : Lib.cut (ofL s).data.toList (⟨#[13, 10]⟩ : ByteArray).data.toList = _ := cut_E s
  rw [e]
  cases cutE s with
  | none => rfl
  | some q => rfl
theorem strings_TrimPrefix_dot (a : Str) : strings_TrimPrefix.f (ofL a) (⟨#[46]⟩ : ByteArray) = some (ofL (undot a)) := by
  unfold strings_TrimPrefix.f stringslite_TrimPrefix.f
  simp only [mk_ofL, lit_list]
  rw [stringslite_HasPrefix_eq]
  simp only [Option.bind_some, size_ofL]
  unfold undot
  by_cases h : ([46] : Str).isPrefixOf a = true
  · have hl : 1 ≤ a.length := by
      cases a with
      | nil => simp [List.isPrefixOf] at h
      | cons c a => simp
    rw [if_pos h, if_pos h, if_pos (by simp), if_pos (by simp; omega)]
    simp only [extract_ofL, Option.bind_some, List.length_cons, List.length_nil]
    congr 2
    exact List.take_of_length_le (by simp)
  · rw [if_neg h, if_neg h]; rfl
theorem impl_UnstuffText_loop : ∀ (n : Nat) (s : Str) (acc : List Str), s.length < n → s.length ≤ 2000 → acc.length + s.length ≤ 5000 → Ev (fun k => impl_UnstuffText.l0 k (ofL s) (acc.map ofL)) (ures (unst n s acc)) := by
  intro n
  induction n with
  | zero => intro s acc h; omega
  | succ n ih =>
    intro s acc h h2 h3
    refine ev_succ ?_
    simp only [impl_UnstuffText.l0]
    rw [strings_Cut_E s (by omega), unst]
    cases e : cutE s with
    | none => exact ev_bind0 rfl (ev_neg (by simp) (ev_some _))
    | some q =>
      obtain ⟨a, b⟩ := q
      have hl := cutE_len e
      refine ev_bind0 rfl (ev_pos rfl ?_)
      simp only [toList_ofL]
      by_cases ha : a = [46]
      · rw [if_pos ha]
        exact ev_pos ha (ev_some _)
      · rw [if_neg ha]
        refine ev_neg ha (ev_bind0 (strings_TrimPrefix_dot a) (ev_bind (impl_TextValid_ev _ (by have : (undot a).length ≤ a.length := (by unfold undot; split <;> simp); omega)) ?_))
        by_cases ht : tvalid (undot a) = true
        · rw [if_pos ht]
          have := ih b (acc ++ [undot a]) (by omega) (by omega) (by simp; omega)
          rw [List.map_append] at this
          exact ev_pos ht (ev_pos (by rw [List.length_map]; omega) this)
        · rw [if_neg ht]
          exact ev_neg ht (ev_some _)
theorem impl_UnstuffText_ev (s : Str) (h : s.length ≤ 1000000000000000) : Ev (fun k => impl_UnstuffText.f k (ofL s)) (ures (unstuff s)) := by
  unfold impl_UnstuffText.f unstuff
  rw [size_ofL]
  by_cases hc : s.length > 2000
  · rw [if_pos hc]
    exact ev_pos (by omega) (ev_some _)
  · rw [if_neg hc]
    exact ev_neg (by omega) (impl_UnstuffText_loop (s.length + 1) s [] (by omega) (by omega) (by simp; omega))

theorem spec_l9Line_loop (s : Str) (hs : s.length ≤ 1000000000) (r : Str) : ∀ (p : Str), s = p ++ r → Ev (fun k => spec_l9Line.l0 k (ofL s) (p.length : Int)) (match cutE r with
    | none => (ofL [], (-1 : Int))
    | some (a, _) => (ofL (p ++ a), (p.length : Int) + (a.length : Int) + 2)) := by
  induction r with
  | nil =>
    intro p h
    have hz : s.length = p.length := by rw [h, List.append_nil]
    have w1 : wrap64 ((p.length : Int) + 1) = (p.length : Int) + 1 := wrap_id (by omega) (by omega)
    refine ev_succ ?_
    simp only [spec_l9Line.l0, size_ofL, w1]
    exact ev_neg (by omega) (ev_some _)
  | cons c r ih =>
    intro p h
    have hz := len_mid h
    have w1 : wrap64 ((p.length : Int) + 1) = (p.length : Int) + 1 := wrap_id (by omega) (by omega)
    have w2 : wrap64 ((p.length : Int) + 2) = (p.length : Int) + 2 := wrap_id (by omega) (by omega)
    have e1 : bt (ofL s) (p.length : Int) = (c.toNat : Int) := bt_ofL_mid h
    have hi := ih (p ++ [c]) (by rw [h]; simp)
    rw [len_snoc] at hi
    refine ev_succ ?_
    simp only [spec_l9Line.l0, size_ofL, w1, w2, e1]
    clear w1 w2 e1
    cases r with
    | nil =>
      have hc : cutE [c] = none := by rw [cutE, if_neg (by simp)]; rfl
      rw [hc]
      exact ev_neg (by simp at hz; omega) (ev_some _)
    | cons d t =>
      have e2 : bt (ofL s) ((p.length : Int) + 1) = (d.toNat : Int) := by
        have := bt_ofL_mid (l := s) (p := p ++ [c]) (r := t) (c := d) (by rw [h]; simp)
        rw [len_snoc] at this
        exact this
      rw [e2]
      clear e2
      simp only [List.length_cons] at hz
      refine ev_pos (by omega) (ev_pos (by omega) (ev_pos (by omega) ?_))
      have go : ¬ (c = 13 ∧ (d :: t).head? = some 10) → Ev (fun k => spec_l9Line.l0 k (ofL s) ((p.length : Int) + 1)) (match cutE (c :: d :: t) with
          | none => (ofL [], (-1 : Int))
          | some (a, _) => (ofL (p ++ a), (p.length : Int) + (a.length : Int) + 2)) := by
        intro hn
        refine ev_eq hi ?_
        rw [cutE.eq_2 c, if_neg hn]
        cases cutE (d :: t) with
        | none => rfl
        | some q =>
          obtain ⟨a, b⟩ := q
          simp only [List.append_assoc, List.singleton_append, List.length_cons]
          congr 1
          omega
      by_cases hc : (c.toNat : Int) = 13
      · have hc' : c = 13 := (u8_eq c 13 (by omega)).mp hc
        refine ev_pos hc (ev_pos (by omega) ?_)
        by_cases hd : (d.toNat : Int) = 10
        · have hd' : d = 10 := (u8_eq d 10 (by omega)).mp hd
          refine ev_pos hd (ev_pos (by omega) (ev_eq (ev_some _) ?_))
          rw [cutE, if_pos ⟨hc', by rw [hd']; rfl⟩]
          simp only [extract_ofL, List.append_nil, List.length_nil]
          congr 1
          rw [h]; simp
        · have hd' : ¬ d = 10 := fun hh => hd ((u8_eq d 10 (by omega)).mpr hh)
          exact ev_neg hd (go (fun hh => hd' (by simpa using hh.2)))
      · have hc' : ¬ c = 13 := fun hh => hc ((u8_eq c 13 (by omega)).mpr hh)
        exact ev_neg hc (go (fun hh => hc' hh.1))
theorem spec_l9Line_ev (s : Str) (hs : s.length ≤ 1000000000) : Ev (fun k => spec_l9Line.f k (ofL s)) (match cutE s with
    | none => (ofL [], (-1 : Int))
    | some (a, _) => (ofL a, (a.length : Int) + 2)) := by
  unfold spec_l9Line.f
  refine ev_eq (spec_l9Line_loop s hs s [] rfl) ?_
  cases cutE s with
  | none => rfl
  | some q => obtain ⟨a, b⟩ := q; simp
theorem spec_UnstuffText_loop : ∀ (n : Nat) (s : Str) (acc : List Str), s.length < n → s.length ≤ 2000 → acc.length + s.length ≤ 5000 → Ev (fun k => spec_UnstuffText.l0 k (ofL s) (acc.map ofL)) (ures (unst n s acc)) := by
  intro n
  induction n with
  | zero => intro s acc h; omega
  | succ n ih =>
    intro s acc h h2 h3
    refine ev_succ ?_
    simp only [spec_UnstuffText.l0, size_ofL]
    refine ev_pos (by omega) (ev_bind (spec_l9Line_ev s (by omega)) ?_)
    rw [unst]
    cases e : cutE s with
    | none => exact ev_pos (by simp) (ev_some _)
    | some q =>
      obtain ⟨a, b⟩ := q
      have hl := cutE_len e
      have hs := cutE_some s a b e
      have ex : (ofL s).extract ((a.length : Int) + 2).toNat s.length = ofL b := by
        rw [extract_ofL]
        have e3 : ((a.length : Int) + 2).toNat = a.length + 2 := by omega
        rw [e3]
        congr 1
        have e4 : s = (a ++ [13, 10]) ++ b := by rw [hs]; simp
        rw [e4, List.drop_left' (by simp)]
        exact List.take_of_length_le (by simp; omega)
      simp only [toList_ofL, size_ofL, ex]
      refine ev_neg (by omega) (ev_pos (by omega) (ev_pos (by omega) ?_))
      by_cases ha : a = [46]
      · rw [if_pos ha]
        exact ev_pos ha (ev_some _)
      · rw [if_neg ha]
        refine ev_neg ha ?_
        have done : ∀ c : Str, c = undot a → Ev (fun k => (spec_TextValid.f k (ofL c)).bind fun t => if t = true then (if (acc.map ofL).length < 8796093022208 then spec_UnstuffText.l0 k (ofL b) (acc.map ofL ++ [ofL c]) else none) else some (([] : List ByteArray), (⟨#[]⟩ : ByteArray), false)) (ures (if tvalid (undot a) = true then unst n b (acc ++ [undot a]) else none)) := by
          rintro c rfl
          refine ev_bind (spec_TextValid_ev _ (by have : (undot a).length ≤ a.length := (by unfold undot; split <;> simp); omega)) ?_
          by_cases ht : tvalid (undot a) = true
          · rw [if_pos ht]
            have := ih b (acc ++ [undot a]) (by omega) (by omega) (by simp; omega)
            rw [List.map_append] at this
            exact ev_pos ht (ev_pos (by rw [List.length_map]; omega) this)
          · rw [if_neg ht]
            exact ev_neg ht (ev_some _)
        cases a with
        | nil =>
          refine ev_pos rfl (ev_succ ?_)
          simp only [spec_UnstuffText.j1]
          exact ev_neg (by simp) (done [] rfl)
        | cons c a =>
          simp only [bt_zero]
          refine ev_neg (by simp) (ev_pos (by simp) (ev_succ ?_))
          simp only [spec_UnstuffText.j1, size_ofL, extract_ofL]
          by_cases hc : c = 46
          · subst hc
            refine ev_pos (by simp) (ev_pos (by simp; omega) ?_)
            have e5 : (List.take ((46 :: a).length - 1) (List.drop 1 (46 :: a)) : Str) = a := by simp
            rw [e5]
            exact done a (by simp [undot, List.isPrefixOf])
          · have hc' : ((c.toNat : Int) == 46) = false := by
              rw [beq_eq_false_iff_ne]
              exact fun hh => hc ((u8_eq c 46 (by omega)).mp hh)
            rw [hc']
            exact ev_neg (by simp) (done (c :: a) (by
              unfold undot
              rw [if_neg]
              simp [List.isPrefixOf]
              exact fun hh => hc hh.symm))
theorem spec_UnstuffText_ev (s : Str) (h : s.length ≤ 1000000000000000) : Ev (fun k => spec_UnstuffText.f k (ofL s)) (ures (unstuff s)) := by
  unfold spec_UnstuffText.f unstuff
  by_cases hc : s.length > 2000
  · rw [if_pos hc]
    refine ev_succ ?_
    simp only [spec_UnstuffText.l0, size_ofL]
    exact ev_neg (by omega) (ev_some _)
  · rw [if_neg hc]
    exact spec_UnstuffText_loop (s.length + 1) s [] (by omega) (by omega) (by simp; omega)

theorem laws_eqStringS_ev (a b : List Str) (hn : a.length ≤ 1000000000000000) : Ev (fun k => laws_eqStringS.f k (a.map ofL) (b.map ofL)) (decide (a = b)) := by
  unfold laws_eqStringS.f
  simp only [List.length_map]
  by_cases hl : a.length = b.length
  · refine ev_pos (by omega) ?_
    refine ev_eq (run_start (xs := a) (F := fun k (_ : List Str) i => laws_eqStringS.l0 k (a.map ofL) (b.map ofL) i) (st := fun r c => match r with
      | [] => .inl false
      | d :: r => if c = d then .inr r else .inl false) (fin := fun _ => true) (s := b) (fun p r => ∃ q, b = q ++ r ∧ q.length = p.length) ⟨[], rfl, rfl⟩ ?_ ?_) ?_
    · rintro p c r s h ⟨q, hq, hql⟩
      have hz := len_mid h
      have e1 := rdOf_ofL h
      have w1 : wrap64 ((p.length : Int) + 1) = (p.length : Int) + 1 := wrap_id (by omega) (by omega)
      cases s with
      | nil => rw [hq] at hl; simp at hl; omega
      | cons d s =>
        have e2 := rdOf_ofL hq
        rw [hql] at e2
        simp only [laws_eqStringS.l0, e1, e2, w1, List.length_map, toList_ofL]
        clear w1 e1 e2
        by_cases e : c = d
        · simp only [if_pos e]
          refine ⟨(fun v hv => by cases hv), fun s' hs => ⟨?_, fun v hv => ?_⟩⟩
          · cases hs; exact ⟨q ++ [d], by rw [hq]; simp, by simp [hql]⟩
          · exact ev_pos (by omega) (ev_pos (by omega) (ev_pos (by omega) hv))
        · simp only [if_neg e]
          refine ⟨(fun v hv => ?_), fun s' hs => by cases hs⟩
          cases hv
          exact ev_pos (by omega) (ev_pos (by omega) (ev_pos (by omega) (ev_some _)))
    · intro s _
      simp only [laws_eqStringS.l0, List.length_map]
      exact ev_neg (by omega) (ev_some _)
    · clear hn
      induction a generalizing b with
      | nil => cases b with
        | nil => rfl
        | cons d b => simp at hl
      | cons c a ih => cases b with
        | nil => simp at hl
        | cons d b =>
          unfold run
          by_cases e : c = d
          · simp only [if_pos e]; rw [ih b (by simpa using hl)]; simp [e]
          · simp only [if_neg e]; simp [e]
  · refine ev_neg (by omega) (ev_eq (ev_some _) ?_)
    rw [eq_comm]; exact decide_eq_false (fun h => hl (by rw [h]))

/-! Marks. -/
theorem markText_loop : ∀ (n : Nat) (a : Nat) (out : Str), a < n → out.length + a ≤ 100000000000000000 → ∃ s : Str, Ev (fun k => laws_markText.l0 k (a : Int) (ofL out)) (ofL s) := by
  intro n
  induction n with
  | zero => intro a out h; omega
  | succ n ih =>
    intro a out h hb
    by_cases h0 : a = 0
    · subst h0
      refine ⟨109 :: out, ev_succ ?_⟩
      simp only [laws_markText.l0, size_ofL, mk_ofL, lit_list, ofL_append]
      exact ev_neg (by simp) (ev_pos (by omega) (ev_some _))
    · have hd : a / 10 + 1 ≤ a := by omega
      have e1 : Int.tdiv (a : Int) 10 = ((a / 10 : Nat) : Int) := by rw [Int.tdiv_eq_ediv_of_nonneg (by omega)]; omega
      have e2 : wrap64 (((a / 10 : Nat) : Int)) = ((a / 10 : Nat) : Int) := wrap_id (by omega) (by omega)
      obtain ⟨x, hx⟩ : ∃ x : Int, x = (wrap64 (48 + (Int.tmod (a : Int) 10))) % 256 := ⟨_, rfl⟩
      obtain ⟨c, hc⟩ : ∃ c : Str, strOfNums [x] = ofL c ∧ c.length = 1 := ⟨[UInt8.ofNat x.toNat], rfl, rfl⟩
      obtain ⟨s, hs⟩ := ih (a / 10) (c ++ out) (by omega) (by rw [List.length_append, hc.2]; omega)
      refine ⟨s, ev_succ ?_⟩
      simp only [laws_markText.l0, ← hx, Option.bind_some, hc.1, size_ofL, ofL_append, e1, e2]
      exact ev_pos (by omega) (ev_pos (by rw [hc.2]; omega) hs)
theorem markText_ev (a : Nat) (h : a ≤ 10000000000000000) : ∃ s : Str, Ev (fun k => laws_markText.f k (a : Int)) (ofL s) := by
  unfold laws_markText.f
  by_cases h0 : a = 0
  · exact ⟨[109, 48], ev_pos (by omega) (ev_some _)⟩
  · obtain ⟨s, hs⟩ := markText_loop (a + 1) a [] (by omega) (by simp; omega)
    exact ⟨s, ev_neg (by omega) hs⟩
/-- What is written as marks. -/
def IsMark (T : Nat → Str) : Prop := ∀ a : Nat, a ≤ 10000000000000000 → Ev (fun k => laws_markText.f k (a : Int)) (ofL (T a))
theorem marks_are : ∃ T, IsMark T := by
  have : ∀ a : Nat, ∃ s : Str, a ≤ 10000000000000000 → Ev (fun k => laws_markText.f k (a : Int)) (ofL s) := by
    intro a
    by_cases h : a ≤ 10000000000000000
    · obtain ⟨s, hs⟩ := markText_ev a h
      exact ⟨s, fun _ => hs⟩
    · exact ⟨[], fun h2 => absurd h2 h⟩
  obtain ⟨T, hT⟩ := Classical.axiomOfChoice this
  exact ⟨T, hT⟩
def mks (T : Nat → Str) : Nat → Nat → List ByteArray
  | _, 0 => []
  | m, n + 1 => ofL (T m) :: mks T (m + 1) n
theorem mks_length (T : Nat → Str) (n : Nat) : ∀ m, (mks T m n).length = n := by
  induction n with
  | zero => intro m; rfl
  | succ n ih => intro m; rw [mks, List.length_cons, ih]
theorem markStringS_loop (T : Nat → Str) (hT : IsMark T) (r : List ByteArray) : ∀ (p : List ByteArray) (m : Nat), p.length + r.length ≤ 1000000000000000 → m + r.length ≤ 10000000000000000 → Ev (fun k => laws_markStringS.l0 k (p ++ r) (m : Int) (p.length : Int)) (((m + r.length : Nat) : Int), p ++ mks T m r.length) := by
  induction r with
  | nil =>
    intro p m h h2
    refine ev_succ ?_
    simp only [laws_markStringS.l0]
    exact ev_neg (by simp) (ev_some _)
  | cons c r ih =>
    intro p m h h2
    simp only [List.length_cons] at h h2
    have w1 : wrap64 ((p.length : Int) + 1) = (p.length : Int) + 1 ∧ wrap64 ((m : Int) + 1) = ((m + 1 : Nat) : Int) := ⟨wrap_id (by omega) (by omega), wrap_id (by omega) (by omega)⟩
    have e1 : (p ++ c :: r).set ((p.length : Nat) : Int).toNat (ofL (T m)) = (p ++ [ofL (T m)]) ++ r := by
      rw [Int.toNat_natCast, List.set_append_right _ _ (Nat.le_refl _), Nat.sub_self, List.set_cons_zero]; simp
    have := ih (p ++ [ofL (T m)]) (m + 1) (by simp; omega) (by omega)
    rw [len_snoc] at this
    refine ev_succ ?_
    simp only [laws_markStringS.l0, w1.1, w1.2]
    clear w1
    refine ev_pos (by simp; omega) (ev_bind (hT m (by omega)) (ev_pos (by omega) ?_))
    rw [e1]
    refine ev_eq this ?_
    simp only [mks, List.length_cons, List.append_assoc, List.singleton_append]
    congr 1
    omega
theorem markStringS_ev (T : Nat → Str) (hT : IsMark T) (r : List ByteArray) (m : Nat) (h : r.length ≤ 1000000000000000) (h2 : m + r.length ≤ 10000000000000000) : Ev (fun k => laws_markStringS.f k r (m : Int)) (((m + r.length : Nat) : Int), mks T m r.length) := by
  unfold laws_markStringS.f
  have := markStringS_loop T hT r [] m (by simpa using h) h2
  simpa using this
theorem heldStringS_loop (T : Nat → Str) (hT : IsMark T) (n : Nat) : ∀ (p : List ByteArray) (m : Nat), p.length + n ≤ 1000000000000000 → m + n ≤ 10000000000000000 → Ev (fun k => laws_heldStringS.l0 k (p ++ mks T m n) (m : Int) (p.length : Int)) (((m + n : Nat) : Int)) := by
  induction n with
  | zero =>
    intro p m h h2
    refine ev_succ ?_
    simp only [laws_heldStringS.l0, mks, List.append_nil]
    exact ev_neg (by omega) (ev_some _)
  | succ n ih =>
    intro p m h h2
    have w1 : wrap64 ((p.length : Int) + 1) = (p.length : Int) + 1 ∧ wrap64 ((m : Int) + 1) = ((m + 1 : Nat) : Int) := ⟨wrap_id (by omega) (by omega), wrap_id (by omega) (by omega)⟩
    have := ih (p ++ [ofL (T m)]) (m + 1) (by simp; omega) (by omega)
    rw [len_snoc] at this
    have e1 : rdOf ByteArray.empty (p ++ mks T m (n + 1)) (p.length : Int) = ofL (T m) := rdOf_mid _ _ _ _
    refine ev_succ ?_
    simp only [laws_heldStringS.l0, w1.1, w1.2, e1]
    clear w1
    refine ev_pos (by simp [mks]; omega) (ev_pos (by omega) (ev_bind (hT m (by omega)) (ev_pos rfl ?_)))
    refine ev_eq ?_ (show (((m + 1 + n : Nat) : Int)) = ((m + (n + 1) : Nat) : Int) by omega)
    have e2 : p ++ mks T m (n + 1) = (p ++ [ofL (T m)]) ++ mks T (m + 1) n := by simp [mks]
    rw [e2]
    exact this
theorem heldStringS_ev (T : Nat → Str) (hT : IsMark T) (n m : Nat) (h : n ≤ 1000000000000000) (h2 : m + n ≤ 10000000000000000) : Ev (fun k => laws_heldStringS.f k (mks T m n) (m : Int)) (((m + n : Nat) : Int)) := by
  unfold laws_heldStringS.f
  have := heldStringS_loop T hT n [] m (by simpa using h) h2
  simpa using this

theorem unstuff_len {s : Str} {x : List Str} {y : Str} (h : unstuff s = some (x, y)) : x.length ≤ 2000 ∧ y.length ≤ 2000 ∧ s.length ≤ 2000 := by
  unfold unstuff at h
  split at h
  · cases h
  · have := unst_len _ _ _ _ _ h
    simp only [List.length_nil] at this
    omega
theorem FnExactUnstuffText : laws_FnExactUnstuffText.Pure := by
  intro a0 ha
  apply ev_rounds
  obtain ⟨s, rfl⟩ : ∃ s, a0 = ofL s := ⟨L a0, (ofL_L a0).symm⟩
  rw [size_ofL] at ha
  unfold laws_FnExactUnstuffText.f
  by_cases hc : ((ofL s).size : Int) > 1048576
  · exact ev_pos hc (ev_some _)
  · have i1 := impl_UnstuffText_ev s (by omega)
    have i2 := spec_UnstuffText_ev s (by omega)
    obtain ⟨T, hT⟩ := marks_are
    obtain ⟨x, y, b, hx, hxl⟩ : ∃ (x : List Str) (y : Str) (b : Bool), ures (unstuff s) = (x.map ofL, ofL y, b) ∧ x.length ≤ 2000 := by
      cases e : unstuff s with
      | none => exact ⟨[], [], false, rfl, by simp⟩
      | some q => obtain ⟨x, y⟩ := q; exact ⟨x, y, true, rfl, (unstuff_len e).1⟩
    rw [hx] at i1 i2
    have he := laws_eqStringS_ev x x (by omega)
    have hm := markStringS_ev T hT (x.map ofL) 1 (by rw [List.length_map]; omega) (by rw [List.length_map]; omega)
    rw [List.length_map] at hm
    have hh := heldStringS_ev T hT x.length 1 (by omega) (by omega)
    have hb : (b != b) = false := by simp
    refine ev_neg hc (ev_bind i2 (ev_bind i1 (ev_bind he (ev_pos (decide_eq_true rfl) (ev_pos rfl (ev_succ ?_))))))
    simp only [laws_FnExactUnstuffText.j0, hb]
    refine ev_neg (by simp) (ev_bind hm (ev_bind hh (ev_neg (by omega) (ev_pos rfl (ev_bind i1 (ev_bind he (ev_pos (decide_eq_true rfl) (ev_pos rfl (ev_succ ?_)))))))))
    simp only [laws_FnExactUnstuffText.j1, hb]
    exact ev_neg (by simp) (ev_bind hh (ev_neg (by omega) (ev_pos rfl (ev_some _))))

end Go.Proofs.Ythlgdfjckhjiaaa.Pure
