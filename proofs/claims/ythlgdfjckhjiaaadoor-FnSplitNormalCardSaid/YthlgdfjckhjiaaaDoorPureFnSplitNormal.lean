/- Proved here: the pure form of the law FnSplitNormal (ends are lines) returns true for all arguments; conditions: none beyond those that the printed statement bears. -/
import Derived.Test.YthlgdfjckhjiaaaDoorPFnSplitNormalx2
import Derived.Test.YthlgdfjckhjiaaaDoorZb
namespace Go.Proofs.YthlgdfjckhjiaaaDoor.Pure
open Go.RowKit Go.Proofs.YthlgdfjckhjiaaaDoor.X Go.Proofs.YthlgdfjckhjiaaaDoor.PFnSplitNormal Go.Proofs.YthlgdfjckhjiaaaDoorW.PrintWords Go.Proofs.YthlgdfjckhjiaaaDoorW.PrintLast Go.Proofs.YthlgdfjckhjiaaaDoor.Z
set_option linter.unusedVariables false
set_option linter.unusedSimpArgs false

/-! The reader of draws. -/
theorem xor_nonneg (a b : Nat) (ha : a < 9223372036854775808) (hb : b < 9223372036854775808) : Go.bits .xor .i64 (a : Int) (b : Int) = ((a ^^^ b : Nat) : Int) := by
  have hx : a ^^^ b < 2 ^ 63 := Nat.xor_lt_two_pow (by omega) (by omega)
  have h1 : (BitVec.ofInt 64 (a : Int)).toNat = a := by
    rw [BitVec.ofInt_natCast, BitVec.toNat_ofNat]; exact Nat.mod_eq_of_lt (by omega)
  have h2 : (BitVec.ofInt 64 (b : Int)).toNat = b := by
    rw [BitVec.ofInt_natCast, BitVec.toNat_ofNat]; exact Nat.mod_eq_of_lt (by omega)
  show IntKind.i64.wrap ((BitVec.ofInt 64 (a : Int) ^^^ BitVec.ofInt 64 (b : Int)).toNat : Int) = _
  rw [BitVec.toNat_xor, h1, h2]
  rw [i64_w]
  exact wrap_id (by omega) (by omega)
theorem tmod_in {a b : Int} (ha : 0 ≤ a) (hb : 1 ≤ b) : 0 ≤ Int.tmod a b ∧ Int.tmod a b < b := by
  rw [Int.tmod_eq_emod_of_nonneg ha]
  exact ⟨Int.emod_nonneg _ (by omega), Int.emod_lt_of_pos _ (by omega)⟩
/-- What is known of the bytes that are drawn from. -/
def IsB (l : List Int) : Prop := l.length ≤ 2000 ∧ ∀ x ∈ l, 0 ≤ x ∧ x ≤ 255
theorem rd_in {l : List Int} (h : IsB l) (i : Int) : 0 ≤ rd l i ∧ rd l i ≤ 255 := by
  unfold rd
  rw [List.getD_eq_getElem?_getD]
  cases e : l[i.toNat]? with
  | none => simp
  | some x => exact h.2 x (List.mem_of_getElem? e)
theorem pick_ev (l : List Int) (p n : Int) (hl : IsB l) (h0 : 0 ≤ p) (h1 : p ≤ 1000000000) (hn : 1 ≤ n) (hn2 : n ≤ 1000000000) :
    ∃ v, Ev (fun k => spec_l13Rd_pick.f k l p n) (v, p + 1) ∧ 0 ≤ v ∧ v < n := by
  have hw : wrap64 (p + 1) = p + 1 := wrap_id (by omega) (by omega)
  have hw2 : wrap64 (p + 1 - 1) = p := by rw [wrap_id (by omega) (by omega)]; omega
  have hlen := hl.1
  unfold spec_l13Rd_pick.f
  rw [hw]
  by_cases he : (l.length : Int) = 0
  · refine ⟨0, ev_neg (by omega) (ev_succ ?_), by omega, by omega⟩
    simp only [spec_l13Rd_pick.j0]
    refine ev_pos ?_ (ev_some _)
    rw [he]; rfl
  have hb : ((l.length : Int) == 0) = false := by simp at he ⊢; exact he
  rw [hb]
  by_cases hlt : p < (l.length : Int)
  · have hv := tmod_in (rd_in hl p).1 hn
    have hr : wrap64 (rd l p) = rd l p := by have := rd_in hl p; exact wrap_id (by omega) (by omega)
    refine ⟨Int.tmod (rd l p) n, ev_neg (by omega) (ev_succ ?_), hv.1, hv.2⟩
    simp only [spec_l13Rd_pick.j0, hw2, hr]
    exact ev_neg (by simp) (ev_pos hlt (ev_pos h0 (ev_neg (by omega) (ev_some _))))
  · have hq := tmod_in h0 (b := (l.length : Int)) (by omega)
    have hm : wrap64 (wrap64 (p * 7) + 3) = p * 7 + 3 := by rw [wrap_id (x := p * 7) (by omega) (by omega), wrap_id (by omega) (by omega)]
    have hq2 := tmod_in (a := p * 7 + 3) (by omega) (b := (l.length : Int)) (by omega)
    have r1 := rd_in hl (Int.tmod p l.length)
    have r2 := rd_in hl (Int.tmod (p * 7 + 3) l.length)
    generalize hA : rd l (Int.tmod p l.length) = A at r1
    generalize hB : rd l (Int.tmod (p * 7 + 3) l.length) = B at r2
    have hd : 0 ≤ Int.tdiv p l.length ∧ Int.tdiv p l.length ≤ p := by
      rw [Int.tdiv_eq_ediv_of_nonneg h0]
      refine ⟨Int.ediv_nonneg h0 (by omega), Int.ediv_le_self _ h0⟩
    generalize hD : Int.tdiv p l.length = D at hd
    have w1 : wrap64 A = A := wrap_id (by omega) (by omega)
    have w2 : wrap64 B = B := wrap_id (by omega) (by omega)
    have w3 : wrap64 (A * 131) = A * 131 := wrap_id (by omega) (by omega)
    have w4 : wrap64 (B * 1117) = B * 1117 := wrap_id (by omega) (by omega)
    have w5 : wrap64 (A * 131 + B * 1117) = A * 131 + B * 1117 := wrap_id (by omega) (by omega)
    have w6 : wrap64 (p * 29) = p * 29 := wrap_id (by omega) (by omega)
    have w7 : wrap64 (A * 131 + B * 1117 + p * 29) = A * 131 + B * 1117 + p * 29 := wrap_id (by omega) (by omega)
    have w8 : wrap64 D = D := wrap_id (by omega) (by omega)
    have w9 : wrap64 (D * 53) = D * 53 := wrap_id (by omega) (by omega)
    have w10 : wrap64 (A * 131 + B * 1117 + p * 29 + D * 53) = A * 131 + B * 1117 + p * 29 + D * 53 := wrap_id (by omega) (by omega)
    have hX : 0 ≤ A * 131 + B * 1117 + p * 29 + D * 53 ∧ A * 131 + B * 1117 + p * 29 + D * 53 < 9223372036854775808 := by omega
    generalize hXX : A * 131 + B * 1117 + p * 29 + D * 53 = X at hX w10
    have hX2 : 0 ≤ Int.tdiv X 64 ∧ Int.tdiv X 64 ≤ X := by
      rw [Int.tdiv_eq_ediv_of_nonneg hX.1]
      refine ⟨Int.ediv_nonneg hX.1 (by omega), Int.ediv_le_self _ hX.1⟩
    have w11 : wrap64 (Int.tdiv X 64) = Int.tdiv X 64 := wrap_id (by omega) (by omega)
    have hxor : 0 ≤ Go.bits .xor .i64 X (Int.tdiv X 64) := by
      obtain ⟨a, ha⟩ := Int.eq_ofNat_of_zero_le hX.1
      obtain ⟨b, hb⟩ := Int.eq_ofNat_of_zero_le hX2.1
      rw [hb, ha, xor_nonneg _ _ (by omega) (by omega)]
      omega
    have hv := tmod_in hxor hn
    refine ⟨Int.tmod (Go.bits .xor .i64 X (Int.tdiv X 64)) n, ev_neg (by omega) (ev_succ ?_), hv.1, hv.2⟩
    simp only [spec_l13Rd_pick.j0, hw2, hm, hA, hB, hD, w1, w2, w3, w4, w5, w6, w7, w8, w9, hXX, w10, w11]
    exact ev_neg (by simp) (ev_neg hlt (ev_neg he (ev_pos hq.1 (ev_pos hq.2 (ev_pos hq2.1 (ev_pos hq2.2 (ev_neg (by omega) (ev_some _))))))))
theorem isB_take {l : List Int} (h : ∀ x ∈ l, (Lit.int .u8 x).wf = true) (n : Nat) (hn : (l.take n).length ≤ 2000) : IsB (l.take n) := by
  refine ⟨hn, fun x hx => ?_⟩
  have := h x (List.mem_of_mem_take hx)
  simp [Lit.wf, IntKind.min, IntKind.max, IntKind.bits, IntKind.signed] at this
  omega
theorem of_ev (l : List Int) (p : Int) (ws : List ByteArray) (hl : IsB l) (h0 : 0 ≤ p) (h1 : p ≤ 1000000000) (hn : 1 ≤ ws.length) (hn2 : ws.length ≤ 1000000) :
    ∃ v, Ev (fun k => spec_l13Rd_of.f k l p ws) (v, p + 1) ∧ v ∈ ws := by
  obtain ⟨i, hi, i0, i1⟩ := pick_ev l p ws.length hl h0 h1 (by omega) (by omega)
  have hlt : i.toNat < ws.length := by omega
  refine ⟨rdOf ByteArray.empty ws i, ?_, ?_⟩
  · unfold spec_l13Rd_of.f
    exact ev_bind hi (ev_pos i0 (ev_pos i1 (ev_some _)))
  · unfold rdOf
    rw [List.getD_eq_getElem?_getD, List.getElem?_eq_getElem hlt]
    exact List.getElem_mem hlt
theorem num_ev (l : List Int) (p : Int) (ws : List Int) (hl : IsB l) (h0 : 0 ≤ p) (h1 : p ≤ 1000000000) (hn : 1 ≤ ws.length) (hn2 : ws.length ≤ 1000000) :
    ∃ v, Ev (fun k => spec_l13Rd_num.f k l p ws) (v, p + 1) ∧ v ∈ ws := by
  obtain ⟨i, hi, i0, i1⟩ := pick_ev l p ws.length hl h0 h1 (by omega) (by omega)
  have hlt : i.toNat < ws.length := by omega
  refine ⟨rd ws i, ?_, ?_⟩
  · unfold spec_l13Rd_num.f
    exact ev_bind hi (ev_pos i0 (ev_pos i1 (ev_some _)))
  · unfold rd
    rw [List.getD_eq_getElem?_getD, List.getElem?_eq_getElem hlt]
    exact List.getElem_mem hlt
theorem open_ev (l : List Int) (h : ∀ x ∈ l, (Lit.int .u8 x).wf = true) : ∃ l', spec_l13Open.f l = some (l', 0) ∧ IsB l' := by
  unfold spec_l13Open.f
  by_cases hc : (l.length : Int) > 2000
  · refine ⟨l.take 2000, ?_, isB_take h 2000 (by rw [List.length_take]; omega)⟩
    rw [if_pos hc, if_pos (by omega)]
  · refine ⟨l, by rw [if_neg hc], ?_⟩
    have := isB_take h l.length (by rw [List.take_length]; omega)
    rwa [List.take_length] at this

/-! Lines taken apart: the model. -/
def cutE : Str → Option (Str × Str)
  | [] => none
  | c :: r => if c = 13 ∧ r.head? = some 10 then some ([], r.drop 1) else match cutE r with
    | none => none
    | some (a, b) => some (c :: a, b)
theorem cutE_some (s : Str) : ∀ a b : Str, cutE s = some (a, b) → s = a ++ 13 :: 10 :: b := by
  induction s with
  | nil => intro a b h; cases h
  | cons c r ih =>
    intro a b h
    rw [cutE] at h
    split at h
    · rename_i hc
      obtain ⟨rfl, h2⟩ := hc
      cases h
      cases r with
      | nil => cases h2
      | cons d r => simp at h2; subst h2; rfl
    · cases e : cutE r with
      | none => rw [e] at h; cases h
      | some q =>
        obtain ⟨x, y⟩ := q
        rw [e] at h
        cases h
        rw [ih x b e]; rfl
theorem cutE_len {s a b : Str} (h : cutE s = some (a, b)) : s.length = a.length + b.length + 2 := by
  rw [cutE_some s a b h]; simp; omega
theorem cutE_free (x t : Str) (h : ∀ c ∈ x, c ≠ 13) : cutE (x ++ 13 :: 10 :: t) = some (x, t) := by
  induction x with
  | nil => rfl
  | cons c x ih =>
    rw [List.cons_append, cutE, if_neg (fun hh => h c (by simp) hh.1), ih (fun d hd => h d (by simp [hd]))]
theorem cutE_none_free (x : Str) (h : ∀ c ∈ x, c ≠ 10) : cutE x = none := by
  induction x with
  | nil => rfl
  | cons c x ih =>
    rw [cutE, if_neg, ih (fun d hd => h d (by simp [hd]))]
    rintro ⟨_, h2⟩
    cases x with
    | nil => cases h2
    | cons d x => simp at h2; exact h d (by simp) h2
theorem cutE_pre (x t : Str) (h : ∀ c ∈ x, c ≠ 13) (ht : cutE t = none) : cutE (x ++ t) = none := by
  induction x with
  | nil => exact ht
  | cons c x ih => rw [List.cons_append, cutE, if_neg (fun hh => h c (by simp) hh.1), ih (fun d hd => h d (by simp [hd]))]
/-! Cut at the end of a line: the library's words. -/
theorem index_E (s : Str) : Lib.index s [13, 10] = match cutE s with
    | none => -1
    | some (a, _) => (a.length : Int) := by
  induction s with
  | nil => rfl
  | cons c r ih =>
    rw [Lib.index, cutE]
    have hp : ([13, 10] : Str).isPrefixOf (c :: r) = true ↔ (c = 13 ∧ r.head? = some 10) := by
      cases r with
      | nil => simp [List.isPrefixOf]
      | cons d r => simp only [List.isPrefixOf, List.head?_cons, Option.some.injEq, Bool.and_true, Bool.and_eq_true, beq_iff_eq]; constructor <;> (rintro ⟨h1, h2⟩; exact ⟨h1.symm, h2.symm⟩)
    by_cases h : c = 13 ∧ r.head? = some 10
    · rw [if_pos (hp.mpr h), if_pos h]; rfl
    · rw [if_neg (fun hh => h (hp.mp hh)), if_neg h, ih]
      cases e : cutE r with
      | none => rfl
      | some q =>
        obtain ⟨a, b⟩ := q
        simp only [List.length_cons]
        rw [if_neg (by simp)]
        rfl
theorem cut_E (s : Str) : Lib.cut s [13, 10] = match cutE s with
    | none => (s, [], false)
    | some (a, b) => (a, b, true) := by
  unfold Lib.cut
  rw [index_E]
  cases e : cutE s with
  | none => rfl
  | some q =>
    obtain ⟨a, b⟩ := q
    have := cutE_some s a b e
    simp only
    rw [if_pos (by omega)]
    subst this
    simp

theorem spec_l9Line_loop (s : Str) (hs : s.length ≤ 1000000000) (r : Str) : ∀ (p : Str), s = p ++ r → Ev (fun k => spec_l9Line.l0 k (ofL s) (p.length : Int)) (match cutE r with
    | none => (ofL [], (-1 : Int))
    | some (a, _) => (ofL (p ++ a), (p.length : Int) + (a.length : Int) + 2)) := by
  induction r with
  | nil =>
    intro p h
    have hz : s.length = p.length := by rw [h, List.append_nil]
    have w1 : wrap64 ((p.length : Int) + 1) = (p.length : Int) + 1 := wrap_id (by omega) (by omega)
    refine ev_succ ?_
    simp only [spec_l9Line.l0, size_ofL, w1]
    exact ev_neg (by omega) (ev_some _)
  | cons c r ih =>
    intro p h
    have hz := len_mid h
    have w1 : wrap64 ((p.length : Int) + 1) = (p.length : Int) + 1 := wrap_id (by omega) (by omega)
    have w2 : wrap64 ((p.length : Int) + 2) = (p.length : Int) + 2 := wrap_id (by omega) (by omega)
    have e1 : bt (ofL s) (p.length : Int) = (c.toNat : Int) := bt_ofL_mid h
    have hi := ih (p ++ [c]) (by rw [h]; simp)
    rw [len_snoc] at hi
    refine ev_succ ?_
    simp only [spec_l9Line.l0, size_ofL, w1, w2, e1]
    clear w1 w2 e1
    cases r with
    | nil =>
      have hc : cutE [c] = none := by rw [cutE, if_neg (by simp)]; rfl
      rw [hc]
      exact ev_neg (by simp at hz; omega) (ev_some _)
    | cons d t =>
      have e2 : bt (ofL s) ((p.length : Int) + 1) = (d.toNat : Int) := by
        have := bt_ofL_mid (l := s) (p := p ++ [c]) (r := t) (c := d) (by rw [h]; simp)
        rw [len_snoc] at this
        exact this
      rw [e2]
      clear e2
      simp only [List.length_cons] at hz
      refine ev_pos (by omega) (ev_pos (by omega) (ev_pos (by omega) ?_))
      have go : ¬ (c = 13 ∧ (d :: t).head? = some 10) → Ev (fun k => spec_l9Line.l0 k (ofL s) ((p.length : Int) + 1)) (match cutE (c :: d :: t) with
          | none => (ofL [], (-1 : Int))
          | some (a, _) => (ofL (p ++ a), (p.length : Int) + (a.length : Int) + 2)) := by
        intro hn
        refine ev_eq hi ?_
        rw [cutE.eq_2 c, if_neg hn]
        cases cutE (d :: t) with
        | none => rfl
        | some q =>
          obtain ⟨a, b⟩ := q
          simp only [List.append_assoc, List.singleton_append, List.length_cons]
          congr 1
          omega
      by_cases hc : (c.toNat : Int) = 13
      · have hc' : c = 13 := (u8_eq c 13 (by omega)).mp hc
        refine ev_pos hc (ev_pos (by omega) ?_)
        by_cases hd : (d.toNat : Int) = 10
        · have hd' : d = 10 := (u8_eq d 10 (by omega)).mp hd
          refine ev_pos hd (ev_pos (by omega) (ev_eq (ev_some _) ?_))
          rw [cutE, if_pos ⟨hc', by rw [hd']; rfl⟩]
          simp only [extract_ofL, List.append_nil, List.length_nil]
          congr 1
          rw [h]; simp
        · have hd' : ¬ d = 10 := fun hh => hd ((u8_eq d 10 (by omega)).mpr hh)
          exact ev_neg hd (go (fun hh => hd' (by simpa using hh.2)))
      · have hc' : ¬ c = 13 := fun hh => hc ((u8_eq c 13 (by omega)).mpr hh)
        exact ev_neg hc (go (fun hh => hc' hh.1))
theorem spec_l9Line_ev (s : Str) (hs : s.length ≤ 1000000000) : Ev (fun k => spec_l9Line.f k (ofL s)) (match cutE s with
    | none => (ofL [], (-1 : Int))
    | some (a, _) => (ofL a, (a.length : Int) + 2)) := by
  unfold spec_l9Line.f
  refine ev_eq (spec_l9Line_loop s hs s [] rfl) ?_
  cases cutE s with
  | none => rfl
  | some q => obtain ⟨a, b⟩ := q; simp

/-! A text taken apart at its ends: the model. -/
def wcons (c : UInt8) : List Str × Str → List Str × Str
  | ([], r) => ([], c :: r)
  | (l :: ls, r) => ((c :: l) :: ls, r)
def ws : Str → List Str × Str
  | [] => ([], [])
  | [c] => ([], [c])
  | c :: d :: r => if c = 13 ∧ d = 10 then ([] :: (ws r).1, (ws r).2) else wcons c (ws (d :: r))
theorem ws_whole (r : Str) : ws (13 :: 10 :: r) = ([] :: (ws r).1, (ws r).2) := by rw [ws, if_pos ⟨rfl, rfl⟩]
theorem ws_other (c : UInt8) (r : Str) (h : ¬ (c = 13 ∧ r.head? = some 10)) : ws (c :: r) = wcons c (ws r) := by
  cases r with
  | nil => rfl
  | cons d r => rw [ws, if_neg (fun hh => h ⟨hh.1, by simp [hh.2]⟩)]
theorem ws_none (s : Str) : cutE s = none → ws s = ([], s) := by
  induction s with
  | nil => intro _; rfl
  | cons c r ih =>
    intro h
    rw [cutE] at h
    split at h
    · cases h
    · rename_i hc
      cases e : cutE r with
      | none => rw [ws_other c r hc, ih e]; rfl
      | some q => obtain ⟨a, b⟩ := q; rw [e] at h; cases h
theorem ws_some (s : Str) : ∀ a b : Str, cutE s = some (a, b) → ws s = (a :: (ws b).1, (ws b).2) := by
  induction s with
  | nil => intro a b h; cases h
  | cons c r ih =>
    intro a b h
    rw [cutE] at h
    split at h
    · rename_i hc
      obtain ⟨rfl, hd⟩ := hc
      cases h
      cases r with
      | nil => cases hd
      | cons d r =>
        simp only [List.head?_cons, Option.some.injEq] at hd
        subst hd
        rw [ws_whole]; rfl
    · rename_i hc
      cases e : cutE r with
      | none => rw [e] at h; cases h
      | some q =>
        obtain ⟨x, y⟩ := q
        rw [e] at h
        cases h
        rw [ws_other c r hc, ih x b e]; rfl
theorem ws_rest (n : Nat) : ∀ s : Str, s.length ≤ n → cutE (ws s).2 = none := by
  induction n with
  | zero => intro s h; cases s with
    | nil => rfl
    | cons c s => simp at h
  | succ n ih =>
    intro s h
    cases e : cutE s with
    | none => rw [ws_none s e]; exact e
    | some q =>
      obtain ⟨a, b⟩ := q
      have hl := cutE_len e
      rw [ws_some s a b e]
      exact ih b (by omega)
def wjoin : List Str → Str
  | [] => []
  | l :: r => l ++ 13 :: 10 :: wjoin r
theorem ws_join (n : Nat) : ∀ s : Str, s.length ≤ n → wjoin (ws s).1 ++ (ws s).2 = s := by
  induction n with
  | zero => intro s h; cases s with
    | nil => rfl
    | cons c s => simp at h
  | succ n ih =>
    intro s h
    cases e : cutE s with
    | none => rw [ws_none s e]; rfl
    | some q =>
      obtain ⟨a, b⟩ := q
      have hl := cutE_len e
      rw [ws_some s a b e]
      have := ih b (by omega)
      rw [cutE_some s a b e]
      simp only [wjoin, List.append_assoc, List.cons_append, this]
theorem ws_len (s : Str) : (ws s).1.length ≤ s.length ∧ (ws s).2.length ≤ s.length := by
  have h := ws_join s.length s (Nat.le_refl _)
  have h1 : ∀ ls : List Str, ls.length ≤ (wjoin ls).length := by
    intro ls
    induction ls with
    | nil => simp
    | cons l r ih => simp only [wjoin, List.length_cons, List.length_append]; omega
  have h2 := h1 (ws s).1
  have h3 := congrArg List.length h
  rw [List.length_append] at h3
  omega
theorem wjoin_mem {ls : List Str} {l : Str} (h : l ∈ ls) : l.length ≤ (wjoin ls).length := by
  induction ls with
  | nil => cases h
  | cons c r ih =>
    simp only [wjoin, List.length_append, List.length_cons]
    rcases List.mem_cons.mp h with rfl | h
    · omega
    · have := ih h; omega
theorem swP_E (n : Nat) : ∀ s : Str, s.length ≤ n → Lib.countB (ofL s) ⟨#[13, 10]⟩ = (ws s).1.length ∧ Lib.splitB ⟨#[13, 10]⟩ 0 (Lib.countB (ofL s) ⟨#[13, 10]⟩) (ofL s) = (ws s).1.map ofL ++ [ofL (ws s).2] := by
  induction n with
  | zero => intro s h; cases s with
    | nil => exact ⟨rfl, rfl⟩
    | cons c s => simp at h
  | succ n ih =>
    intro s h
    have hi : Lib.indexB (ofL s) ⟨#[13, 10]⟩ = _ := index_E s
    cases e : cutE s with
    | none =>
      rw [e] at hi
      rw [Lib.countB_miss _ _ hi, ws_none s e]
      exact ⟨rfl, rfl⟩
    | some q =>
      obtain ⟨a, b⟩ := q
      have hl := cutE_len e
      have hs := cutE_some s a b e
      rw [e] at hi
      have h2 : (⟨#[13, 10]⟩ : ByteArray).size = 2 := rfl
      have ex : (ofL s).extract (a.length + (⟨#[13, 10]⟩ : ByteArray).size) (ofL s).size = ofL b := by
        rw [extract_ofL, size_ofL, h2]
        congr 1
        have e4 : s = (a ++ [13, 10]) ++ b := by rw [hs]; simp
        rw [e4, List.drop_left' (by simp)]
        exact List.take_of_length_le (by simp; omega)
      have ex0 : (ofL s).extract 0 (a.length + 0) = ofL a := by
        rw [extract_ofL]
        congr 1
        rw [hs]; simp
      obtain ⟨i1, i2⟩ := ih b (by omega)
      have hc : Lib.countB (ofL s) ⟨#[13, 10]⟩ = (ws b).1.length + 1 := by
        rw [Lib.countB_hit _ _ a.length (by decide) hi, ex, i1]; omega
      rw [hc, ws_some s a b e]
      refine ⟨rfl, ?_⟩
      rw [Lib.splitB_hit _ 0 _ _ a.length hi, ex, ex0, ← i1, i2]
      rfl
theorem impl_SplitWire_eq (s : Str) (h : s.length ≤ 1000000) : impl_SplitWire.f (ofL s) = some ((ws s).1.map ofL, ofL (ws s).2) := by
  unfold impl_SplitWire.f swP swN
  obtain ⟨h1, h2⟩ := swP_E s.length s (Nat.le_refl _)
  rw [if_pos (by rw [size_ofL]; omega), h2, h1]
  congr 2
  · exact List.take_left' (by simp)
  · rw [List.getD_eq_getElem?_getD, List.getElem?_append_right (by simp)]
    simp

theorem spec_SplitWire_loop (n : Nat) : ∀ (s : Str) (acc : List Str), s.length ≤ n → s.length ≤ 10000000 → acc.length + s.length ≤ 100000000 → Ev (fun k => spec_SplitWire.l0 k (ofL s) (acc.map ofL)) ((acc ++ (ws s).1).map ofL, ofL (ws s).2) := by
  induction n with
  | zero =>
    intro s acc h h2 h3
    cases s with
    | nil =>
      refine ev_succ ?_
      simp only [spec_SplitWire.l0]
      refine ev_bind (spec_l9Line_ev [] (by simp)) ?_
      exact ev_pos (by simp [cutE]) (ev_eq (ev_some _) (by simp [ws]))
    | cons c s => simp at h
  | succ n ih =>
    intro s acc h h2 h3
    refine ev_succ ?_
    simp only [spec_SplitWire.l0, size_ofL]
    refine ev_bind (spec_l9Line_ev s (by omega)) ?_
    cases e : cutE s with
    | none =>
      rw [ws_none s e]
      exact ev_pos (by simp) (ev_eq (ev_some _) (by simp))
    | some q =>
      obtain ⟨a, b⟩ := q
      have hl := cutE_len e
      have hs := cutE_some s a b e
      have ex : (ofL s).extract ((a.length : Int) + 2).toNat s.length = ofL b := by
        rw [extract_ofL]
        have e3 : ((a.length : Int) + 2).toNat = a.length + 2 := by omega
        rw [e3]
        congr 1
        have e4 : s = (a ++ [13, 10]) ++ b := by rw [hs]; simp
        rw [e4, List.drop_left' (by simp)]
        exact List.take_of_length_le (by simp; omega)
      have := ih b (acc ++ [a]) (by omega) (by omega) (by simp; omega)
      rw [List.map_append] at this
      rw [ws_some s a b e]
      simp only [ex]
      refine ev_neg (by omega) (ev_pos (by rw [List.length_map]; omega) (ev_pos (by omega) (ev_pos (by omega) (ev_eq this ?_))))
      simp
theorem spec_SplitWire_ev (s : Str) (h : s.length ≤ 10000000) : Ev (fun k => spec_SplitWire.f k (ofL s)) ((ws s).1.map ofL, ofL (ws s).2) := by
  unfold spec_SplitWire.f
  exact spec_SplitWire_loop s.length s [] (Nat.le_refl _) h (by simp; omega)

theorem l9Text_loop (l : List Int) (hl : IsB l) (n : Nat) : ∀ (s : ByteArray) (p : Int), 0 ≤ p → p + n ≤ 1000000000 → s.size + 10 * n ≤ 1000000000 →
    ∃ t q, Ev (fun k => spec_l9Text.l0 k s (n : Int) l p) (t, q) ∧ t.size ≤ s.size + 10 * n := by
  induction n with
  | zero =>
    intro s p h0 h1 h2
    refine ⟨s, p, ev_succ ?_, by omega⟩
    simp only [spec_l9Text.l0]
    repeat (first | refine ev_pos (by first | assumption | omega | decide) ?_ | refine ev_neg (by first | assumption | omega | decide) ?_)
    exact ev_some _
  | succ n ih =>
    intro s p h0 h1 h2
    obtain ⟨v, hv, hm⟩ := of_ev l p [(⟨#[97]⟩ : ByteArray), (⟨#[13, 10]⟩ : ByteArray), (⟨#[10]⟩ : ByteArray), (⟨#[13]⟩ : ByteArray), (⟨#[46]⟩ : ByteArray), (⟨#[98, 32, 99]⟩ : ByteArray)] hl h0 (by omega) (by simp) (by simp)
    have hsz : v.size ≤ 10 := by
      simp only [List.mem_cons, List.not_mem_nil, or_false] at hm
      rcases hm with rfl | rfl | rfl | rfl | rfl | rfl <;> decide
    have hap : (s ++ v).size = s.size + v.size := by rw [size_L, L_append, List.length_append, ← size_L, ← size_L]
    obtain ⟨t, q, ht, hq⟩ := ih (s ++ v) (p + 1) (by omega) (by omega) (by omega)
    refine ⟨t, q, ev_succ ?_, by omega⟩
    have e : (((n + 1 : Nat) : Int) - 1) = (n : Int) := by omega
    simp (disch := omega) only [spec_l9Text.l0, wrap_id, e]
    refine ev_pos (by omega) (ev_bind hv ?_)
    dsimp only
    refine ev_pos (by omega) ht
theorem l9Text_ev (l : List Int) (hl : IsB l) : ∃ t q, Ev (fun k => spec_l9Text.f k l 0) (t, q) ∧ t.size ≤ 100 := by
  obtain ⟨n, hn, hm⟩ := num_ev l 0 [4, 3, 6, 1, 0] hl (by omega) (by omega) (by simp) (by simp)
  have : ∃ m : Nat, n = (m : Int) ∧ m ≤ 6 := by
    simp only [List.mem_cons, List.not_mem_nil, or_false] at hm
    rcases hm with rfl | rfl | rfl | rfl | rfl
    · exact ⟨4, rfl, by omega⟩
    · exact ⟨3, rfl, by omega⟩
    · exact ⟨6, rfl, by omega⟩
    · exact ⟨1, rfl, by omega⟩
    · exact ⟨0, rfl, by omega⟩
  obtain ⟨m, rfl, hm⟩ := this
  have h0 : (⟨#[]⟩ : ByteArray).size = 0 := rfl
  obtain ⟨t, q, ht, hq⟩ := l9Text_loop l hl m (⟨#[]⟩ : ByteArray) (0 + 1) (by omega) (by omega) (by omega)
  refine ⟨t, q, ?_, by omega⟩
  unfold spec_l9Text.f
  exact ev_bind hn ht

theorem laws_mwTexts_ev (a b : List Str) (hn : a.length ≤ 1000000000000000) : Ev (fun k => laws_mwTexts.f k (a.map ofL) (b.map ofL)) (decide (a = b)) := by
  unfold laws_mwTexts.f
  simp only [List.length_map]
  by_cases hl : a.length = b.length
  · refine ev_pos (by omega) ?_
    refine ev_eq (run_start (xs := a) (F := fun k (_ : List Str) i => laws_mwTexts.l0 k (a.map ofL) (b.map ofL) i) (st := fun r c => match r with
      | [] => .inl false
      | d :: r => if c = d then .inr r else .inl false) (fin := fun _ => true) (s := b) (fun p r => ∃ q, b = q ++ r ∧ q.length = p.length) ⟨[], rfl, rfl⟩ ?_ ?_) ?_
    · rintro p c r s h ⟨q, hq, hql⟩
      have hz := len_mid h
      have e1 := rdOf_ofL h
      have w1 : wrap64 ((p.length : Int) + 1) = (p.length : Int) + 1 := wrap_id (by omega) (by omega)
      cases s with
      | nil => rw [hq] at hl; simp at hl; omega
      | cons d s =>
        have e2 := rdOf_ofL hq
        rw [hql] at e2
        simp only [laws_mwTexts.l0, e1, e2, w1, List.length_map, toList_ofL]
        clear w1 e1 e2
        by_cases e : c = d
        · simp only [if_pos e]
          refine ⟨(fun v hv => by cases hv), fun s' hs => ⟨?_, fun v hv => ?_⟩⟩
          · cases hs; exact ⟨q ++ [d], by rw [hq]; simp, by simp [hql]⟩
          · exact ev_pos (by omega) (ev_pos (by omega) (ev_pos (by omega) hv))
        · simp only [if_neg e]
          refine ⟨(fun v hv => ?_), fun s' hs => by cases hs⟩
          cases hv
          exact ev_pos (by omega) (ev_pos (by omega) (ev_pos (by omega) (ev_some _)))
    · intro s _
      simp only [laws_mwTexts.l0, List.length_map]
      exact ev_neg (by omega) (ev_some _)
    · clear hn
      induction a generalizing b with
      | nil => cases b with
        | nil => rfl
        | cons d b => simp at hl
      | cons c a ih => cases b with
        | nil => simp at hl
        | cons d b =>
          unfold run
          by_cases e : c = d
          · simp only [if_pos e]; rw [ih b (by simpa using hl)]; simp [e]
          · simp only [if_neg e]; simp [e]
  · refine ev_neg (by omega) (ev_eq (ev_some _) ?_)
    rw [eq_comm]; exact decide_eq_false (fun h => hl (by rw [h]))

/-! Whole ends: the model. -/
def nrm : Str → Str × Nat
  | [] => ([], 0)
  | [c] => if c = 13 ∨ c = 10 then ([13, 10], 1) else ([c], 0)
  | c :: d :: r => if c = 13 ∧ d = 10 then (13 :: 10 :: (nrm r).1, (nrm r).2) else if c = 13 ∨ c = 10 then (13 :: 10 :: (nrm (d :: r)).1, (nrm (d :: r)).2 + 1) else (c :: (nrm (d :: r)).1, (nrm (d :: r)).2)
theorem nrm_end (r : Str) : r.length = 0 → nrm r = ([], 0) := by
  intro h; cases r with
  | nil => rfl
  | cons c r => simp at h
theorem nrm_whole (r : Str) : nrm (13 :: 10 :: r) = (13 :: 10 :: (nrm r).1, (nrm r).2) := by
  rw [nrm, if_pos ⟨rfl, rfl⟩]
theorem nrm_bare (c : UInt8) (r : Str) (h : c = 13 ∨ c = 10) (h2 : c = 13 → r.head? ≠ some 10) : nrm (c :: r) = (13 :: 10 :: (nrm r).1, (nrm r).2 + 1) := by
  cases r with
  | nil => simp only [nrm, if_pos h]
  | cons d r =>
    rw [nrm, if_neg (fun hh => h2 hh.1 (by simp [hh.2])), if_pos h]
theorem nrm_other (c : UInt8) (r : Str) (h : ¬ (c = 13 ∨ c = 10)) : nrm (c :: r) = (c :: (nrm r).1, (nrm r).2) := by
  cases r with
  | nil => simp only [nrm, if_neg h]
  | cons d r =>
    rw [nrm, if_neg (fun hh => h (Or.inl hh.1)), if_neg h]
/-- The ways a text begins. -/
theorem nrm_ways (P : Str → Prop) (h0 : P []) (h1 : ∀ r, P r → P (13 :: 10 :: r)) (h2 : ∀ c r, (c = 13 ∨ c = 10) → (c = 13 → r.head? ≠ some 10) → P r → P (c :: r)) (h3 : ∀ c r, ¬ (c = 13 ∨ c = 10) → P r → P (c :: r)) (r : Str) : P r := by
  have : ∀ n, ∀ r : Str, r.length ≤ n → P r := by
    intro n
    induction n with
    | zero => intro r h; cases r with
      | nil => exact h0
      | cons c r => simp at h
    | succ n ih =>
      intro r h
      cases r with
      | nil => exact h0
      | cons c r =>
        simp only [List.length_cons] at h
        by_cases hc : c = 13 ∨ c = 10
        · by_cases hd : c = 13 ∧ r.head? = some 10
          · obtain ⟨rfl, hd⟩ := hd
            cases r with
            | nil => simp at hd
            | cons d r =>
              simp only [List.head?_cons, Option.some.injEq] at hd
              subst hd
              simp only [List.length_cons] at h
              exact h1 r (ih r (by omega))
          · exact h2 c r hc (fun e f => hd ⟨e, f⟩) (ih r (by omega))
        · exact h3 c r hc (ih r (by omega))
  exact this r.length r (Nat.le_refl _)
theorem nrm_len (r : Str) : (nrm r).1.length = r.length + (nrm r).2 := by
  refine nrm_ways (fun r => (nrm r).1.length = r.length + (nrm r).2) rfl ?_ ?_ ?_ r
  · intro r ih; rw [nrm_whole]; simp only [List.length_cons, ih]; omega
  · intro c r h h2 ih; rw [nrm_bare c r h h2]; simp only [List.length_cons, ih]; omega
  · intro c r h ih; rw [nrm_other c r h]; simp only [List.length_cons, ih]; omega
theorem nrm_le (r : Str) : (nrm r).2 ≤ r.length := by
  refine nrm_ways (fun r => (nrm r).2 ≤ r.length) (Nat.le_refl _) ?_ ?_ ?_ r
  · intro r ih; rw [nrm_whole]; simp only [List.length_cons]; omega
  · intro c r h h2 ih; rw [nrm_bare c r h h2]; simp only [List.length_cons]; omega
  · intro c r h ih; rw [nrm_other c r h]; simp only [List.length_cons]; omega
theorem nrm_zero (r : Str) : (nrm r).2 = 0 ↔ (nrm r).1 = r := by
  constructor
  · refine nrm_ways (fun r => (nrm r).2 = 0 → (nrm r).1 = r) (fun _ => rfl) ?_ ?_ ?_ r
    · intro r ih h; rw [nrm_whole] at h ⊢; simp only at h ⊢; rw [ih h]
    · intro c r h h2 ih hh; rw [nrm_bare c r h h2] at hh; simp at hh
    · intro c r h ih hh; rw [nrm_other c r h] at hh ⊢; simp only at hh ⊢; rw [ih hh]
  · intro h
    have := nrm_len r
    rw [h] at this; omega
/-- What stands behind something that is no second half of an end. -/
theorem nrm_append (a b : Str) (h : b.head? ≠ some 10 ∨ (nrm a).2 = 0) : nrm (a ++ b) = ((nrm a).1 ++ (nrm b).1, (nrm a).2 + (nrm b).2) := by
  revert h
  refine nrm_ways (fun a => (b.head? ≠ some 10 ∨ (nrm a).2 = 0) → nrm (a ++ b) = ((nrm a).1 ++ (nrm b).1, (nrm a).2 + (nrm b).2)) ?_ ?_ ?_ ?_ a
  · intro _; simp [nrm]
  · intro r ih h
    rw [nrm_whole] at h ⊢
    rw [List.cons_append, List.cons_append, nrm_whole, ih h]; rfl
  · intro c r hc h2 ih h
    rw [nrm_bare c r hc h2] at h ⊢
    have hb : b.head? ≠ some 10 := by
      rcases h with h | h
      · exact h
      · simp at h
    rw [List.cons_append, nrm_bare c (r ++ b) hc (fun e => by
      cases r with
      | nil => exact hb
      | cons d r => exact h2 e), ih (Or.inl hb)]
    simp only [List.cons_append]; congr 1; omega
  · intro c r hc ih h
    rw [nrm_other c r hc] at h ⊢
    rw [List.cons_append, nrm_other c (r ++ b) hc, ih h]; rfl
theorem nrm_nrm (r : Str) : nrm (nrm r).1 = ((nrm r).1, 0) := by
  refine nrm_ways (fun r => nrm (nrm r).1 = ((nrm r).1, 0)) rfl ?_ ?_ ?_ r
  · intro r ih; rw [nrm_whole]; simp only; rw [nrm_whole, ih]
  · intro c r h h2 ih; rw [nrm_bare c r h h2]; simp only; rw [nrm_whole, ih]
  · intro c r h ih; rw [nrm_other c r h]; simp only; rw [nrm_other c _ h, ih]

theorem bytes_end : bytesOf (⟨#[13, 10]⟩ : ByteArray) = zn [13, 10] := rfl

theorem impl_normal_loop (s : ByteArray) (hs : s.size ≤ 1000000000) (r : Str) : ∀ (p acc : Str) (c : Nat), L s = p ++ r → acc.length ≤ 2 * p.length → c ≤ p.length → Ev (fun k => impl_normal.l0 k s (zn acc) (c : Int) (p.length : Int)) (ofL (acc ++ (nrm r).1), ((c + (nrm r).2 : Nat) : Int)) := by
  refine nrm_ways (fun r => ∀ (p acc : Str) (c : Nat), L s = p ++ r → acc.length ≤ 2 * p.length → c ≤ p.length → Ev (fun k => impl_normal.l0 k s (zn acc) (c : Int) (p.length : Int)) (ofL (acc ++ (nrm r).1), ((c + (nrm r).2 : Nat) : Int))) ?_ ?_ ?_ ?_ r
  · intro p acc c h ha hc
    have hz := size_L s
    rw [h] at hz
    simp only [List.append_nil] at hz
    refine ev_succ ?_
    simp only [impl_normal.l0]
    refine ev_neg (by omega) ?_
    rw [strOfNums_zn]
    exact ev_eq (ev_some _) (by simp [nrm])
  · intro r ih p acc c h ha hc
    have hz := size_L s
    rw [h] at hz
    simp only [List.length_append, List.length_cons] at hz
    have e1 : bt s (p.length : Int) = 13 := bt_at_cons h
    have h' : L s = (p ++ [13]) ++ 10 :: r := by rw [h]; simp
    have e2 : bt s ((p ++ [13]).length : Int) = 10 := bt_at_cons h'
    have e3 : (((p ++ [13]).length : Nat) : Int) = (p.length : Int) + 1 := by simp
    have w1 : wrap64 ((p.length : Int) + 1) = (p.length : Int) + 1 := wrap_id (by omega) (by omega)
    have w2 : wrap64 ((p.length : Int) + 1 + 1) = (p.length : Int) + 1 + 1 := wrap_id (by omega) (by omega)
    rw [e3] at e2
    refine ev_succ ?_
    simp only [impl_normal.l0, w1, e1, e2]
    refine ev_pos (by omega) (ev_pos (by omega) (ev_pos (by decide) (ev_pos (by omega) (ev_pos (by omega) (ev_succ ?_)))))
    simp only [impl_normal.j1, w1, w2, bytes_end]
    refine ev_pos (by decide) (ev_pos (by rw [zn_length]; omega) ?_)
    have := ih (p ++ [13, 10]) (acc ++ [13, 10]) c (by rw [h]; simp) (by simp; omega) (by simp; omega)
    rw [zn_append] at this
    rw [nrm_whole]
    have e4 : (((p ++ [13, 10]).length : Nat) : Int) = (p.length : Int) + 1 + 1 := by rw [List.length_append, Int.natCast_add]; simp only [List.length_cons, List.length_nil]; omega
    rw [e4] at this
    refine ev_eq this ?_
    rw [List.append_assoc]; rfl
  · intro x r hx h2 ih p acc c h ha hc
    have hz := size_L s
    rw [h] at hz
    simp only [List.length_append, List.length_cons] at hz
    have e1 := bt_at_cons h
    have w1 : wrap64 ((p.length : Int) + 1) = (p.length : Int) + 1 := wrap_id (by omega) (by omega)
    have w2 : wrap64 ((c : Int) + 1) = (c : Int) + 1 := wrap_id (by omega) (by omega)
    have e4 : (((p ++ [x]).length : Nat) : Int) = (p.length : Int) + 1 := by simp
    have hj : Ev (fun k => impl_normal.j1 k s (zn acc) (c : Int) (p.length : Int) false) (ofL (acc ++ (nrm (x :: r)).1), ((c + (nrm (x :: r)).2 : Nat) : Int)) := by
      refine ev_succ ?_
      simp only [impl_normal.j1, w1, w2, e1, bytes_end]
      have := ih (p ++ [x]) (acc ++ [13, 10]) (c + 1) (by rw [h]; simp) (by simp; omega) (by simp; omega)
      rw [zn_append, e4] at this
      rw [nrm_bare x r hx h2]
      have this : Ev (fun k => impl_normal.l0 k s (zn acc ++ zn [13, 10]) ((c : Int) + 1) ((p.length : Int) + 1)) (ofL (acc ++ (13 :: 10 :: (nrm r).1)), ((c + ((nrm r).2 + 1) : Nat) : Int)) := by
        have e : c + 1 + (nrm r).2 = c + ((nrm r).2 + 1) := by omega
        rw [← e]
        simpa using this
      refine ev_neg (by decide) (ev_pos (by omega) (ev_pos (by omega) ?_))
      rcases hx with rfl | rfl
      · exact ev_pos (by decide) (ev_pos (by rw [zn_length]; omega) this)
      · exact ev_neg (by decide) (ev_pos (by decide) (ev_pos (by rw [zn_length]; omega) this))
    refine ev_succ ?_
    simp only [impl_normal.l0, w1, e1]
    refine ev_pos (by omega) (ev_pos (by omega) ?_)
    rcases hx with rfl | rfl
    · refine ev_pos (by decide) ?_
      cases r with
      | nil => exact ev_neg (by simp at hz; omega) hj
      | cons d r =>
        have h' : L s = (p ++ [13]) ++ d :: r := by rw [h]; simp
        have e2 := bt_at_cons h'
        rw [e4] at e2
        simp only [List.length_cons] at hz
        refine ev_pos (by omega) (ev_pos (by omega) ?_)
        have : (bt s ((p.length : Int) + 1) == 10) = false := by
          rw [e2]
          have h3 := h2 rfl
          simp only [List.head?_cons, ne_eq, Option.some.injEq] at h3
          rw [beq_eq_false_iff_ne]
          exact fun h4 => h3 ((u8_eq d 10 (by omega)).mp h4)
        rw [this]
        exact hj
    · exact ev_neg (by decide) hj
  · intro x r hx ih p acc c h ha hc
    have hz := size_L s
    rw [h] at hz
    simp only [List.length_append, List.length_cons] at hz
    have e1 := bt_at_cons h
    have w1 : wrap64 ((p.length : Int) + 1) = (p.length : Int) + 1 := wrap_id (by omega) (by omega)
    have e4 : (((p ++ [x]).length : Nat) : Int) = (p.length : Int) + 1 := by simp
    have n1 : ¬ (x.toNat : Int) = 13 := fun h4 => hx (Or.inl ((u8_eq x 13 (by omega)).mp h4))
    have n2 : ¬ (x.toNat : Int) = 10 := fun h4 => hx (Or.inr ((u8_eq x 10 (by omega)).mp h4))
    refine ev_succ ?_
    simp only [impl_normal.l0, w1, e1]
    refine ev_pos (by omega) (ev_pos (by omega) (ev_neg n1 (ev_succ ?_)))
    simp only [impl_normal.j1, w1, e1]
    refine ev_neg (by decide) (ev_pos (by omega) (ev_pos (by omega) (ev_neg n1 (ev_neg n2 (ev_pos (by rw [zn_length]; omega) ?_)))))
    have := ih (p ++ [x]) (acc ++ [x]) c (by rw [h]; simp) (by simp; omega) (by simp; omega)
    rw [zn_append, e4] at this
    rw [nrm_other x r hx]
    simpa [zn] using this
theorem impl_normal_ev (s : ByteArray) (hs : s.size ≤ 1000000000) : Ev (fun k => impl_normal.f k s) (ofL (nrm (L s)).1, (((nrm (L s)).2 : Nat) : Int)) := by
  have := impl_normal_loop s hs (L s) [] [] 0 rfl (by simp) (by simp)
  unfold impl_normal.f
  refine ev_eq this ?_
  rw [List.nil_append, Nat.zero_add]

theorem impl_CountBare_ev (s : ByteArray) (hs : s.size ≤ 1000000000) : Ev (fun k => impl_CountBare.f k s) (((nrm (L s)).2 : Nat) : Int) := by
  unfold impl_CountBare.f
  exact ev_bind (impl_normal_ev s hs) (ev_some _)

theorem impl_NormalText_ev (s : ByteArray) (hs : s.size ≤ 1000000000) : Ev (fun k => impl_NormalText.f k s) (ofL (nrm (L s)).1) := by
  unfold impl_NormalText.f
  exact ev_bind (impl_normal_ev s hs) (ev_some _)

theorem wcons_len (c : UInt8) (q : List Str × Str) : (wcons c q).1.length = q.1.length := by
  obtain ⟨ls, r⟩ := q
  cases ls with
  | nil => rfl
  | cons l ls => rfl
theorem ws_nrm (s : Str) : (ws (nrm s).1).1.length = (ws s).1.length + (nrm s).2 ∧ (nrm (ws (nrm s).1).2).2 = 0 := by
  refine nrm_ways (fun s => (ws (nrm s).1).1.length = (ws s).1.length + (nrm s).2 ∧ (nrm (ws (nrm s).1).2).2 = 0) ⟨rfl, rfl⟩ ?_ ?_ ?_ s
  · rintro r ⟨h1, h2⟩
    rw [nrm_whole]
    simp only [ws_whole, List.length_cons]
    exact ⟨by omega, h2⟩
  · rintro c r hc hh ⟨h1, h2⟩
    rw [nrm_bare c r hc hh, ws_other c r (fun e => hh e.1 e.2), wcons_len]
    simp only [ws_whole, List.length_cons]
    exact ⟨by omega, h2⟩
  · rintro c r hc ⟨h1, h2⟩
    rw [nrm_other c r hc, ws_other c r (fun e => hc (Or.inl e.1)), wcons_len]
    simp only
    rw [ws_other c _ (fun e => hc (Or.inl e.1)), wcons_len]
    refine ⟨h1, ?_⟩
    generalize ws (nrm r).1 = q at h2
    obtain ⟨ls, x⟩ := q
    cases ls with
    | nil => simp only [wcons]; rw [nrm_other c x hc]; exact h2
    | cons l ls => exact h2

theorem DrawSplitWire_ev (l : List Int) (h : ∀ x ∈ l, (Lit.int .u8 x).wf = true) : ∃ t, Ev (fun k => spec_DrawSplitWire.f k l) t ∧ t.size ≤ 100 := by
  obtain ⟨l', ho, hb⟩ := open_ev l h
  obtain ⟨t, q, ht, hq⟩ := l9Text_ev l' hb
  refine ⟨t, ?_, hq⟩
  unfold spec_DrawSplitWire.f
  exact ev_bind0 ho (ev_bind ht (ev_some _))
theorem FnSplitNormal : laws_FnSplitNormal.Pure := by
  intro l hlen hlen2 h
  apply ev_rounds
  unfold laws_FnSplitNormal.f
  by_cases hc : (l.length : Int) > 1048576
  · exact ev_pos hc (ev_some _)
  · obtain ⟨s, hd, hsl⟩ := DrawSplitWire_ev l h
    obtain ⟨s, rfl⟩ : ∃ t, s = ofL t := ⟨L s, (ofL_L s).symm⟩
    rw [size_ofL] at hsl
    have hl := ws_len s
    have hm := laws_mwTexts_ev (ws s).1 (ws s).1 (by omega)
    have hle := nrm_le s
    have hln := nrm_len s
    obtain ⟨h1, h2⟩ := ws_nrm s
    have hl2 := ws_len (nrm s).1
    have i1 := impl_NormalText_ev (ofL s) (by rw [size_ofL]; omega)
    have i2 := impl_CountBare_ev (ofL s) (by rw [size_ofL]; omega)
    have i3 := impl_CountBare_ev (ofL (ws (nrm s).1).2) (by rw [size_ofL]; omega)
    rw [L_ofL] at i1 i2 i3
    rw [h2] at i3
    refine ev_neg hc (ev_bind hd (ev_bind0 (impl_SplitWire_eq s (by omega)) (ev_bind (spec_SplitWire_ev s (by omega)) (ev_bind hm (ev_pos (decide_eq_true rfl) (ev_succ ?_))))))
    have hb : ((ofL (ws s).2).toList != (ofL (ws s).2).toList) = false := by simp
    have w1 : wrap64 (((ws s).1.length : Int) + ((nrm s).2 : Int)) = ((ws s).1.length : Int) + ((nrm s).2 : Int) := wrap_id (by omega) (by omega)
    simp only [laws_FnSplitNormal.j0, hb]
    refine ev_neg (by simp) (ev_bind i1 (ev_bind0 (impl_SplitWire_eq _ (by omega)) (ev_bind i2 ?_)))
    simp only [List.length_map, w1]
    exact ev_pos (by omega) (ev_bind i3 (ev_eq (ev_some _) rfl))

end Go.Proofs.YthlgdfjckhjiaaaDoor.Pure
