/- Proved here: the pure form of the law FnNormalJoin (normal texts are joined) returns true for all arguments; conditions: none beyond those that the printed statement bears. -/
import Derived.Test.YthlgdfjckhjiaaaPFnNormalJoinx2
import Derived.Test.YthlgdfjckhjiaaaZb
namespace Go.Proofs.Ythlgdfjckhjiaaa.Pure
open Go.RowKit Go.Proofs.Ythlgdfjckhjiaaa.PFnNormalJoin Go.Proofs.YthlgdfjckhjiaaaW.PrintWords Go.Proofs.YthlgdfjckhjiaaaW.PrintLast Go.Proofs.Ythlgdfjckhjiaaa.Z
set_option linter.unusedVariables false
set_option linter.unusedSimpArgs false

/-! The reader of draws. -/
theorem xor_nonneg (a b : Nat) (ha : a < 9223372036854775808) (hb : b < 9223372036854775808) : Go.bits .xor .i64 (a : Int) (b : Int) = ((a ^^^ b : Nat) : Int) := by
  have hx : a ^^^ b < 2 ^ 63 := Nat.xor_lt_two_pow (by omega) (by omega)
  have h1 : (BitVec.ofInt 64 (a : Int)).toNat = a := by
    rw [BitVec.ofInt_natCast, BitVec.toNat_ofNat]; exact Nat.mod_eq_of_lt (by omega)
  have h2 : (BitVec.ofInt 64 (b : Int)).toNat = b := by
    rw [BitVec.ofInt_natCast, BitVec.toNat_ofNat]; exact Nat.mod_eq_of_lt (by omega)
  show IntKind.i64.wrap ((BitVec.ofInt 64 (a : Int) ^^^ BitVec.ofInt 64 (b : Int)).toNat : Int) = _
  rw [BitVec.toNat_xor, h1, h2]
  rw [i64_w]
  exact wrap_id (by omega) (by omega)
theorem tmod_in {a b : Int} (ha : 0 ≤ a) (hb : 1 ≤ b) : 0 ≤ Int.tmod a b ∧ Int.tmod a b < b := by
  rw [Int.tmod_eq_emod_of_nonneg ha]
  exact ⟨Int.emod_nonneg _ (by omega), Int.emod_lt_of_pos _ (by omega)⟩
/-- What is known of the bytes that are drawn from. -/
def IsB (l : List Int) : Prop := l.length ≤ 2000 ∧ ∀ x ∈ l, 0 ≤ x ∧ x ≤ 255
theorem rd_in {l : List Int} (h : IsB l) (i : Int) : 0 ≤ rd l i ∧ rd l i ≤ 255 := by
  unfold rd
  rw [List.getD_eq_getElem?_getD]
  cases e : l[i.toNat]? with
  | none => simp
  | some x => exact h.2 x (List.mem_of_getElem? e)
theorem pick_ev (l : List Int) (p n : Int) (hl : IsB l) (h0 : 0 ≤ p) (h1 : p ≤ 1000000000) (hn : 1 ≤ n) (hn2 : n ≤ 1000000000) :
    ∃ v, Ev (fun k => spec_l13Rd_pick.f k l p n) (v, p + 1) ∧ 0 ≤ v ∧ v < n := by
  have hw : wrap64 (p + 1) = p + 1 := wrap_id (by omega) (by omega)
  have hw2 : wrap64 (p + 1 - 1) = p := by rw [wrap_id (by omega) (by omega)]; omega
  have hlen := hl.1
  unfold spec_l13Rd_pick.f
  rw [hw]
  by_cases he : (l.length : Int) = 0
  · refine ⟨0, ev_neg (by omega) (ev_succ ?_), by omega, by omega⟩
    simp only [spec_l13Rd_pick.j0]
    refine ev_pos ?_ (ev_some _)
    rw [he]; rfl
  have hb : ((l.length : Int) == 0) = false := by simp at he ⊢; exact he
  rw [hb]
  by_cases hlt : p < (l.length : Int)
  · have hv := tmod_in (rd_in hl p).1 hn
    have hr : wrap64 (rd l p) = rd l p := by have := rd_in hl p; exact wrap_id (by omega) (by omega)
    refine ⟨Int.tmod (rd l p) n, ev_neg (by omega) (ev_succ ?_), hv.1, hv.2⟩
    simp only [spec_l13Rd_pick.j0, hw2, hr]
    exact ev_neg (by simp) (ev_pos hlt (ev_pos h0 (ev_neg (by omega) (ev_some _))))
  · have hq := tmod_in h0 (b := (l.length : Int)) (by omega)
    have hm : wrap64 (wrap64 (p * 7) + 3) = p * 7 + 3 := by rw [wrap_id (x := p * 7) (by omega) (by omega), wrap_id (by omega) (by omega)]
    have hq2 := tmod_in (a := p * 7 + 3) (by omega) (b := (l.length : Int)) (by omega)
    have r1 := rd_in hl (Int.tmod p l.length)
    have r2 := rd_in hl (Int.tmod (p * 7 + 3) l.length)
    generalize hA : rd l (Int.tmod p l.length) = A at r1
    generalize hB : rd l (Int.tmod (p * 7 + 3) l.length) = B at r2
    have hd : 0 ≤ Int.tdiv p l.length ∧ Int.tdiv p l.length ≤ p := by
      rw [Int.tdiv_eq_ediv_of_nonneg h0]
      refine ⟨Int.ediv_nonneg h0 (by omega), Int.ediv_le_self _ h0⟩
    generalize hD : Int.tdiv p l.length = D at hd
    have w1 : wrap64 A = A := wrap_id (by omega) (by omega)
    have w2 : wrap64 B = B := wrap_id (by omega) (by omega)
    have w3 : wrap64 (A * 131) = A * 131 := wrap_id (by omega) (by omega)
    have w4 : wrap64 (B * 1117) = B * 1117 := wrap_id (by omega) (by omega)
    have w5 : wrap64 (A * 131 + B * 1117) = A * 131 + B * 1117 := wrap_id (by omega) (by omega)
    have w6 : wrap64 (p * 29) = p * 29 := wrap_id (by omega) (by omega)
    have w7 : wrap64 (A * 131 + B * 1117 + p * 29) = A * 131 + B * 1117 + p * 29 := wrap_id (by omega) (by omega)
    have w8 : wrap64 D = D := wrap_id (by omega) (by omega)
    have w9 : wrap64 (D * 53) = D * 53 := wrap_id (by omega) (by omega)
    have w10 : wrap64 (A * 131 + B * 1117 + p * 29 + D * 53) = A * 131 + B * 1117 + p * 29 + D * 53 := wrap_id (by omega) (by omega)
    have hX : 0 ≤ A * 131 + B * 1117 + p * 29 + D * 53 ∧ A * 131 + B * 1117 + p * 29 + D * 53 < 9223372036854775808 := by omega
    generalize hXX : A * 131 + B * 1117 + p * 29 + D * 53 = X at hX w10
    have hX2 : 0 ≤ Int.tdiv X 64 ∧ Int.tdiv X 64 ≤ X := by
      rw [Int.tdiv_eq_ediv_of_nonneg hX.1]
      refine ⟨Int.ediv_nonneg hX.1 (by omega), Int.ediv_le_self _ hX.1⟩
    have w11 : wrap64 (Int.tdiv X 64) = Int.tdiv X 64 := wrap_id (by omega) (by omega)
    have hxor : 0 ≤ Go.bits .xor .i64 X (Int.tdiv X 64) := by
      obtain ⟨a, ha⟩ := Int.eq_ofNat_of_zero_le hX.1
      obtain ⟨b, hb⟩ := Int.eq_ofNat_of_zero_le hX2.1
      rw [hb, ha, xor_nonneg _ _ (by omega) (by omega)]
      omega
    have hv := tmod_in hxor hn
    refine ⟨Int.tmod (Go.bits .xor .i64 X (Int.tdiv X 64)) n, ev_neg (by omega) (ev_succ ?_), hv.1, hv.2⟩
    simp only [spec_l13Rd_pick.j0, hw2, hm, hA, hB, hD, w1, w2, w3, w4, w5, w6, w7, w8, w9, hXX, w10, w11]
    exact ev_neg (by simp) (ev_neg hlt (ev_neg he (ev_pos hq.1 (ev_pos hq.2 (ev_pos hq2.1 (ev_pos hq2.2 (ev_neg (by omega) (ev_some _))))))))
theorem isB_take {l : List Int} (h : ∀ x ∈ l, (Lit.int .u8 x).wf = true) (n : Nat) (hn : (l.take n).length ≤ 2000) : IsB (l.take n) := by
  refine ⟨hn, fun x hx => ?_⟩
  have := h x (List.mem_of_mem_take hx)
  simp [Lit.wf, IntKind.min, IntKind.max, IntKind.bits, IntKind.signed] at this
  omega
theorem of_ev (l : List Int) (p : Int) (ws : List ByteArray) (hl : IsB l) (h0 : 0 ≤ p) (h1 : p ≤ 1000000000) (hn : 1 ≤ ws.length) (hn2 : ws.length ≤ 1000000) :
    ∃ v, Ev (fun k => spec_l13Rd_of.f k l p ws) (v, p + 1) ∧ v ∈ ws := by
  obtain ⟨i, hi, i0, i1⟩ := pick_ev l p ws.length hl h0 h1 (by omega) (by omega)
  have hlt : i.toNat < ws.length := by omega
  refine ⟨rdOf ByteArray.empty ws i, ?_, ?_⟩
  · unfold spec_l13Rd_of.f
    exact ev_bind hi (ev_pos i0 (ev_pos i1 (ev_some _)))
  · unfold rdOf
    rw [List.getD_eq_getElem?_getD, List.getElem?_eq_getElem hlt]
    exact List.getElem_mem hlt
theorem num_ev (l : List Int) (p : Int) (ws : List Int) (hl : IsB l) (h0 : 0 ≤ p) (h1 : p ≤ 1000000000) (hn : 1 ≤ ws.length) (hn2 : ws.length ≤ 1000000) :
    ∃ v, Ev (fun k => spec_l13Rd_num.f k l p ws) (v, p + 1) ∧ v ∈ ws := by
  obtain ⟨i, hi, i0, i1⟩ := pick_ev l p ws.length hl h0 h1 (by omega) (by omega)
  have hlt : i.toNat < ws.length := by omega
  refine ⟨rd ws i, ?_, ?_⟩
  · unfold spec_l13Rd_num.f
    exact ev_bind hi (ev_pos i0 (ev_pos i1 (ev_some _)))
  · unfold rd
    rw [List.getD_eq_getElem?_getD, List.getElem?_eq_getElem hlt]
    exact List.getElem_mem hlt
theorem open_ev (l : List Int) (h : ∀ x ∈ l, (Lit.int .u8 x).wf = true) : ∃ l', spec_l13Open.f l = some (l', 0) ∧ IsB l' := by
  unfold spec_l13Open.f
  by_cases hc : (l.length : Int) > 2000
  · refine ⟨l.take 2000, ?_, isB_take h 2000 (by rw [List.length_take]; omega)⟩
    rw [if_pos hc, if_pos (by omega)]
  · refine ⟨l, by rw [if_neg hc], ?_⟩
    have := isB_take h l.length (by rw [List.take_length]; omega)
    rwa [List.take_length] at this

/-! Whole ends: the model. -/
def nrm : Str → Str × Nat
  | [] => ([], 0)
  | [c] => if c = 13 ∨ c = 10 then ([13, 10], 1) else ([c], 0)
  | c :: d :: r => if c = 13 ∧ d = 10 then (13 :: 10 :: (nrm r).1, (nrm r).2) else if c = 13 ∨ c = 10 then (13 :: 10 :: (nrm (d :: r)).1, (nrm (d :: r)).2 + 1) else (c :: (nrm (d :: r)).1, (nrm (d :: r)).2)
theorem nrm_end (r : Str) : r.length = 0 → nrm r = ([], 0) := by
  intro h; cases r with
  | nil => rfl
  | cons c r => simp at h
theorem nrm_whole (r : Str) : nrm (13 :: 10 :: r) = (13 :: 10 :: (nrm r).1, (nrm r).2) := by
  rw [nrm, if_pos ⟨rfl, rfl⟩]
theorem nrm_bare (c : UInt8) (r : Str) (h : c = 13 ∨ c = 10) (h2 : c = 13 → r.head? ≠ some 10) : nrm (c :: r) = (13 :: 10 :: (nrm r).1, (nrm r).2 + 1) := by
  cases r with
  | nil => simp only [nrm, if_pos h]
  | cons d r =>
    rw [nrm, if_neg (fun hh => h2 hh.1 (by simp [hh.2])), if_pos h]
theorem nrm_other (c : UInt8) (r : Str) (h : ¬ (c = 13 ∨ c = 10)) : nrm (c :: r) = (c :: (nrm r).1, (nrm r).2) := by
  cases r with
  | nil => simp only [nrm, if_neg h]
  | cons d r =>
    rw [nrm, if_neg (fun hh => h (Or.inl hh.1)), if_neg h]
/-- The ways a text begins. -/
theorem nrm_ways (P : Str → Prop) (h0 : P []) (h1 : ∀ r, P r → P (13 :: 10 :: r)) (h2 : ∀ c r, (c = 13 ∨ c = 10) → (c = 13 → r.head? ≠ some 10) → P r → P (c :: r)) (h3 : ∀ c r, ¬ (c = 13 ∨ c = 10) → P r → P (c :: r)) (r : Str) : P r := by
  have : ∀ n, ∀ r : Str, r.length ≤ n → P r := by
    intro n
    induction n with
    | zero => intro r h; cases r with
      | nil => exact h0
      | cons c r => simp at h
    | succ n ih =>
      intro r h
      cases r with
      | nil => exact h0
      | cons c r =>
        simp only [List.length_cons] at h
        by_cases hc : c = 13 ∨ c = 10
        · by_cases hd : c = 13 ∧ r.head? = some 10
          · obtain ⟨rfl, hd⟩ := hd
            cases r with
            | nil => simp at hd
            | cons d r =>
              simp only [List.head?_cons, Option.some.injEq] at hd
              subst hd
              simp only [List.length_cons] at h
              exact h1 r (ih r (by omega))
          · exact h2 c r hc (fun e f => hd ⟨e, f⟩) (ih r (by omega))
        · exact h3 c r hc (ih r (by omega))
  exact this r.length r (Nat.le_refl _)
theorem nrm_len (r : Str) : (nrm r).1.length = r.length + (nrm r).2 := by
  refine nrm_ways (fun r => (nrm r).1.length = r.length + (nrm r).2) rfl ?_ ?_ ?_ r
  · intro r ih; rw [nrm_whole]; simp only [List.length_cons, ih]; omega
  · intro c r h h2 ih; rw [nrm_bare c r h h2]; simp only [List.length_cons, ih]; omega
  · intro c r h ih; rw [nrm_other c r h]; simp only [List.length_cons, ih]; omega
theorem nrm_le (r : Str) : (nrm r).2 ≤ r.length := by
  refine nrm_ways (fun r => (nrm r).2 ≤ r.length) (Nat.le_refl _) ?_ ?_ ?_ r
  · intro r ih; rw [nrm_whole]; simp only [List.length_cons]; omega
  · intro c r h h2 ih; rw [nrm_bare c r h h2]; simp only [List.length_cons]; omega
  · intro c r h ih; rw [nrm_other c r h]; simp only [List.length_cons]; omega
theorem nrm_zero (r : Str) : (nrm r).2 = 0 ↔ (nrm r).1 = r := by
  constructor
  · refine nrm_ways (fun r => (nrm r).2 = 0 → (nrm r).1 = r) (fun _ => rfl) ?_ ?_ ?_ r
    · intro r ih h; rw [nrm_whole] at h ⊢; simp only at h ⊢; rw [ih h]
    · intro c r h h2 ih hh; rw [nrm_bare c r h h2] at hh; simp at hh
    · intro c r h ih hh; rw [nrm_other c r h] at hh ⊢; simp only at hh ⊢; rw [ih hh]
  · intro h
    have := nrm_len r
    rw [h] at this; omega
/-- What stands behind something that is no second half of an end. -/
theorem nrm_append (a b : Str) (h : b.head? ≠ some 10 ∨ (nrm a).2 = 0) : nrm (a ++ b) = ((nrm a).1 ++ (nrm b).1, (nrm a).2 + (nrm b).2) := by
  revert h
  refine nrm_ways (fun a => (b.head? ≠ some 10 ∨ (nrm a).2 = 0) → nrm (a ++ b) = ((nrm a).1 ++ (nrm b).1, (nrm a).2 + (nrm b).2)) ?_ ?_ ?_ ?_ a
  · intro _; simp [nrm]
  · intro r ih h
    rw [nrm_whole] at h ⊢
    rw [List.cons_append, List.cons_append, nrm_whole, ih h]; rfl
  · intro c r hc h2 ih h
    rw [nrm_bare c r hc h2] at h ⊢
    have hb : b.head? ≠ some 10 := by
      rcases h with h | h
      · exact h
      · simp at h
    rw [List.cons_append, nrm_bare c (r ++ b) hc (fun e => by
      cases r with
      | nil => exact hb
      | cons d r => exact h2 e), ih (Or.inl hb)]
    simp only [List.cons_append]; congr 1; omega
  · intro c r hc ih h
    rw [nrm_other c r hc] at h ⊢
    rw [List.cons_append, nrm_other c (r ++ b) hc, ih h]; rfl
theorem nrm_nrm (r : Str) : nrm (nrm r).1 = ((nrm r).1, 0) := by
  refine nrm_ways (fun r => nrm (nrm r).1 = ((nrm r).1, 0)) rfl ?_ ?_ ?_ r
  · intro r ih; rw [nrm_whole]; simp only; rw [nrm_whole, ih]
  · intro c r h h2 ih; rw [nrm_bare c r h h2]; simp only; rw [nrm_whole, ih]
  · intro c r h ih; rw [nrm_other c r h]; simp only; rw [nrm_other c _ h, ih]

theorem bytes_end : bytesOf (⟨#[13, 10]⟩ : ByteArray) = zn [13, 10] := rfl

theorem impl_normal_loop (s : ByteArray) (hs : s.size ≤ 1000000000) (r : Str) : ∀ (p acc : Str) (c : Nat), L s = p ++ r → acc.length ≤ 2 * p.length → c ≤ p.length → Ev (fun k => impl_normal.l0 k s (zn acc) (c : Int) (p.length : Int)) (ofL (acc ++ (nrm r).1), ((c + (nrm r).2 : Nat) : Int)) := by
  refine nrm_ways (fun r => ∀ (p acc : Str) (c : Nat), L s = p ++ r → acc.length ≤ 2 * p.length → c ≤ p.length → Ev (fun k => impl_normal.l0 k s (zn acc) (c : Int) (p.length : Int)) (ofL (acc ++ (nrm r).1), ((c + (nrm r).2 : Nat) : Int))) ?_ ?_ ?_ ?_ r
  · intro p acc c h ha hc
    have hz := size_L s
    rw [h] at hz
    simp only [List.append_nil] at hz
    refine ev_succ ?_
    simp only [impl_normal.l0]
    refine ev_neg (by omega) ?_
    rw [strOfNums_zn]
    exact ev_eq (ev_some _) (by simp [nrm])
  · intro r ih p acc c h ha hc
    have hz := size_L s
    rw [h] at hz
    simp only [List.length_append, List.length_cons] at hz
    have e1 : bt s (p.length : Int) = 13 := bt_at_cons h
    have h' : L s = (p ++ [13]) ++ 10 :: r := by rw [h]; simp
    have e2 : bt s ((p ++ [13]).length : Int) = 10 := bt_at_cons h'
    have e3 : (((p ++ [13]).length : Nat) : Int) = (p.length : Int) + 1 := by simp
    have w1 : wrap64 ((p.length : Int) + 1) = (p.length : Int) + 1 := wrap_id (by omega) (by omega)
    have w2 : wrap64 ((p.length : Int) + 1 + 1) = (p.length : Int) + 1 + 1 := wrap_id (by omega) (by omega)
    rw [e3] at e2
    refine ev_succ ?_
    simp only [impl_normal.l0, w1, e1, e2]
    refine ev_pos (by omega) (ev_pos (by omega) (ev_pos (by decide) (ev_pos (by omega) (ev_pos (by omega) (ev_succ ?_)))))
    simp only [impl_normal.j1, w1, w2, bytes_end]
    refine ev_pos (by decide) (ev_pos (by rw [zn_length]; omega) ?_)
    have := ih (p ++ [13, 10]) (acc ++ [13, 10]) c (by rw [h]; simp) (by simp; omega) (by simp; omega)
    rw [zn_append] at this
    rw [nrm_whole]
    have e4 : (((p ++ [13, 10]).length : Nat) : Int) = (p.length : Int) + 1 + 1 := by rw [List.length_append, Int.natCast_add]; simp only [List.length_cons, List.length_nil]; omega
    rw [e4] at this
    refine ev_eq this ?_
    rw [List.append_assoc]; rfl
  · intro x r hx h2 ih p acc c h ha hc
    have hz := size_L s
    rw [h] at hz
    simp only [List.length_append, List.length_cons] at hz
    have e1 := bt_at_cons h
    have w1 : wrap64 ((p.length : Int) + 1) = (p.length : Int) + 1 := wrap_id (by omega) (by omega)
    have w2 : wrap64 ((c : Int) + 1) = (c : Int) + 1 := wrap_id (by omega) (by omega)
    have e4 : (((p ++ [x]).length : Nat) : Int) = (p.length : Int) + 1 := by simp
    have hj : Ev (fun k => impl_normal.j1 k s (zn acc) (c : Int) (p.length : Int) false) (ofL (acc ++ (nrm (x :: r)).1), ((c + (nrm (x :: r)).2 : Nat) : Int)) := by
      refine ev_succ ?_
      simp only [impl_normal.j1, w1, w2, e1, bytes_end]
      have := ih (p ++ [x]) (acc ++ [13, 10]) (c + 1) (by rw [h]; simp) (by simp; omega) (by simp; omega)
      rw [zn_append, e4] at this
      rw [nrm_bare x r hx h2]
      have this : Ev (fun k => impl_normal.l0 k s (zn acc ++ zn [13, 10]) ((c : Int) + 1) ((p.length : Int) + 1)) (ofL (acc ++ (13 :: 10 :: (nrm r).1)), ((c + ((nrm r).2 + 1) : Nat) : Int)) := by
        have e : c + 1 + (nrm r).2 = c + ((nrm r).2 + 1) := by omega
        rw [← e]
        simpa using this
      refine ev_neg (by decide) (ev_pos (by omega) (ev_pos (by omega) ?_))
      rcases hx with rfl | rfl
      · exact ev_pos (by decide) (ev_pos (by rw [zn_length]; omega) this)
      · exact ev_neg (by decide) (ev_pos (by decide) (ev_pos (by rw [zn_length]; omega) this))
    refine ev_succ ?_
    simp only [impl_normal.l0, w1, e1]
    refine ev_pos (by omega) (ev_pos (by omega) ?_)
    rcases hx with rfl | rfl
    · refine ev_pos (by decide) ?_
      cases r with
      | nil => exact ev_neg (by simp at hz; omega) hj
      | cons d r =>
        have h' : L s = (p ++ [13]) ++ d :: r := by rw [h]; simp
        have e2 := bt_at_cons h'
        rw [e4] at e2
        simp only [List.length_cons] at hz
        refine ev_pos (by omega) (ev_pos (by omega) ?_)
        have : (bt s ((p.length : Int) + 1) == 10) = false := by
          rw [e2]
          have h3 := h2 rfl
          simp only [List.head?_cons, ne_eq, Option.some.injEq] at h3
          rw [beq_eq_false_iff_ne]
          exact fun h4 => h3 ((u8_eq d 10 (by omega)).mp h4)
        rw [this]
        exact hj
    · exact ev_neg (by decide) hj
  · intro x r hx ih p acc c h ha hc
    have hz := size_L s
    rw [h] at hz
    simp only [List.length_append, List.length_cons] at hz
    have e1 := bt_at_cons h
    have w1 : wrap64 ((p.length : Int) + 1) = (p.length : Int) + 1 := wrap_id (by omega) (by omega)
    have e4 : (((p ++ [x]).length : Nat) : Int) = (p.length : Int) + 1 := by simp
    have n1 : ¬ (x.toNat : Int) = 13 := fun h4 => hx (Or.inl ((u8_eq x 13 (by omega)).mp h4))
    have n2 : ¬ (x.toNat : Int) = 10 := fun h4 => hx (Or.inr ((u8_eq x 10 (by omega)).mp h4))
    refine ev_succ ?_
    simp only [impl_normal.l0, w1, e1]
    refine ev_pos (by omega) (ev_pos (by omega) (ev_neg n1 (ev_succ ?_)))
    simp only [impl_normal.j1, w1, e1]
    refine ev_neg (by decide) (ev_pos (by omega) (ev_pos (by omega) (ev_neg n1 (ev_neg n2 (ev_pos (by rw [zn_length]; omega) ?_)))))
    have := ih (p ++ [x]) (acc ++ [x]) c (by rw [h]; simp) (by simp; omega) (by simp; omega)
    rw [zn_append, e4] at this
    rw [nrm_other x r hx]
    simpa [zn] using this
theorem impl_normal_ev (s : ByteArray) (hs : s.size ≤ 1000000000) : Ev (fun k => impl_normal.f k s) (ofL (nrm (L s)).1, (((nrm (L s)).2 : Nat) : Int)) := by
  have := impl_normal_loop s hs (L s) [] [] 0 rfl (by simp) (by simp)
  unfold impl_normal.f
  refine ev_eq this ?_
  rw [List.nil_append, Nat.zero_add]

theorem impl_CountBare_ev (s : ByteArray) (hs : s.size ≤ 1000000000) : Ev (fun k => impl_CountBare.f k s) (((nrm (L s)).2 : Nat) : Int) := by
  unfold impl_CountBare.f
  exact ev_bind (impl_normal_ev s hs) (ev_some _)

theorem impl_NormalText_ev (s : ByteArray) (hs : s.size ≤ 1000000000) : Ev (fun k => impl_NormalText.f k s) (ofL (nrm (L s)).1) := by
  unfold impl_NormalText.f
  exact ev_bind (impl_normal_ev s hs) (ev_some _)

theorem zn_end : ([13, 10] : List Int) = zn [13, 10] := rfl
theorem spec_NormalText_loop (s : ByteArray) (hs : s.size ≤ 1000000000) (r : Str) : ∀ (p acc : Str), L s = p ++ r → acc.length ≤ 2 * p.length → Ev (fun k => spec_NormalText.l0 k s (zn acc) (p.length : Int)) (ofL (acc ++ (nrm r).1)) := by
  refine nrm_ways (fun r => ∀ (p acc : Str), L s = p ++ r → acc.length ≤ 2 * p.length → Ev (fun k => spec_NormalText.l0 k s (zn acc) (p.length : Int)) (ofL (acc ++ (nrm r).1))) ?_ ?_ ?_ ?_ r
  · intro p acc h ha
    have hz := size_L s
    rw [h] at hz
    simp only [List.append_nil] at hz
    refine ev_succ ?_
    simp only [spec_NormalText.l0]
    repeat (first | refine ev_pos (by first | assumption | omega | decide) ?_ | refine ev_neg (by first | assumption | omega | decide) ?_)
    rw [strOfNums_zn]
    exact ev_eq (ev_some _) (by rw [nrm_end [] rfl, List.append_nil])
  · intro r ih p acc h ha
    have hz := size_L s
    rw [h] at hz
    simp only [List.length_append, List.length_cons] at hz
    have e1 : bt s (p.length : Int) = 13 := bt_at_cons h
    have h' : L s = (p ++ [13]) ++ 10 :: r := by rw [h]; simp
    have e2 : bt s ((p ++ [13]).length : Int) = 10 := bt_at_cons h'
    have e3 : (((p ++ [13]).length : Nat) : Int) = (p.length : Int) + 1 := by simp
    rw [e3] at e2
    have := ih (p ++ [13, 10]) (acc ++ [13, 10]) (by rw [h]; simp) (by simp; omega)
    have e4 : (((p ++ [13, 10]).length : Nat) : Int) = (p.length : Int) + 1 + 1 := by rw [List.length_append, Int.natCast_add]; simp only [List.length_cons, List.length_nil]; omega
    have e5 : acc ++ [13, 10] ++ (nrm r).1 = acc ++ (nrm (13 :: 10 :: r)).1 := by rw [nrm_whole, List.append_assoc]; rfl
    rw [e4, zn_append, e5] at this
    refine ev_succ ?_
    simp (disch := omega) only [spec_NormalText.l0, wrap_id, e1, e2]
    repeat (first | refine ev_pos (by first | assumption | omega | decide) ?_ | refine ev_neg (by first | assumption | omega | decide) ?_)
    refine ev_succ ?_
    simp (disch := omega) only [spec_NormalText.j1, wrap_id, Option.bind_some]
    refine ev_pos (by decide) (ev_pos (by rw [zn_length]; simp only [List.length_cons, List.length_nil]; omega) ?_)
    exact this
  · intro x r hx h2 ih p acc h ha
    have hz := size_L s
    rw [h] at hz
    simp only [List.length_append, List.length_cons] at hz
    have e1 := bt_at_cons h
    have e4 : (((p ++ [x]).length : Nat) : Int) = (p.length : Int) + 1 := by simp
    have hj : Ev (fun k => spec_NormalText.j1 k s (zn acc) (p.length : Int) false) (ofL (acc ++ (nrm (x :: r)).1)) := by
      have := ih (p ++ [x]) (acc ++ [13, 10]) (by rw [h]; simp) (by simp; omega)
      have e5 : acc ++ [13, 10] ++ (nrm r).1 = acc ++ (nrm (x :: r)).1 := by rw [nrm_bare x r hx h2, List.append_assoc]; rfl
      rw [e4, zn_append, e5] at this
      refine ev_succ ?_
      simp (disch := omega) only [spec_NormalText.j1, wrap_id, e1, Option.bind_some]
      rcases hx with rfl | rfl
      · clear e1
        repeat (first | refine ev_pos (by first | assumption | omega | decide) ?_ | refine ev_neg (by first | assumption | omega | decide) ?_)
        exact ev_pos (by rw [zn_length]; simp only [List.length_cons, List.length_nil]; omega) this
      · clear e1
        repeat (first | refine ev_pos (by first | assumption | omega | decide) ?_ | refine ev_neg (by first | assumption | omega | decide) ?_)
        exact ev_pos (by rw [zn_length]; simp only [List.length_cons, List.length_nil]; omega) this
    refine ev_succ ?_
    simp (disch := omega) only [spec_NormalText.l0, wrap_id, e1]
    rcases hx with rfl | rfl
    · clear ih
      cases r with
      | nil =>
        simp only [List.length_nil] at hz
        clear e1
        repeat (first | refine ev_pos (by first | assumption | omega | decide) ?_ | refine ev_neg (by first | assumption | omega | decide) ?_)
        exact hj
      | cons d r =>
        have h' : L s = (p ++ [13]) ++ d :: r := by rw [h]; simp
        have e2 := bt_at_cons h'
        rw [e4] at e2
        simp only [List.length_cons] at hz
        have : (bt s ((p.length : Int) + 1) == 10) = false := by
          rw [e2]
          have h3 := h2 rfl
          simp only [List.head?_cons, ne_eq, Option.some.injEq] at h3
          rw [beq_eq_false_iff_ne]
          exact fun h4 => h3 ((u8_eq d 10 (by omega)).mp h4)
        simp only [this]
        clear e1 e2
        repeat (first | refine ev_pos (by first | assumption | omega | decide) ?_ | refine ev_neg (by first | assumption | omega | decide) ?_)
        exact hj
    · clear e1
      repeat (first | refine ev_pos (by first | assumption | omega | decide) ?_ | refine ev_neg (by first | assumption | omega | decide) ?_)
      exact hj
  · intro x r hx ih p acc h ha
    have hz := size_L s
    rw [h] at hz
    simp only [List.length_append, List.length_cons] at hz
    have e1 := bt_at_cons h
    have e4 : (((p ++ [x]).length : Nat) : Int) = (p.length : Int) + 1 := by simp
    have n1 : ¬ (x.toNat : Int) = 13 := fun h4 => hx (Or.inl ((u8_eq x 13 (by omega)).mp h4))
    have n2 : ¬ (x.toNat : Int) = 10 := fun h4 => hx (Or.inr ((u8_eq x 10 (by omega)).mp h4))
    have := ih (p ++ [x]) (acc ++ [x]) (by rw [h]; simp) (by simp; omega)
    have e5 : acc ++ [x] ++ (nrm r).1 = acc ++ (nrm (x :: r)).1 := by rw [nrm_other x r hx, List.append_assoc]; rfl
    rw [e4, zn_append, e5] at this
    refine ev_succ ?_
    simp (disch := omega) only [spec_NormalText.l0, wrap_id, e1]
    repeat (first | refine ev_pos (by first | assumption | omega | decide) ?_ | refine ev_neg (by first | assumption | omega | decide) ?_)
    refine ev_succ ?_
    simp (disch := omega) only [spec_NormalText.j1, wrap_id, e1]
    repeat (first | refine ev_pos (by first | assumption | omega | decide) ?_ | refine ev_neg (by first | assumption | omega | decide) ?_)
    exact ev_pos (by rw [zn_length]; omega) this
theorem spec_NormalText_ev (s : ByteArray) (hs : s.size ≤ 1000000000) : Ev (fun k => spec_NormalText.f k s) (ofL (nrm (L s)).1) := by
  have := spec_NormalText_loop s hs (L s) [] [] rfl (by simp)
  unfold spec_NormalText.f
  refine ev_eq this ?_
  rw [List.nil_append]

theorem l9Text_loop (l : List Int) (hl : IsB l) (n : Nat) : ∀ (s : ByteArray) (p : Int), 0 ≤ p → p + n ≤ 1000000000 → s.size + 10 * n ≤ 1000000000 →
    ∃ t q, Ev (fun k => spec_l9Text.l0 k s (n : Int) l p) (t, q) ∧ t.size ≤ s.size + 10 * n := by
  induction n with
  | zero =>
    intro s p h0 h1 h2
    refine ⟨s, p, ev_succ ?_, by omega⟩
    simp only [spec_l9Text.l0]
    repeat (first | refine ev_pos (by first | assumption | omega | decide) ?_ | refine ev_neg (by first | assumption | omega | decide) ?_)
    exact ev_some _
  | succ n ih =>
    intro s p h0 h1 h2
    obtain ⟨v, hv, hm⟩ := of_ev l p [(⟨#[97]⟩ : ByteArray), (⟨#[13, 10]⟩ : ByteArray), (⟨#[10]⟩ : ByteArray), (⟨#[13]⟩ : ByteArray), (⟨#[46]⟩ : ByteArray), (⟨#[98, 32, 99]⟩ : ByteArray)] hl h0 (by omega) (by simp) (by simp)
    have hsz : v.size ≤ 10 := by
      simp only [List.mem_cons, List.not_mem_nil, or_false] at hm
      rcases hm with rfl | rfl | rfl | rfl | rfl | rfl <;> decide
    have hap : (s ++ v).size = s.size + v.size := by rw [size_L, L_append, List.length_append, ← size_L, ← size_L]
    obtain ⟨t, q, ht, hq⟩ := ih (s ++ v) (p + 1) (by omega) (by omega) (by omega)
    refine ⟨t, q, ev_succ ?_, by omega⟩
    have e : (((n + 1 : Nat) : Int) - 1) = (n : Int) := by omega
    simp (disch := omega) only [spec_l9Text.l0, wrap_id, e]
    refine ev_pos (by omega) (ev_bind hv ?_)
    dsimp only
    refine ev_pos (by omega) ht
theorem l9Text_ev (l : List Int) (hl : IsB l) : ∃ t q, Ev (fun k => spec_l9Text.f k l 0) (t, q) ∧ t.size ≤ 100 := by
  obtain ⟨n, hn, hm⟩ := num_ev l 0 [4, 3, 6, 1, 0] hl (by omega) (by omega) (by simp) (by simp)
  have : ∃ m : Nat, n = (m : Int) ∧ m ≤ 6 := by
    simp only [List.mem_cons, List.not_mem_nil, or_false] at hm
    rcases hm with rfl | rfl | rfl | rfl | rfl
    · exact ⟨4, rfl, by omega⟩
    · exact ⟨3, rfl, by omega⟩
    · exact ⟨6, rfl, by omega⟩
    · exact ⟨1, rfl, by omega⟩
    · exact ⟨0, rfl, by omega⟩
  obtain ⟨m, rfl, hm⟩ := this
  have h0 : (⟨#[]⟩ : ByteArray).size = 0 := rfl
  obtain ⟨t, q, ht, hq⟩ := l9Text_loop l hl m (⟨#[]⟩ : ByteArray) (0 + 1) (by omega) (by omega) (by omega)
  refine ⟨t, q, ?_, by omega⟩
  unfold spec_l9Text.f
  exact ev_bind hn ht

theorem DrawNormalText_ev (l : List Int) (h : ∀ x ∈ l, (Lit.int .u8 x).wf = true) : ∃ t, Ev (fun k => spec_DrawNormalText.f k l) t ∧ t.size ≤ 100 := by
  obtain ⟨l', ho, hb⟩ := open_ev l h
  obtain ⟨t, q, ht, hq⟩ := l9Text_ev l' hb
  refine ⟨t, ?_, hq⟩
  unfold spec_DrawNormalText.f
  exact ev_bind0 ho (ev_bind ht (ev_some _))

theorem FnNormalJoin : laws_FnNormalJoin.Pure := by
  intro l hlen hlen2 h
  apply ev_rounds
  unfold laws_FnNormalJoin.f
  by_cases hc : (l.length : Int) > 1048576
  · exact ev_pos hc (ev_some _)
  · obtain ⟨s, hs, hz⟩ := DrawNormalText_ev l h
    have hle := nrm_le (L s)
    have hln := nrm_len (L s)
    have z0 := size_L s
    have z1 := size_ofL (nrm (L s)).1
    have ea : ∀ t : ByteArray, (⟨#[97]⟩ : ByteArray) ++ t ++ (⟨#[98]⟩ : ByteArray) = ofL (97 :: (L t ++ [98])) := fun t => L_inj (by rw [L_append, L_append]; rfl)
    have eb : ∀ t : ByteArray, ((⟨#[97]⟩ : ByteArray) ++ t).size = t.size + 1 := fun t => by
      rw [size_L, L_append, List.length_append, ← size_L t]
      have : (L (⟨#[97]⟩ : ByteArray)).length = 1 := rfl
      omega
    have en : nrm (97 :: (L s ++ [98])) = (97 :: ((nrm (L s)).1 ++ [98]), (nrm (L s)).2) := by
      rw [nrm_other 97 _ (by decide), nrm_append _ _ (Or.inl (by simp))]; rfl
    have ee : nrm ((nrm (L s)).1 ++ (97 :: ((nrm (L s)).1 ++ [98]))) = ((nrm (L s)).1 ++ (97 :: ((nrm (L s)).1 ++ [98])), 0) := by
      rw [nrm_append _ _ (Or.inl (by simp)), nrm_other 97 _ (by decide), nrm_append _ _ (Or.inl (by simp)), nrm_nrm]; rfl
    have i1 := impl_NormalText_ev (ofL (97 :: (L s ++ [98]))) (by rw [size_ofL]; simp; omega)
    rw [L_ofL, en] at i1
    have i2 := impl_CountBare_ev (ofL ((nrm (L s)).1 ++ (97 :: ((nrm (L s)).1 ++ [98])))) (by rw [size_ofL]; simp; omega)
    have i3 := impl_NormalText_ev (ofL ((nrm (L s)).1 ++ (97 :: ((nrm (L s)).1 ++ [98])))) (by rw [size_ofL]; simp; omega)
    rw [L_ofL, ee] at i2 i3
    have z2 : (ofL (97 :: ((nrm (L s)).1 ++ [98]))).size ≤ 1000 := by rw [size_ofL]; simp; omega
    simp only [ea, eb]
    refine ev_neg hc (ev_bind hs (ev_bind (impl_NormalText_ev s (by omega)) (ev_bind (spec_NormalText_ev s (by omega)) (ev_pos rfl (ev_pos (by omega) (ev_pos (by omega) (ev_bind i1 ?_)))))))
    dsimp only
    simp only [ofL_append, L_ofL]
    refine ev_pos (by omega) (ev_bind i2 (ev_pos rfl (ev_pos (by omega) (ev_pos (by omega) (ev_pos trivial (ev_bind i3 (ev_eq (ev_some _) ?_)))))))
    simp

end Go.Proofs.Ythlgdfjckhjiaaa.Pure
