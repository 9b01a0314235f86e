/- Proved here: the pure form of the law FnUnstuffText (what is read is sent) returns true for all arguments; conditions: none beyond those that the printed statement bears. -/
import Derived.Test.YthlgdfjckhjiaaaPFnUnstuffTextx4
import Derived.Test.YthlgdfjckhjiaaaZb
namespace Go.Proofs.Ythlgdfjckhjiaaa.Pure
open Go.RowKit Go.Proofs.Ythlgdfjckhjiaaa.X Go.Proofs.Ythlgdfjckhjiaaa.PFnUnstuffText Go.Proofs.YthlgdfjckhjiaaaW.PrintWords Go.Proofs.YthlgdfjckhjiaaaW.PrintLast Go.Proofs.Ythlgdfjckhjiaaa.Z
set_option linter.unusedVariables false
set_option linter.unusedSimpArgs false

/-! The reader of draws. -/
theorem xor_nonneg (a b : Nat) (ha : a < 9223372036854775808) (hb : b < 9223372036854775808) : Go.bits .xor .i64 (a : Int) (b : Int) = ((a ^^^ b : Nat) : Int) := by
  have hx : a ^^^ b < 2 ^ 63 := Nat.xor_lt_two_pow (by omega) (by omega)
  have h1 : (BitVec.ofInt 64 (a : Int)).toNat = a := by
    rw [BitVec.ofInt_natCast, BitVec.toNat_ofNat]; exact Nat.mod_eq_of_lt (by omega)
  have h2 : (BitVec.ofInt 64 (b : Int)).toNat = b := by
    rw [BitVec.ofInt_natCast, BitVec.toNat_ofNat]; exact Nat.mod_eq_of_lt (by omega)
  show IntKind.i64.wrap ((BitVec.ofInt 64 (a : Int) ^^^ BitVec.ofInt 64 (b : Int)).toNat : Int) = _
  rw [BitVec.toNat_xor, h1, h2]
  rw [i64_w]
  exact wrap_id (by omega) (by omega)
theorem tmod_in {a b : Int} (ha : 0 ≤ a) (hb : 1 ≤ b) : 0 ≤ Int.tmod a b ∧ Int.tmod a b < b := by
  rw [Int.tmod_eq_emod_of_nonneg ha]
  exact ⟨Int.emod_nonneg _ (by omega), Int.emod_lt_of_pos _ (by omega)⟩
/-- What is known of the bytes that are drawn from. -/
def IsB (l : List Int) : Prop := l.length ≤ 2000 ∧ ∀ x ∈ l, 0 ≤ x ∧ x ≤ 255
theorem rd_in {l : List Int} (h : IsB l) (i : Int) : 0 ≤ rd l i ∧ rd l i ≤ 255 := by
  unfold rd
  rw [List.getD_eq_getElem?_getD]
  cases e : l[i.toNat]? with
  | none => simp
  | some x => exact h.2 x (List.mem_of_getElem? e)
theorem pick_ev (l : List Int) (p n : Int) (hl : IsB l) (h0 : 0 ≤ p) (h1 : p ≤ 1000000000) (hn : 1 ≤ n) (hn2 : n ≤ 1000000000) :
    ∃ v, Ev (fun k => spec_l13Rd_pick.f k l p n) (v, p + 1) ∧ 0 ≤ v ∧ v < n := by
  have hw : wrap64 (p + 1) = p + 1 := wrap_id (by omega) (by omega)
  have hw2 : wrap64 (p + 1 - 1) = p := by rw [wrap_id (by omega) (by omega)]; omega
  have hlen := hl.1
  unfold spec_l13Rd_pick.f
  rw [hw]
  by_cases he : (l.length : Int) = 0
  · refine ⟨0, ev_neg (by omega) (ev_succ ?_), by omega, by omega⟩
    simp only [spec_l13Rd_pick.j0]
    refine ev_pos ?_ (ev_some _)
    rw [he]; rfl
  have hb : ((l.length : Int) == 0) = false := by simp at he ⊢; exact he
  rw [hb]
  by_cases hlt : p < (l.length : Int)
  · have hv := tmod_in (rd_in hl p).1 hn
    have hr : wrap64 (rd l p) = rd l p := by have := rd_in hl p; exact wrap_id (by omega) (by omega)
    refine ⟨Int.tmod (rd l p) n, ev_neg (by omega) (ev_succ ?_), hv.1, hv.2⟩
    simp only [spec_l13Rd_pick.j0, hw2, hr]
    exact ev_neg (by simp) (ev_pos hlt (ev_pos h0 (ev_neg (by omega) (ev_some _))))
  · have hq := tmod_in h0 (b := (l.length : Int)) (by omega)
    have hm : wrap64 (wrap64 (p * 7) + 3) = p * 7 + 3 := by rw [wrap_id (x := p * 7) (by omega) (by omega), wrap_id (by omega) (by omega)]
    have hq2 := tmod_in (a := p * 7 + 3) (by omega) (b := (l.length : Int)) (by omega)
    have r1 := rd_in hl (Int.tmod p l.length)
    have r2 := rd_in hl (Int.tmod (p * 7 + 3) l.length)
    generalize hA : rd l (Int.tmod p l.length) = A at r1
    generalize hB : rd l (Int.tmod (p * 7 + 3) l.length) = B at r2
    have hd : 0 ≤ Int.tdiv p l.length ∧ Int.tdiv p l.length ≤ p := by
      rw [Int.tdiv_eq_ediv_of_nonneg h0]
      refine ⟨Int.ediv_nonneg h0 (by omega), Int.ediv_le_self _ h0⟩
    generalize hD : Int.tdiv p l.length = D at hd
    have w1 : wrap64 A = A := wrap_id (by omega) (by omega)
    have w2 : wrap64 B = B := wrap_id (by omega) (by omega)
    have w3 : wrap64 (A * 131) = A * 131 := wrap_id (by omega) (by omega)
    have w4 : wrap64 (B * 1117) = B * 1117 := wrap_id (by omega) (by omega)
    have w5 : wrap64 (A * 131 + B * 1117) = A * 131 + B * 1117 := wrap_id (by omega) (by omega)
    have w6 : wrap64 (p * 29) = p * 29 := wrap_id (by omega) (by omega)
    have w7 : wrap64 (A * 131 + B * 1117 + p * 29) = A * 131 + B * 1117 + p * 29 := wrap_id (by omega) (by omega)
    have w8 : wrap64 D = D := wrap_id (by omega) (by omega)
    have w9 : wrap64 (D * 53) = D * 53 := wrap_id (by omega) (by omega)
    have w10 : wrap64 (A * 131 + B * 1117 + p * 29 + D * 53) = A * 131 + B * 1117 + p * 29 + D * 53 := wrap_id (by omega) (by omega)
    have hX : 0 ≤ A * 131 + B * 1117 + p * 29 + D * 53 ∧ A * 131 + B * 1117 + p * 29 + D * 53 < 9223372036854775808 := by omega
    generalize hXX : A * 131 + B * 1117 + p * 29 + D * 53 = X at hX w10
    have hX2 : 0 ≤ Int.tdiv X 64 ∧ Int.tdiv X 64 ≤ X := by
      rw [Int.tdiv_eq_ediv_of_nonneg hX.1]
      refine ⟨Int.ediv_nonneg hX.1 (by omega), Int.ediv_le_self _ hX.1⟩
    have w11 : wrap64 (Int.tdiv X 64) = Int.tdiv X 64 := wrap_id (by omega) (by omega)
    have hxor : 0 ≤ Go.bits .xor .i64 X (Int.tdiv X 64) := by
      obtain ⟨a, ha⟩ := Int.eq_ofNat_of_zero_le hX.1
      obtain ⟨b, hb⟩ := Int.eq_ofNat_of_zero_le hX2.1
      rw [hb, ha, xor_nonneg _ _ (by omega) (by omega)]
      omega
    have hv := tmod_in hxor hn
    refine ⟨Int.tmod (Go.bits .xor .i64 X (Int.tdiv X 64)) n, ev_neg (by omega) (ev_succ ?_), hv.1, hv.2⟩
    simp only [spec_l13Rd_pick.j0, hw2, hm, hA, hB, hD, w1, w2, w3, w4, w5, w6, w7, w8, w9, hXX, w10, w11]
    exact ev_neg (by simp) (ev_neg hlt (ev_neg he (ev_pos hq.1 (ev_pos hq.2 (ev_pos hq2.1 (ev_pos hq2.2 (ev_neg (by omega) (ev_some _))))))))
theorem isB_take {l : List Int} (h : ∀ x ∈ l, (Lit.int .u8 x).wf = true) (n : Nat) (hn : (l.take n).length ≤ 2000) : IsB (l.take n) := by
  refine ⟨hn, fun x hx => ?_⟩
  have := h x (List.mem_of_mem_take hx)
  simp [Lit.wf, IntKind.min, IntKind.max, IntKind.bits, IntKind.signed] at this
  omega
theorem of_ev (l : List Int) (p : Int) (ws : List ByteArray) (hl : IsB l) (h0 : 0 ≤ p) (h1 : p ≤ 1000000000) (hn : 1 ≤ ws.length) (hn2 : ws.length ≤ 1000000) :
    ∃ v, Ev (fun k => spec_l13Rd_of.f k l p ws) (v, p + 1) ∧ v ∈ ws := by
  obtain ⟨i, hi, i0, i1⟩ := pick_ev l p ws.length hl h0 h1 (by omega) (by omega)
  have hlt : i.toNat < ws.length := by omega
  refine ⟨rdOf ByteArray.empty ws i, ?_, ?_⟩
  · unfold spec_l13Rd_of.f
    exact ev_bind hi (ev_pos i0 (ev_pos i1 (ev_some _)))
  · unfold rdOf
    rw [List.getD_eq_getElem?_getD, List.getElem?_eq_getElem hlt]
    exact List.getElem_mem hlt
theorem num_ev (l : List Int) (p : Int) (ws : List Int) (hl : IsB l) (h0 : 0 ≤ p) (h1 : p ≤ 1000000000) (hn : 1 ≤ ws.length) (hn2 : ws.length ≤ 1000000) :
    ∃ v, Ev (fun k => spec_l13Rd_num.f k l p ws) (v, p + 1) ∧ v ∈ ws := by
  obtain ⟨i, hi, i0, i1⟩ := pick_ev l p ws.length hl h0 h1 (by omega) (by omega)
  have hlt : i.toNat < ws.length := by omega
  refine ⟨rd ws i, ?_, ?_⟩
  · unfold spec_l13Rd_num.f
    exact ev_bind hi (ev_pos i0 (ev_pos i1 (ev_some _)))
  · unfold rd
    rw [List.getD_eq_getElem?_getD, List.getElem?_eq_getElem hlt]
    exact List.getElem_mem hlt
theorem open_ev (l : List Int) (h : ∀ x ∈ l, (Lit.int .u8 x).wf = true) : ∃ l', spec_l13Open.f l = some (l', 0) ∧ IsB l' := by
  unfold spec_l13Open.f
  by_cases hc : (l.length : Int) > 2000
  · refine ⟨l.take 2000, ?_, isB_take h 2000 (by rw [List.length_take]; omega)⟩
    rw [if_pos hc, if_pos (by omega)]
  · refine ⟨l, by rw [if_neg hc], ?_⟩
    have := isB_take h l.length (by rw [List.take_length]; omega)
    rwa [List.take_length] at this

/-! Texts: the model. -/
def okB (c : UInt8) : Bool := 32 ≤ c && c ≤ 126
def tvalid (l : Str) : Bool := l.all okB && decide (l.length ≤ 200)
theorem okB_lo (c : UInt8) (h : (c.toNat : Int) < 32) : okB c = false := by
  have : c < 32 := (u8_lt c 32 (by omega)).mp h
  unfold okB
  simp [UInt8.le_iff_toNat_le, UInt8.lt_iff_toNat_lt] at this ⊢
  omega
theorem okB_hi (c : UInt8) (h : (c.toNat : Int) > 126) : okB c = false := by
  unfold okB
  simp [UInt8.le_iff_toNat_le, UInt8.lt_iff_toNat_lt]
  omega
theorem okB_mid (c : UInt8) (h : ¬ (c.toNat : Int) < 32) (h2 : ¬ (c.toNat : Int) > 126) : okB c = true := by
  unfold okB
  simp [UInt8.le_iff_toNat_le, UInt8.lt_iff_toNat_lt]
  omega
theorem tvalid_len {l : Str} (h : tvalid l = true) : l.length ≤ 200 := by
  unfold tvalid at h; simp at h; exact h.2

theorem impl_TextValid_loop (l : Str) (hl : l.length ≤ 1000000000000000) (r : Str) : ∀ (p : Str), l = p ++ r → Ev (fun k => impl_TextValid.l0 k (ofL l) (l.length : Int) (p.length : Int)) (r.all okB && decide (l.length ≤ 200)) := by
  induction r with
  | nil =>
    intro p h
    have hz : l.length = p.length := by rw [h, List.append_nil]
    refine ev_succ ?_
    simp only [impl_TextValid.l0, size_ofL]
    repeat (first | refine ev_pos (by first | assumption | omega | decide) ?_ | refine ev_neg (by first | assumption | omega | decide) ?_)
    exact ev_eq (ev_some _) (by simp; omega)
  | cons c r ih =>
    intro p h
    have hz : l.length = p.length + (r.length + 1) := by rw [h]; simp
    have e1 : bt (ofL l) (p.length : Int) = (c.toNat : Int) := by rw [h]; exact bt_mid p r c
    have := ih (p ++ [c]) (by rw [h]; simp)
    rw [len_snoc] at this
    refine ev_succ ?_
    simp (disch := omega) only [impl_TextValid.l0, size_ofL, e1, wrap_id]
    by_cases h1 : (c.toNat : Int) < 32
    · repeat (first | refine ev_pos (by first | assumption | omega | decide) ?_ | refine ev_neg (by first | assumption | omega | decide) ?_)
      exact ev_eq (ev_some _) (by simp [okB_lo c h1])
    · by_cases h2 : (c.toNat : Int) > 126
      · repeat (first | refine ev_pos (by first | assumption | omega | decide) ?_ | refine ev_neg (by first | assumption | omega | decide) ?_)
        exact ev_eq (ev_some _) (by simp [okB_hi c h2])
      · repeat (first | refine ev_pos (by first | assumption | omega | decide) ?_ | refine ev_neg (by first | assumption | omega | decide) ?_)
        exact ev_eq this (by simp [okB_mid c h1 h2])
theorem impl_TextValid_ev (l : Str) (hl : l.length ≤ 1000000000000000) : Ev (fun k => impl_TextValid.f k (ofL l)) (tvalid l) := by
  unfold impl_TextValid.f
  rw [size_ofL]
  exact impl_TextValid_loop l hl l [] rfl

theorem spec_TextValid_loop (l : Str) (hl : l.length ≤ 1000000000000000) (r : Str) : ∀ (p : Str), l = p ++ r → Ev (fun k => spec_TextValid.l0 k (ofL l) (p.length : Int)) (r.all okB && decide (l.length ≤ 200)) := by
  induction r with
  | nil =>
    intro p h
    have hz : l.length = p.length := by rw [h, List.append_nil]
    refine ev_succ ?_
    simp only [spec_TextValid.l0, size_ofL]
    repeat (first | refine ev_pos (by first | assumption | omega | decide) ?_ | refine ev_neg (by first | assumption | omega | decide) ?_)
    refine ev_succ ?_
    simp only [spec_TextValid.j1, size_ofL]
    repeat (first | refine ev_pos (by first | assumption | omega | decide) ?_ | refine ev_neg (by first | assumption | omega | decide) ?_)
    exact ev_eq (ev_some _) (by simp; omega)
  | cons c r ih =>
    intro p h
    have hz : l.length = p.length + (r.length + 1) := by rw [h]; simp
    have e1 : bt (ofL l) (p.length : Int) = (c.toNat : Int) := by rw [h]; exact bt_mid p r c
    have := ih (p ++ [c]) (by rw [h]; simp)
    rw [len_snoc] at this
    by_cases h0 : (p.length : Int) ≤ 200
    · refine ev_succ ?_
      simp only [spec_TextValid.l0, size_ofL]
      repeat (first | refine ev_pos (by first | assumption | omega | decide) ?_ | refine ev_neg (by first | assumption | omega | decide) ?_)
      refine ev_succ ?_
      simp (disch := omega) only [spec_TextValid.j1, size_ofL, e1, wrap_id, decide_eq_true h0]
      by_cases h1 : (c.toNat : Int) < 32
      · repeat (first | refine ev_pos (by first | assumption | omega | decide) ?_ | refine ev_neg (by first | assumption | omega | decide) ?_)
        exact ev_eq (ev_some _) (by simp [okB_lo c h1])
      · by_cases h2 : (c.toNat : Int) > 126
        · repeat (first | refine ev_pos (by first | assumption | omega | decide) ?_ | refine ev_neg (by first | assumption | omega | decide) ?_)
          exact ev_eq (ev_some _) (by simp [okB_hi c h2])
        · repeat (first | refine ev_pos (by first | assumption | omega | decide) ?_ | refine ev_neg (by first | assumption | omega | decide) ?_)
          exact ev_eq this (by simp [okB_mid c h1 h2])
    · refine ev_succ ?_
      simp only [spec_TextValid.l0, size_ofL]
      repeat (first | refine ev_pos (by first | assumption | omega | decide) ?_ | refine ev_neg (by first | assumption | omega | decide) ?_)
      refine ev_succ ?_
      simp only [spec_TextValid.j1, size_ofL, decide_eq_false h0]
      repeat (first | refine ev_pos (by first | assumption | omega | decide) ?_ | refine ev_neg (by first | assumption | omega | decide) ?_)
      have d1 : decide ((l.length : Int) ≤ 200) = false := decide_eq_false (by omega)
      have d2 : decide (l.length ≤ 200) = false := decide_eq_false (by omega)
      exact ev_eq (ev_some _) (by rw [d1, d2, Bool.and_false])
theorem spec_TextValid_ev (l : Str) (hl : l.length ≤ 1000000000000000) : Ev (fun k => spec_TextValid.f k (ofL l)) (tvalid l) := by
  unfold spec_TextValid.f
  exact spec_TextValid_loop l hl l [] rfl

theorem stringslite_HasPrefix_eq (a b : Str) : stringslite_HasPrefix.f (ofL a) (ofL b) = some (b.isPrefixOf a) := by
  unfold stringslite_HasPrefix.f
  simp only [size_ofL, extract_ofL, toList_ofL]
  by_cases h : (a.length : Int) ≥ (b.length : Int)
  · rw [if_pos h, if_pos (by omega), if_pos (by omega)]
    congr 1
    rw [Bool.eq_iff_iff, beq_iff_eq, List.isPrefixOf_iff_prefix, List.prefix_iff_eq_take]
    simp
    exact eq_comm
  · rw [if_neg h]
    congr 1
    rw [eq_comm, Bool.eq_false_iff, ne_eq, List.isPrefixOf_iff_prefix]
    intro hp
    have := hp.length_le
    omega
theorem strings_HasPrefix_eq (a b : Str) : strings_HasPrefix.f (ofL a) (ofL b) = some (b.isPrefixOf a) := by
  unfold strings_HasPrefix.f
  rw [stringslite_HasPrefix_eq]; rfl

/-! Lines with dots: the model. -/
def stf (l : Str) : Str := if ([46] : Str).isPrefixOf l = true then 46 :: l else l
def stuffs : List Str → Str → Option Str
  | [], out => if (out ++ [46, 13, 10]).length > 2000 then none else some (out ++ [46, 13, 10])
  | l :: r, out => if tvalid l = false ∨ out.length > 2000 then none else stuffs r (out ++ (stf l ++ [13, 10]))
def sres (o : Option Str) : ByteArray × Bool := match o with
  | none => (ofL [], false)
  | some s => (ofL s, true)
theorem stf_len (l : Str) : (stf l).length ≤ l.length + 1 ∧ l.length ≤ (stf l).length := by
  unfold stf; split
  · simp
  · omega

/-! Lines taken apart: the model. -/
def cutE : Str → Option (Str × Str)
  | [] => none
  | c :: r => if c = 13 ∧ r.head? = some 10 then some ([], r.drop 1) else match cutE r with
    | none => none
    | some (a, b) => some (c :: a, b)
theorem cutE_some (s : Str) : ∀ a b : Str, cutE s = some (a, b) → s = a ++ 13 :: 10 :: b := by
  induction s with
  | nil => intro a b h; cases h
  | cons c r ih =>
    intro a b h
    rw [cutE] at h
    split at h
    · rename_i hc
      obtain ⟨rfl, h2⟩ := hc
      cases h
      cases r with
      | nil => cases h2
      | cons d r => simp at h2; subst h2; rfl
    · cases e : cutE r with
      | none => rw [e] at h; cases h
      | some q =>
        obtain ⟨x, y⟩ := q
        rw [e] at h
        cases h
        rw [ih x b e]; rfl
theorem cutE_len {s a b : Str} (h : cutE s = some (a, b)) : s.length = a.length + b.length + 2 := by
  rw [cutE_some s a b h]; simp; omega
theorem cutE_free (x t : Str) (h : ∀ c ∈ x, c ≠ 13) : cutE (x ++ 13 :: 10 :: t) = some (x, t) := by
  induction x with
  | nil => rfl
  | cons c x ih =>
    rw [List.cons_append, cutE, if_neg (fun hh => h c (by simp) hh.1), ih (fun d hd => h d (by simp [hd]))]
theorem cutE_none_free (x : Str) (h : ∀ c ∈ x, c ≠ 10) : cutE x = none := by
  induction x with
  | nil => rfl
  | cons c x ih =>
    rw [cutE, if_neg, ih (fun d hd => h d (by simp [hd]))]
    rintro ⟨_, h2⟩
    cases x with
    | nil => cases h2
    | cons d x => simp at h2; exact h d (by simp) h2
theorem cutE_pre (x t : Str) (h : ∀ c ∈ x, c ≠ 13) (ht : cutE t = none) : cutE (x ++ t) = none := by
  induction x with
  | nil => exact ht
  | cons c x ih => rw [List.cons_append, cutE, if_neg (fun hh => h c (by simp) hh.1), ih (fun d hd => h d (by simp [hd]))]
def undot (l : Str) : Str := if ([46] : Str).isPrefixOf l = true then l.drop 1 else l
/-- Lines read; at the end what is behind them. -/
def unst : Nat → Str → List Str → Option (List Str × Str)
  | 0, _, _ => none
  | n + 1, s, acc => match cutE s with
    | none => none
    | some (a, b) => if a = [46] then some (acc, b) else if tvalid (undot a) = true then unst n b (acc ++ [undot a]) else none
def unstuff (s : Str) : Option (List Str × Str) := if s.length > 2000 then none else unst (s.length + 1) s []
def ures (o : Option (List Str × Str)) : List ByteArray × ByteArray × Bool := match o with
  | none => ([], ofL [], false)
  | some (x, y) => (x.map ofL, ofL y, true)
theorem tvalid_no {l : Str} (h : tvalid l = true) (n : UInt8) (hn : n < 32) : ∀ c ∈ l, c ≠ n := by
  intro c hc e
  subst e
  unfold tvalid at h
  simp only [Bool.and_eq_true, List.all_eq_true] at h
  have := h.1 c hc
  unfold okB at this
  simp [UInt8.le_iff_toNat_le, UInt8.lt_iff_toNat_lt] at this hn
  omega
theorem stf_no {l : Str} (h : tvalid l = true) (n : UInt8) (hn : n < 32) : ∀ c ∈ stf l, c ≠ n := by
  intro c hc
  unfold stf at hc
  split at hc
  · rcases List.mem_cons.mp hc with rfl | hc
    · rintro rfl; revert hn; decide
    · exact tvalid_no h n hn c hc
  · exact tvalid_no h n hn c hc
theorem undot_stf (l : Str) : undot (stf l) = l := by
  unfold stf
  split
  · unfold undot; simp [List.isPrefixOf]
  · rename_i h
    unfold undot; rw [if_neg h]
theorem stf_ne (l : Str) : stf l ≠ [46] := by
  unfold stf
  split
  · rename_i h
    cases l with
    | nil => simp [List.isPrefixOf] at h
    | cons c l => simp
  · rename_i h
    intro e; subst e; simp [List.isPrefixOf] at h
/-- What is sent of lines, but for the end. -/
def sbody : List Str → Str
  | [] => []
  | l :: r => stf l ++ 13 :: 10 :: sbody r
theorem stuffs_body (ls : List Str) : ∀ (out s : Str), stuffs ls out = some s → s = out ++ sbody ls ++ [46, 13, 10] ∧ ∀ l ∈ ls, tvalid l = true := by
  induction ls with
  | nil =>
    intro out s h
    rw [stuffs] at h
    split at h
    · cases h
    · cases h; exact ⟨by simp [sbody], by simp⟩
  | cons c r ih =>
    intro out s h
    rw [stuffs] at h
    split at h
    · cases h
    · rename_i hc
      obtain ⟨h1, h2⟩ := ih _ _ h
      have hc1 : tvalid c = true := by
        cases e : tvalid c with
        | true => rfl
        | false => exact absurd (Or.inl e) hc
      refine ⟨by rw [h1]; simp [sbody], fun l hl => ?_⟩
      rcases List.mem_cons.mp hl with rfl | hl
      · exact hc1
      · exact h2 l hl
theorem unst_body (ls : List Str) (t : Str) : ∀ (n : Nat) (acc : List Str), (∀ l ∈ ls, tvalid l = true) → ls.length < n → unst n (sbody ls ++ 46 :: 13 :: 10 :: t) acc = some (acc ++ ls, t) := by
  induction ls with
  | nil =>
    intro n acc _ hn
    obtain ⟨n, rfl⟩ : ∃ m, n = m + 1 := ⟨n - 1, by simp at hn; omega⟩
    have : cutE (46 :: 13 :: 10 :: t) = some ([46], t) := cutE_free [46] t (by simp)
    rw [sbody, List.nil_append, unst, this]
    simp
  | cons c r ih =>
    intro n acc h hn
    obtain ⟨n, rfl⟩ : ∃ m, n = m + 1 := ⟨n - 1, by simp at hn; omega⟩
    have hc := h c (by simp)
    have : cutE (stf c ++ 13 :: 10 :: (sbody r ++ 46 :: 13 :: 10 :: t)) = some (stf c, sbody r ++ 46 :: 13 :: 10 :: t) := cutE_free _ _ (stf_no hc 13 (by decide))
    have e : sbody (c :: r) ++ 46 :: 13 :: 10 :: t = stf c ++ 13 :: 10 :: (sbody r ++ 46 :: 13 :: 10 :: t) := by simp [sbody]
    rw [e, unst, this]
    simp only [if_neg (stf_ne c), undot_stf, if_pos hc]
    rw [ih n (acc ++ [c]) (fun l hl => h l (by simp [hl])) (by simp at hn; omega)]
    simp
theorem sbody_len (ls : List Str) : ls.length ≤ (sbody ls).length := by
  induction ls with
  | nil => simp [sbody]
  | cons c r ih => simp only [sbody, List.length_append, List.length_cons]; omega
theorem unstuff_stuffs {ls : List Str} {s : Str} (h : stuffs ls [] = some s) (t : Str) (hl : s.length + t.length ≤ 2000) : unstuff (s ++ t) = some (ls, t) := by
  obtain ⟨h1, h2⟩ := stuffs_body ls [] s h
  have hb := sbody_len ls
  unfold unstuff
  rw [if_neg (by rw [List.length_append]; omega)]
  have e : s ++ t = sbody ls ++ 46 :: 13 :: 10 :: t := by rw [h1]; simp
  rw [e, unst_body ls t _ [] h2 (by simp only [List.length_append, List.length_cons]; omega)]
  rfl
theorem unst_tvalid : ∀ (n : Nat) (s : Str) (acc x : List Str) (y : Str), unst n s acc = some (x, y) → (∀ l ∈ acc, tvalid l = true) → ∀ l ∈ x, tvalid l = true := by
  intro n
  induction n with
  | zero => intro s acc x y h; cases h
  | succ n ih =>
    intro s acc x y h ha
    rw [unst] at h
    cases e : cutE s with
    | none => rw [e] at h; cases h
    | some q =>
      obtain ⟨a, b⟩ := q
      rw [e] at h
      simp only at h
      split at h
      · cases h; exact ha
      · split at h
        · rename_i ht
          refine ih b _ x y h ?_
          intro l hl
          rcases List.mem_append.mp hl with hl | hl
          · exact ha l hl
          · rw [List.mem_singleton.mp hl]; exact ht
        · cases h
theorem unst_len : ∀ (n : Nat) (s : Str) (acc x : List Str) (y : Str), unst n s acc = some (x, y) → y.length ≤ s.length ∧ x.length ≤ acc.length + s.length := by
  intro n
  induction n with
  | zero => intro s acc x y h; cases h
  | succ n ih =>
    intro s acc x y h
    rw [unst] at h
    cases e : cutE s with
    | none => rw [e] at h; cases h
    | some q =>
      obtain ⟨a, b⟩ := q
      have hl := cutE_len e
      rw [e] at h
      simp only at h
      split at h
      · cases h; exact ⟨by omega, by omega⟩
      · split at h
        · have := ih b _ x y h
          simp only [List.length_append, List.length_cons, List.length_nil] at this
          exact ⟨by omega, by omega⟩
        · cases h
theorem unstuff_end {ls : List Str} {s : Str} (h : stuffs ls [] = some s) : unstuff (s.take (s.length - 1)) = none := by
  obtain ⟨h1, h2⟩ := stuffs_body ls [] s h
  have e : s.take (s.length - 1) = sbody ls ++ [46, 13] := by
    rw [h1]
    have : ([] ++ sbody ls ++ [46, 13, 10] : Str) = (sbody ls ++ [46, 13]) ++ [10] := by simp
    rw [this, List.length_append, List.length_singleton, Nat.add_sub_cancel]
    exact List.take_left
  have key : ∀ (ls : List Str) (n : Nat) (acc : List Str), (∀ l ∈ ls, tvalid l = true) → unst n (sbody ls ++ [46, 13]) acc = none := by
    intro ls
    induction ls with
    | nil =>
      intro n acc _
      cases n with
      | zero => rfl
      | succ n => rfl
    | cons c r ih =>
      intro n acc h
      cases n with
      | zero => rfl
      | succ n =>
        have hc := h c (by simp)
        have : cutE (stf c ++ 13 :: 10 :: (sbody r ++ [46, 13])) = some (stf c, sbody r ++ [46, 13]) := cutE_free _ _ (stf_no hc 13 (by decide))
        have e : sbody (c :: r) ++ [46, 13] = stf c ++ 13 :: 10 :: (sbody r ++ [46, 13]) := by simp [sbody]
        rw [e, unst, this]
        simp only [if_neg (stf_ne c), undot_stf, if_pos hc]
        exact ih n (acc ++ [c]) (fun l hl => h l (by simp [hl]))
  rw [e]
  unfold unstuff
  split
  · rfl
  · exact key ls _ [] h2
/-- More rounds than letters tell the same. -/
theorem unst_more : ∀ (n m : Nat) (s : Str) (acc : List Str), s.length < n → s.length < m → unst n s acc = unst m s acc := by
  intro n
  induction n with
  | zero => intro m s acc h; omega
  | succ n ih =>
    intro m s acc hn hm
    obtain ⟨m, rfl⟩ : ∃ k, m = k + 1 := ⟨m - 1, by omega⟩
    rw [unst, unst]
    cases e : cutE s with
    | none => rfl
    | some q =>
      obtain ⟨a, b⟩ := q
      have hl := cutE_len e
      simp only
      split
      · rfl
      · split
        · exact ih m b _ (by omega) (by omega)
        · rfl
/-! Cut at the end of a line: the library's words. -/
theorem index_E (s : Str) : Lib.index s [13, 10] = match cutE s with
    | none => -1
    | some (a, _) => (a.length : Int) := by
  induction s with
  | nil => rfl
  | cons c r ih =>
    rw [Lib.index, cutE]
    have hp : ([13, 10] : Str).isPrefixOf (c :: r) = true ↔ (c = 13 ∧ r.head? = some 10) := by
      cases r with
      | nil => simp [List.isPrefixOf]
      | cons d r => simp only [List.isPrefixOf, List.head?_cons, Option.some.injEq, Bool.and_true, Bool.and_eq_true, beq_iff_eq]; constructor <;> (rintro ⟨h1, h2⟩; exact ⟨h1.symm, h2.symm⟩)
    by_cases h : c = 13 ∧ r.head? = some 10
    · rw [if_pos (hp.mpr h), if_pos h]; rfl
    · rw [if_neg (fun hh => h (hp.mp hh)), if_neg h, ih]
      cases e : cutE r with
      | none => rfl
      | some q =>
        obtain ⟨a, b⟩ := q
        simp only [List.length_cons]
        rw [if_neg (by simp)]
        rfl
theorem cut_E (s : Str) : Lib.cut s [13, 10] = match cutE s with
    | none => (s, [], false)
    | some (a, b) => (a, b, true) := by
  unfold Lib.cut
  rw [index_E]
  cases e : cutE s with
  | none => rfl
  | some q =>
    obtain ⟨a, b⟩ := q
    have := cutE_some s a b e
    simp only
    rw [if_pos (by omega)]
    subst this
    simp

theorem strings_Cut_E (s : Str) (h : s.length ≤ 1000000) : strings_Cut.f (ofL s) (⟨#[13, 10]⟩ : ByteArray) = some (match cutE s with
    | none => (ofL s, ofL [], false)
    | some (a, b) => (ofL a, ofL b, true)) := by
  unfold strings_Cut.f
  rw [if_pos (by rw [size_ofL]; omega)]
  have e : Lib.cut (ofL s).data.toList (⟨#[13, 10]⟩ : ByteArray).data.toList = _ := cut_E s
  rw [e]
  cases cutE s with
  | none => rfl
  | some q => rfl
theorem strings_TrimPrefix_dot (a : Str) : strings_TrimPrefix.f (ofL a) (⟨#[46]⟩ : ByteArray) = some (ofL (undot a)) := by
  unfold strings_TrimPrefix.f stringslite_TrimPrefix.f
  simp only [mk_ofL, lit_list]
  rw [stringslite_HasPrefix_eq]
  simp only [Option.bind_some, size_ofL]
  unfold undot
  by_cases h : ([46] : Str).isPrefixOf a = true
  · have hl : 1 ≤ a.length := by
      cases a with
      | nil => simp [List.isPrefixOf] at h
      | cons c a => simp
    rw [if_pos h, if_pos h, if_pos (by simp), if_pos (by simp; omega)]
    simp only [extract_ofL, Option.bind_some, List.length_cons, List.length_nil]
    congr 2
    exact List.take_of_length_le (by simp)
  · rw [if_neg h, if_neg h]; rfl
theorem impl_UnstuffText_loop : ∀ (n : Nat) (s : Str) (acc : List Str), s.length < n → s.length ≤ 2000 → acc.length + s.length ≤ 5000 → Ev (fun k => impl_UnstuffText.l0 k (ofL s) (acc.map ofL)) (ures (unst n s acc)) := by
  intro n
  induction n with
  | zero => intro s acc h; omega
  | succ n ih =>
    intro s acc h h2 h3
    refine ev_succ ?_
    simp only [impl_UnstuffText.l0]
    rw [strings_Cut_E s (by omega), unst]
    cases e : cutE s with
    | none => exact ev_bind0 rfl (ev_neg (by simp) (ev_some _))
    | some q =>
      obtain ⟨a, b⟩ := q
      have hl := cutE_len e
      refine ev_bind0 rfl (ev_pos rfl ?_)
      simp only [toList_ofL]
      by_cases ha : a = [46]
      · rw [if_pos ha]
        exact ev_pos ha (ev_some _)
      · rw [if_neg ha]
        refine ev_neg ha (ev_bind0 (strings_TrimPrefix_dot a) (ev_bind (impl_TextValid_ev _ (by have : (undot a).length ≤ a.length := (by unfold undot; split <;> simp); omega)) ?_))
        by_cases ht : tvalid (undot a) = true
        · rw [if_pos ht]
          have := ih b (acc ++ [undot a]) (by omega) (by omega) (by simp; omega)
          rw [List.map_append] at this
          exact ev_pos ht (ev_pos (by rw [List.length_map]; omega) this)
        · rw [if_neg ht]
          exact ev_neg ht (ev_some _)
theorem impl_UnstuffText_ev (s : Str) (h : s.length ≤ 1000000000000000) : Ev (fun k => impl_UnstuffText.f k (ofL s)) (ures (unstuff s)) := by
  unfold impl_UnstuffText.f unstuff
  rw [size_ofL]
  by_cases hc : s.length > 2000
  · rw [if_pos hc]
    exact ev_pos (by omega) (ev_some _)
  · rw [if_neg hc]
    exact ev_neg (by omega) (impl_UnstuffText_loop (s.length + 1) s [] (by omega) (by omega) (by simp; omega))

theorem spec_l9Line_loop (s : Str) (hs : s.length ≤ 1000000000) (r : Str) : ∀ (p : Str), s = p ++ r → Ev (fun k => spec_l9Line.l0 k (ofL s) (p.length : Int)) (match cutE r with
    | none => (ofL [], (-1 : Int))
    | some (a, _) => (ofL (p ++ a), (p.length : Int) + (a.length : Int) + 2)) := by
  induction r with
  | nil =>
    intro p h
    have hz : s.length = p.length := by rw [h, List.append_nil]
    have w1 : wrap64 ((p.length : Int) + 1) = (p.length : Int) + 1 := wrap_id (by omega) (by omega)
    refine ev_succ ?_
    simp only [spec_l9Line.l0, size_ofL, w1]
    exact ev_neg (by omega) (ev_some _)
  | cons c r ih =>
    intro p h
    have hz := len_mid h
    have w1 : wrap64 ((p.length : Int) + 1) = (p.length : Int) + 1 := wrap_id (by omega) (by omega)
    have w2 : wrap64 ((p.length : Int) + 2) = (p.length : Int) + 2 := wrap_id (by omega) (by omega)
    have e1 : bt (ofL s) (p.length : Int) = (c.toNat : Int) := bt_ofL_mid h
    have hi := ih (p ++ [c]) (by rw [h]; simp)
    rw [len_snoc] at hi
    refine ev_succ ?_
    simp only [spec_l9Line.l0, size_ofL, w1, w2, e1]
    clear w1 w2 e1
    cases r with
    | nil =>
      have hc : cutE [c] = none := by rw [cutE, if_neg (by simp)]; rfl
      rw [hc]
      exact ev_neg (by simp at hz; omega) (ev_some _)
    | cons d t =>
      have e2 : bt (ofL s) ((p.length : Int) + 1) = (d.toNat : Int) := by
        have := bt_ofL_mid (l := s) (p := p ++ [c]) (r := t) (c := d) (by rw [h]; simp)
        rw [len_snoc] at this
        exact this
      rw [e2]
      clear e2
      simp only [List.length_cons] at hz
      refine ev_pos (by omega) (ev_pos (by omega) (ev_pos (by omega) ?_))
      have go : ¬ (c = 13 ∧ (d :: t).head? = some 10) → Ev (fun k => spec_l9Line.l0 k (ofL s) ((p.length : Int) + 1)) (match cutE (c :: d :: t) with
          | none => (ofL [], (-1 : Int))
          | some (a, _) => (ofL (p ++ a), (p.length : Int) + (a.length : Int) + 2)) := by
        intro hn
        refine ev_eq hi ?_
        rw [cutE.eq_2 c, if_neg hn]
        cases cutE (d :: t) with
        | none => rfl
        | some q =>
          obtain ⟨a, b⟩ := q
          simp only [List.append_assoc, List.singleton_append, List.length_cons]
          congr 1
          omega
      by_cases hc : (c.toNat : Int) = 13
      · have hc' : c = 13 := (u8_eq c 13 (by omega)).mp hc
        refine ev_pos hc (ev_pos (by omega) ?_)
        by_cases hd : (d.toNat : Int) = 10
        · have hd' : d = 10 := (u8_eq d 10 (by omega)).mp hd
          refine ev_pos hd (ev_pos (by omega) (ev_eq (ev_some _) ?_))
          rw [cutE, if_pos ⟨hc', by rw [hd']; rfl⟩]
          simp only [extract_ofL, List.append_nil, List.length_nil]
          congr 1
          rw [h]; simp
        · have hd' : ¬ d = 10 := fun hh => hd ((u8_eq d 10 (by omega)).mpr hh)
          exact ev_neg hd (go (fun hh => hd' (by simpa using hh.2)))
      · have hc' : ¬ c = 13 := fun hh => hc ((u8_eq c 13 (by omega)).mpr hh)
        exact ev_neg hc (go (fun hh => hc' hh.1))
theorem spec_l9Line_ev (s : Str) (hs : s.length ≤ 1000000000) : Ev (fun k => spec_l9Line.f k (ofL s)) (match cutE s with
    | none => (ofL [], (-1 : Int))
    | some (a, _) => (ofL a, (a.length : Int) + 2)) := by
  unfold spec_l9Line.f
  refine ev_eq (spec_l9Line_loop s hs s [] rfl) ?_
  cases cutE s with
  | none => rfl
  | some q => obtain ⟨a, b⟩ := q; simp
theorem spec_UnstuffText_loop : ∀ (n : Nat) (s : Str) (acc : List Str), s.length < n → s.length ≤ 2000 → acc.length + s.length ≤ 5000 → Ev (fun k => spec_UnstuffText.l0 k (ofL s) (acc.map ofL)) (ures (unst n s acc)) := by
  intro n
  induction n with
  | zero => intro s acc h; omega
  | succ n ih =>
    intro s acc h h2 h3
    refine ev_succ ?_
    simp only [spec_UnstuffText.l0, size_ofL]
    refine ev_pos (by omega) (ev_bind (spec_l9Line_ev s (by omega)) ?_)
    rw [unst]
    cases e : cutE s with
    | none => exact ev_pos (by simp) (ev_some _)
    | some q =>
      obtain ⟨a, b⟩ := q
      have hl := cutE_len e
      have hs := cutE_some s a b e
      have ex : (ofL s).extract ((a.length : Int) + 2).toNat s.length = ofL b := by
        rw [extract_ofL]
        have e3 : ((a.length : Int) + 2).toNat = a.length + 2 := by omega
        rw [e3]
        congr 1
        have e4 : s = (a ++ [13, 10]) ++ b := by rw [hs]; simp
        rw [e4, List.drop_left' (by simp)]
        exact List.take_of_length_le (by simp; omega)
      simp only [toList_ofL, size_ofL, ex]
      refine ev_neg (by omega) (ev_pos (by omega) (ev_pos (by omega) ?_))
      by_cases ha : a = [46]
      · rw [if_pos ha]
        exact ev_pos ha (ev_some _)
      · rw [if_neg ha]
        refine ev_neg ha ?_
        have done : ∀ c : Str, c = undot a → Ev (fun k => (spec_TextValid.f k (ofL c)).bind fun t => if t = true then (if (acc.map ofL).length < 8796093022208 then spec_UnstuffText.l0 k (ofL b) (acc.map ofL ++ [ofL c]) else none) else some (([] : List ByteArray), (⟨#[]⟩ : ByteArray), false)) (ures (if tvalid (undot a) = true then unst n b (acc ++ [undot a]) else none)) := by
          rintro c rfl
          refine ev_bind (spec_TextValid_ev _ (by have : (undot a).length ≤ a.length := (by unfold undot; split <;> simp); omega)) ?_
          by_cases ht : tvalid (undot a) = true
          · rw [if_pos ht]
            have := ih b (acc ++ [undot a]) (by omega) (by omega) (by simp; omega)
            rw [List.map_append] at this
            exact ev_pos ht (ev_pos (by rw [List.length_map]; omega) this)
          · rw [if_neg ht]
            exact ev_neg ht (ev_some _)
        cases a with
        | nil =>
          refine ev_pos rfl (ev_succ ?_)
          simp only [spec_UnstuffText.j1]
          exact ev_neg (by simp) (done [] rfl)
        | cons c a =>
          simp only [bt_zero]
          refine ev_neg (by simp) (ev_pos (by simp) (ev_succ ?_))
          simp only [spec_UnstuffText.j1, size_ofL, extract_ofL]
          by_cases hc : c = 46
          · subst hc
            refine ev_pos (by simp) (ev_pos (by simp; omega) ?_)
            have e5 : (List.take ((46 :: a).length - 1) (List.drop 1 (46 :: a)) : Str) = a := by simp
            rw [e5]
            exact done a (by simp [undot, List.isPrefixOf])
          · have hc' : ((c.toNat : Int) == 46) = false := by
              rw [beq_eq_false_iff_ne]
              exact fun hh => hc ((u8_eq c 46 (by omega)).mp hh)
            rw [hc']
            exact ev_neg (by simp) (done (c :: a) (by
              unfold undot
              rw [if_neg]
              simp [List.isPrefixOf]
              exact fun hh => hc hh.symm))
theorem spec_UnstuffText_ev (s : Str) (h : s.length ≤ 1000000000000000) : Ev (fun k => spec_UnstuffText.f k (ofL s)) (ures (unstuff s)) := by
  unfold spec_UnstuffText.f unstuff
  by_cases hc : s.length > 2000
  · rw [if_pos hc]
    refine ev_succ ?_
    simp only [spec_UnstuffText.l0, size_ofL]
    exact ev_neg (by omega) (ev_some _)
  · rw [if_neg hc]
    exact spec_UnstuffText_loop (s.length + 1) s [] (by omega) (by omega) (by simp; omega)

theorem impl_stuffed_eq (l : Str) (hl : l.length ≤ 1000000000000000) : impl_stuffed.f (ofL l) = some (ofL (stf l)) := by
  unfold impl_stuffed.f stf
  simp only [mk_ofL, lit_list]
  rw [strings_HasPrefix_eq]
  simp only [Option.bind_some, size_ofL, ofL_append]
  by_cases h : ([46] : Str).isPrefixOf l = true
  · rw [if_pos h, if_pos h, if_pos (by omega)]; rfl
  · rw [if_neg h, if_neg h]

theorem impl_StuffLines_loop (ls : List Str) (hl : ∀ l ∈ ls, l.length ≤ 1000000000000000) (hn : ls.length ≤ 1000000000000000) (r : List Str) : ∀ (p : List Str) (out : Str), ls = p ++ r → out.length ≤ 3000 → Ev (fun k => impl_StuffLines.l0 k (ofL out) (ls.map ofL) (ls.length : Int) (p.length : Int)) (sres (stuffs r out)) := by
  induction r with
  | nil =>
    intro p out h ho
    have hz : ls.length = p.length := by rw [h, List.append_nil]
    refine ev_succ ?_
    simp only [impl_StuffLines.l0, mk_ofL, lit_list, size_ofL, ofL_append, stuffs]
    by_cases h3 : (out ++ [46, 13, 10]).length > 2000
    · rw [if_pos h3]
      refine ev_neg (by omega) (ev_pos (by omega) (ev_pos (by omega) (ev_some _)))
    · rw [if_neg h3]
      refine ev_neg (by omega) (ev_pos (by omega) (ev_neg (by omega) (ev_some _)))
  | cons c r ih =>
    intro p out h ho
    have hz : ls.length = p.length + (r.length + 1) := by rw [h]; simp
    have hc := hl c (by rw [h]; simp)
    have e0 : ls.map ofL = p.map ofL ++ ofL c :: r.map ofL := by rw [h]; simp
    have e1 : rdOf ByteArray.empty (ls.map ofL) (p.length : Int) = ofL c := by
      have := rdOf_mid ByteArray.empty (p.map ofL) (r.map ofL) (ofL c)
      rw [List.length_map] at this
      rw [e0]; exact this
    refine ev_succ ?_
    simp (disch := omega) only [impl_StuffLines.l0, wrap_id, e1, List.length_map]
    refine ev_pos (by omega) (ev_pos (by omega) (ev_pos (by omega) (ev_bind (impl_TextValid_ev c hc) ?_)))
    rw [stuffs]
    by_cases ht : tvalid c = true
    · have htl := tvalid_len ht
      have hsl := stf_len c
      refine ev_pos ht ?_
      by_cases h2 : out.length > 2000
      · rw [if_pos (Or.inr h2)]
        exact ev_pos (by rw [size_ofL]; omega) (ev_some _)
      · rw [if_neg (fun hh => hh.elim (fun h5 => by rw [ht] at h5; cases h5) h2)]
        refine ev_neg (by rw [size_ofL]; omega) (ev_bind0 (impl_stuffed_eq c hc) ?_)
        have := ih (p ++ [c]) (out ++ (stf c ++ [13, 10])) (by rw [h]; simp) (by simp only [List.length_append, List.length_cons, List.length_nil]; omega)
        rw [len_snoc] at this
        simp only [mk_ofL, lit_list, size_ofL, ofL_append]
        exact ev_pos (by omega) (ev_pos (by simp only [List.length_append, List.length_cons, List.length_nil]; omega) this)
    · rw [if_pos (Or.inl (by simpa using ht))]
      exact ev_neg ht (ev_some _)
theorem impl_StuffLines_ev (ls : List Str) (hl : ∀ l ∈ ls, l.length ≤ 1000000000000000) (hn : ls.length ≤ 1000000000000000) : Ev (fun k => impl_StuffLines.f k (ls.map ofL)) (sres (stuffs ls [])) := by
  unfold impl_StuffLines.f
  rw [List.length_map]
  exact impl_StuffLines_loop ls hl hn ls [] [] rfl (by simp)

theorem spec_StuffLines_loop (ls : List Str) (hl : ∀ l ∈ ls, l.length ≤ 1000000000000000) (hn : ls.length ≤ 1000000000000000) (r : List Str) : ∀ (p : List Str) (out : Str), ls = p ++ r → out.length ≤ 3000 → Ev (fun k => spec_StuffLines.l0 k (ls.map ofL) (ofL out) (p.length : Int)) (sres (stuffs r out)) := by
  induction r with
  | nil =>
    intro p out h ho
    have hz : ls.length = p.length := by rw [h, List.append_nil]
    refine ev_succ ?_
    simp only [spec_StuffLines.l0, mk_ofL, lit_list, size_ofL, ofL_append, stuffs, List.length_map]
    by_cases h3 : (out ++ [46, 13, 10]).length > 2000
    · rw [if_pos h3]
      refine ev_neg (by omega) (ev_pos (by omega) (ev_pos (by omega) (ev_some _)))
    · rw [if_neg h3]
      refine ev_neg (by omega) (ev_pos (by omega) (ev_neg (by omega) (ev_some _)))
  | cons c r ih =>
    intro p out h ho
    have hz : ls.length = p.length + (r.length + 1) := by rw [h]; simp
    have hc := hl c (by rw [h]; simp)
    have e0 : ls.map ofL = p.map ofL ++ ofL c :: r.map ofL := by rw [h]; simp
    have e1 : rdOf ByteArray.empty (ls.map ofL) (p.length : Int) = ofL c := by
      have := rdOf_mid ByteArray.empty (p.map ofL) (r.map ofL) (ofL c)
      rw [List.length_map] at this
      rw [e0]; exact this
    refine ev_succ ?_
    simp (disch := omega) only [spec_StuffLines.l0, wrap_id, e1, List.length_map]
    refine ev_pos (by omega) (ev_pos (by omega) (ev_bind (spec_TextValid_ev c hc) ?_))
    rw [stuffs]
    by_cases ht : tvalid c = true
    · have htl := tvalid_len ht
      have hsl := stf_len c
      refine ev_pos ht (ev_succ ?_)
      have w1 : wrap64 ((p.length : Int) + 1) = (p.length : Int) + 1 := wrap_id (by omega) (by omega)
      simp only [spec_StuffLines.j1, w1, e1, List.length_map, mk_ofL, lit_list, size_ofL, ofL_append, toList_ofL]
      by_cases h2 : out.length > 2000
      · rw [if_pos (Or.inr h2)]
        exact ev_pos (decide_eq_true (by omega)) (ev_some _)
      · rw [if_neg (fun hh => hh.elim (fun h5 => by rw [ht] at h5; cases h5) h2)]
        have := ih (p ++ [c]) (out ++ (stf c ++ [13, 10])) (by rw [h]; simp) (by simp only [List.length_append, List.length_cons, List.length_nil]; omega)
        rw [len_snoc] at this
        refine ev_neg (by rw [decide_eq_true_iff]; omega) (ev_pos (by omega) (ev_pos (by omega) ?_))
        cases c with
        | nil =>
          refine ev_pos rfl (ev_pos (by simp; omega) (ev_pos (by simp; omega) ?_))
          have e5 : out ++ [] ++ [13, 10] = out ++ (stf [] ++ [13, 10]) := by rw [List.append_nil]; rfl
          rw [e5]
          exact this
        | cons d c =>
          simp only [bt_zero]
          refine ev_neg (by simp) (ev_pos (by simp) ?_)
          by_cases hd : (d.toNat : Int) = 46
          · have hd' : d = 46 := (u8_eq d 46 (by omega)).mp hd
            have e5 : stf (d :: c) = 46 :: d :: c := by rw [hd']; unfold stf; simp [List.isPrefixOf]
            have e6 : out ++ [46] ++ (d :: c) ++ [13, 10] = out ++ (46 :: d :: c ++ [13, 10]) := by simp
            rw [e6, e5]
            rw [e5] at this
            refine ev_pos hd (ev_pos (by omega) (ev_pos (by simp at htl ⊢; omega) (ev_pos (by simp at htl ⊢; omega) this)))
          · have hd' : ¬ d = 46 := fun hh => hd ((u8_eq d 46 (by omega)).mpr hh)
            have e5 : stf (d :: c) = d :: c := by
              unfold stf
              rw [if_neg]
              simp [List.isPrefixOf]
              exact fun hh => hd' hh.symm
            have e6 : out ++ (d :: c) ++ [13, 10] = out ++ (d :: c ++ [13, 10]) := by simp
            rw [e6, e5]
            rw [e5] at this
            refine ev_neg hd (ev_pos (by omega) (ev_pos (by simp at htl ⊢; omega) this))
    · rw [if_pos (Or.inl (by simpa using ht))]
      refine ev_neg ht (ev_succ ?_)
      simp only [spec_StuffLines.j1]
      exact ev_pos trivial (ev_some _)
theorem spec_StuffLines_ev (ls : List Str) (hl : ∀ l ∈ ls, l.length ≤ 1000000000000000) (hn : ls.length ≤ 1000000000000000) : Ev (fun k => spec_StuffLines.f k (ls.map ofL)) (sres (stuffs ls [])) := by
  unfold spec_StuffLines.f
  exact spec_StuffLines_loop ls hl hn ls [] [] rfl (by simp)

theorem l9Lines_loopq (l : List Int) (hl : IsB l) (n : Nat) : ∀ (s : List Str) (p : Int), 0 ≤ p → p + n ≤ 1000000000 → s.length + n ≤ 1000000000 → (∀ x ∈ s, x.length ≤ 100) →
    ∃ (t : List Str) (q : Int), Ev (fun k => spec_l9Lines.l0 k (s.map ofL) (n : Int) l p) (t.map ofL, q) ∧ t.length ≤ s.length + n ∧ (∀ x ∈ t, x.length ≤ 100) ∧ 0 ≤ q ∧ q ≤ p + n := by
  induction n with
  | zero =>
    intro s p h0 h1 h2 h3
    refine ⟨s, p, ev_succ ?_, by omega, h3, by omega, by omega⟩
    simp only [spec_l9Lines.l0]
    repeat (first | refine ev_pos (by first | assumption | omega | decide) ?_ | refine ev_neg (by first | assumption | omega | decide) ?_)
    exact ev_some _
  | succ n ih =>
    intro s p h0 h1 h2 h3
    obtain ⟨v, hv, hm⟩ := of_ev l p [(⟨#[97]⟩ : ByteArray), (⟨#[]⟩ : ByteArray), (⟨#[46]⟩ : ByteArray), (⟨#[46, 46]⟩ : ByteArray), (⟨#[46, 97]⟩ : ByteArray), (⟨#[116, 101, 120, 116, 32, 111, 102, 32, 97, 32, 108, 105, 110, 101]⟩ : ByteArray), (⟨#[9]⟩ : ByteArray)] hl h0 (by omega) (by simp) (by simp)
    have hsz : (L v).length ≤ 100 := by
      simp only [List.mem_cons, List.not_mem_nil, or_false] at hm
      rcases hm with rfl | rfl | rfl | rfl | rfl | rfl | rfl <;> decide
    obtain ⟨t, q, ht, hq, hx, hq0, hq1⟩ := ih (s ++ [L v]) (p + 1) (by omega) (by omega) (by simp; omega) (fun x hx => by
      rcases List.mem_append.mp hx with h | h
      · exact h3 x h
      · rw [List.mem_singleton.mp h]; exact hsz)
    simp only [List.length_append, List.length_cons, List.length_nil] at hq
    refine ⟨t, q, ev_succ ?_, by omega, hx, hq0, by omega⟩
    have e : (((n + 1 : Nat) : Int) - 1) = (n : Int) := by omega
    simp (disch := omega) only [spec_l9Lines.l0, wrap_id, e]
    refine ev_pos (by omega) (ev_bind hv ?_)
    rw [List.map_append] at ht
    exact ev_pos (by rw [List.length_map]; omega) ht
theorem l9Lines_evq (l : List Int) (hl : IsB l) : ∃ (t : List Str) (q : Int), Ev (fun k => spec_l9Lines.f k l 0) (t.map ofL, q) ∧ t.length ≤ 5 ∧ (∀ x ∈ t, x.length ≤ 100) ∧ 0 ≤ q ∧ q ≤ 10 := by
  obtain ⟨n, hn, hm⟩ := num_ev l 0 [2, 3, 1, 0, 5] hl (by omega) (by omega) (by simp) (by simp)
  have : ∃ m : Nat, n = (m : Int) ∧ m ≤ 5 := by
    simp only [List.mem_cons, List.not_mem_nil, or_false] at hm
    rcases hm with rfl | rfl | rfl | rfl | rfl
    · exact ⟨2, rfl, by omega⟩
    · exact ⟨3, rfl, by omega⟩
    · exact ⟨1, rfl, by omega⟩
    · exact ⟨0, rfl, by omega⟩
    · exact ⟨5, rfl, by omega⟩
  obtain ⟨m, rfl, hm⟩ := this
  obtain ⟨t, q, ht, hq, hx, hq0, hq1⟩ := l9Lines_loopq l hl m [] (0 + 1) (by omega) (by omega) (by simp; omega) (by simp)
  simp only [List.length_nil] at hq
  refine ⟨t, q, ?_, by omega, hx, hq0, by omega⟩
  unfold spec_l9Lines.f
  exact ev_bind hn ht

/-- How many bytes are sent. -/
def ssize : List Str → Nat
  | [] => 3
  | l :: r => (stf l).length + 2 + ssize r
theorem stuffs_some (ls : List Str) : ∀ (out s : Str), stuffs ls out = some s → s.length = out.length + ssize ls ∧ s.length ≤ 2000 ∧ ∃ t, s = t ++ [46, 13, 10] := by
  induction ls with
  | nil =>
    intro out s h
    rw [stuffs] at h
    split at h
    · cases h
    · rename_i hlt
      cases h
      refine ⟨by rw [List.length_append]; rfl, by omega, out, rfl⟩
  | cons c r ih =>
    intro out s h
    rw [stuffs] at h
    split at h
    · cases h
    · obtain ⟨h1, h2, h3⟩ := ih _ _ h
      simp only [ssize, List.length_append, List.length_cons, List.length_nil] at *
      exact ⟨by omega, h2, h3⟩
theorem stf_size (l : Str) : (stf l).length = l.length + (if ([46] : Str).isPrefixOf l = true then 1 else 0) := by
  unfold stf; split <;> simp

theorem l1Bend_ev (l : List Int) (p : Int) (s : Str) (ws : List ByteArray) (hl : IsB l) (h0 : 0 ≤ p) (h1 : p ≤ 900000000) (hs : s.length ≤ 900000000) (hw : 1 ≤ ws.length) (hw2 : ws.length ≤ 1000000) (hx : ∀ x ∈ ws, (L x).length ≤ 1000) :
    ∃ (t : Str) (q : Int), Ev (fun k => spec_l1Bend.f k l p (ofL s) ws) (ofL t, q) ∧ t.length ≤ s.length + 1000 ∧ p ≤ q ∧ q ≤ p + 4 := by
  have key : ∀ (q : Int), p ≤ q → q ≤ p + 1 → 1 ≤ s.length → ∃ (t : Str) (q' : Int), Ev (fun k => spec_l1Bend.j0 k (ofL s) ws false l q) (ofL t, q') ∧ t.length ≤ s.length + 1000 ∧ p ≤ q' ∧ q' ≤ p + 4 := by
    intro q hq1 hq2 hs1
    obtain ⟨v, hv, v0, v1⟩ := pick_ev l q s.length hl (by omega) (by omega) (by omega) (by omega)
    obtain ⟨w, hw', hm⟩ := of_ev l (q + 1) ws hl (by omega) (by omega) hw hw2
    obtain ⟨u, hu, u0, u1⟩ := pick_ev l (q + 1 + 1) 2 hl (by omega) (by omega) (by omega) (by omega)
    have hwl := hx w hm
    obtain ⟨a, rfl⟩ : ∃ a, w = ofL a := ⟨L w, (ofL_L w).symm⟩
    rw [L_ofL] at hwl
    have w1 : wrap64 (v + u) = v + u := wrap_id (by omega) (by omega)
    have l1 : (List.take (v.toNat - 0) (List.drop 0 s)).length ≤ s.length := by simp; omega
    have l2 : (List.take (s.length - (v + u).toNat) (List.drop (v + u).toNat s)).length + v.toNat ≤ s.length := by simp; omega
    have l3 : (List.take (v.toNat - 0) (List.drop 0 s)).length ≤ v.toNat := by simp; omega
    refine ⟨List.take (v.toNat - 0) (List.drop 0 s) ++ a ++ List.take (s.length - (v + u).toNat) (List.drop (v + u).toNat s), q + 1 + 1 + 1, ev_succ ?_, ?_, by omega, by omega⟩
    · simp only [spec_l1Bend.j0, size_ofL]
      refine ev_neg (by simp) (ev_bind hv ?_)
      simp only [extract_ofL, size_ofL]
      refine ev_pos v0 (ev_pos (by omega) (ev_bind hw' ?_))
      simp only [ofL_append, size_ofL]
      refine ev_pos (by omega) (ev_bind hu ?_)
      simp only [w1, ofL_append, size_ofL]
      clear w1
      exact ev_pos (by omega) (ev_pos (by omega) (ev_pos (by rw [List.length_append]; omega) (ev_some _)))
    · rw [List.length_append, List.length_append]; omega
  have stay : ∀ (q : Int), p ≤ q → q ≤ p + 1 → ∃ (t : Str) (q' : Int), Ev (fun k => spec_l1Bend.j0 k (ofL s) ws true l q) (ofL t, q') ∧ t.length ≤ s.length + 1000 ∧ p ≤ q' ∧ q' ≤ p + 4 := by
    intro q hq1 hq2
    refine ⟨s, q, ev_succ ?_, by omega, by omega, by omega⟩
    simp only [spec_l1Bend.j0]
    exact ev_pos trivial (ev_some _)
  unfold spec_l1Bend.f
  by_cases hz : ((ofL s).size : Int) = 0
  · obtain ⟨t, q, ht, h2⟩ := stay p (by omega) (by omega)
    exact ⟨t, q, ev_pos hz ht, h2⟩
  · have hz2 : 1 ≤ s.length := by rw [size_ofL] at hz; omega
    obtain ⟨v, hv, v0, v1⟩ := pick_ev l p 2 hl h0 (by omega) (by omega) (by omega)
    by_cases hb : v = 0
    · obtain ⟨t, q, ht, h2⟩ := stay (p + 1) (by omega) (by omega)
      refine ⟨t, q, ev_neg hz (ev_bind hv ?_), h2⟩
      rw [hb]; exact ht
    · obtain ⟨t, q, ht, h2⟩ := key (p + 1) (by omega) (by omega) hz2
      refine ⟨t, q, ev_neg hz (ev_bind hv ?_), h2⟩
      have : (v == 0) = false := by simpa using hb
      rw [this]; exact ht

theorem laws_mwTexts_ev (a b : List Str) (hn : a.length ≤ 1000000000000000) : Ev (fun k => laws_mwTexts.f k (a.map ofL) (b.map ofL)) (decide (a = b)) := by
  unfold laws_mwTexts.f
  simp only [List.length_map]
  by_cases hl : a.length = b.length
  · refine ev_pos (by omega) ?_
    refine ev_eq (run_start (xs := a) (F := fun k (_ : List Str) i => laws_mwTexts.l0 k (a.map ofL) (b.map ofL) i) (st := fun r c => match r with
      | [] => .inl false
      | d :: r => if c = d then .inr r else .inl false) (fin := fun _ => true) (s := b) (fun p r => ∃ q, b = q ++ r ∧ q.length = p.length) ⟨[], rfl, rfl⟩ ?_ ?_) ?_
    · rintro p c r s h ⟨q, hq, hql⟩
      have hz := len_mid h
      have e1 := rdOf_ofL h
      have w1 : wrap64 ((p.length : Int) + 1) = (p.length : Int) + 1 := wrap_id (by omega) (by omega)
      cases s with
      | nil => rw [hq] at hl; simp at hl; omega
      | cons d s =>
        have e2 := rdOf_ofL hq
        rw [hql] at e2
        simp only [laws_mwTexts.l0, e1, e2, w1, List.length_map, toList_ofL]
        clear w1 e1 e2
        by_cases e : c = d
        · simp only [if_pos e]
          refine ⟨(fun v hv => by cases hv), fun s' hs => ⟨?_, fun v hv => ?_⟩⟩
          · cases hs; exact ⟨q ++ [d], by rw [hq]; simp, by simp [hql]⟩
          · exact ev_pos (by omega) (ev_pos (by omega) (ev_pos (by omega) hv))
        · simp only [if_neg e]
          refine ⟨(fun v hv => ?_), fun s' hs => by cases hs⟩
          cases hv
          exact ev_pos (by omega) (ev_pos (by omega) (ev_pos (by omega) (ev_some _)))
    · intro s _
      simp only [laws_mwTexts.l0, List.length_map]
      exact ev_neg (by omega) (ev_some _)
    · clear hn
      induction a generalizing b with
      | nil => cases b with
        | nil => rfl
        | cons d b => simp at hl
      | cons c a ih => cases b with
        | nil => simp at hl
        | cons d b =>
          unfold run
          by_cases e : c = d
          · simp only [if_pos e]; rw [ih b (by simpa using hl)]; simp [e]
          · simp only [if_neg e]; simp [e]
  · refine ev_neg (by omega) (ev_eq (ev_some _) ?_)
    rw [eq_comm]; exact decide_eq_false (fun h => hl (by rw [h]))

theorem DrawUnstuffText_ev (l : List Int) (h : ∀ x ∈ l, (Lit.int .u8 x).wf = true) : ∃ s : Str, Ev (fun k => spec_DrawUnstuffText.f k l) (ofL s) ∧ s.length ≤ 10000 := by
  obtain ⟨l', ho, hb⟩ := open_ev l h
  obtain ⟨t, q, ht, hq, hx, hq0, hq1⟩ := l9Lines_evq l' hb
  have i2 := spec_StuffLines_ev t (fun x hx' => by have := hx x hx'; omega) (by omega)
  obtain ⟨s, b, hs, hsl⟩ : ∃ (s : Str) (b : Bool), sres (stuffs t []) = (ofL s, b) ∧ s.length ≤ 2000 := by
    cases e : stuffs t [] with
    | none => exact ⟨[], false, rfl, by simp⟩
    | some s => exact ⟨s, true, rfl, (stuffs_some t [] s e).2.1⟩
  rw [hs] at i2
  obtain ⟨v, hv, hm⟩ := of_ev l' q [(⟨#[]⟩ : ByteArray), (⟨#[81, 85, 73, 84, 13, 10]⟩ : ByteArray), (⟨#[46]⟩ : ByteArray), (⟨#[13, 10]⟩ : ByteArray)] hb hq0 (by omega) (by simp) (by simp)
  have hvl : (L v).length ≤ 100 := by
    simp only [List.mem_cons, List.not_mem_nil, or_false] at hm
    rcases hm with rfl | rfl | rfl | rfl <;> decide
  obtain ⟨a, rfl⟩ : ∃ a, v = ofL a := ⟨L v, (ofL_L v).symm⟩
  rw [L_ofL] at hvl
  obtain ⟨u, q2, hu, hul, _⟩ := l1Bend_ev l' (q + 1) (s ++ a) [(⟨#[]⟩ : ByteArray), (⟨#[46]⟩ : ByteArray), (⟨#[13, 10]⟩ : ByteArray), (⟨#[10]⟩ : ByteArray), (⟨#[120]⟩ : ByteArray)] hb (by omega) (by omega) (by rw [List.length_append]; omega) (by simp) (by simp) (by
    intro x hx
    simp only [List.mem_cons, List.not_mem_nil, or_false] at hx
    rcases hx with rfl | rfl | rfl | rfl | rfl <;> decide)
  rw [List.length_append] at hul
  refine ⟨u, ?_, by omega⟩
  unfold spec_DrawUnstuffText.f
  refine ev_bind0 ho (ev_bind ht (ev_bind i2 (ev_bind hv ?_)))
  simp only [size_ofL, ofL_append]
  exact ev_pos (by omega) (ev_bind hu (ev_some _))
theorem unstuff_len {s : Str} {x : List Str} {y : Str} (h : unstuff s = some (x, y)) : x.length ≤ 2000 ∧ y.length ≤ 2000 ∧ s.length ≤ 2000 := by
  unfold unstuff at h
  split at h
  · cases h
  · have := unst_len _ _ _ _ _ h
    simp only [List.length_nil] at this
    omega
theorem FnUnstuffText : laws_FnUnstuffText.Pure := by
  intro l hlen hlen2 h
  apply ev_rounds
  unfold laws_FnUnstuffText.f
  by_cases hc : (l.length : Int) > 1048576
  · exact ev_pos hc (ev_some _)
  · obtain ⟨s, hd, hsl⟩ := DrawUnstuffText_ev l h
    have i1 := impl_UnstuffText_ev s (by omega)
    have i2 := spec_UnstuffText_ev s (by omega)
    cases e : unstuff s with
    | none =>
      rw [e] at i1 i2
      have hm := laws_mwTexts_ev [] [] (by simp)
      refine ev_neg hc (ev_bind hd (ev_bind i1 (ev_bind i2 (ev_bind hm (ev_pos (decide_eq_true rfl) (ev_pos rfl (ev_neg (by simp) (ev_succ ?_))))))))
      simp only [laws_FnUnstuffText.j0]
      exact ev_pos rfl (ev_bind hm (ev_pos (decide_eq_true rfl) (ev_pos trivial (ev_eq (ev_some _) (by simp)))))
    | some q =>
      obtain ⟨x, y⟩ := q
      rw [e] at i1 i2
      have hl := unstuff_len e
      have hm := laws_mwTexts_ev x x (by omega)
      refine ev_neg hc (ev_bind hd (ev_bind i1 (ev_bind i2 (ev_bind hm (ev_pos (decide_eq_true rfl) (ev_pos rfl (ev_neg (by simp) (ev_succ ?_))))))))
      simp only [laws_FnUnstuffText.j0]
      have htv : ∀ l ∈ x, tvalid l = true := by
        unfold unstuff at e
        split at e
        · cases e
        · exact unst_tvalid _ _ _ _ _ e (by simp)
      have i3 := impl_StuffLines_ev x (fun z hz => by have := tvalid_len (htv z hz); omega) (by omega)
      refine ev_neg (by simp [ures]) (ev_bind i3 ?_)
      cases e2 : stuffs x [] with
      | none =>
        have hu := impl_UnstuffText_ev ([] ++ y) (by simp; omega)
        simp only [sres, ures, size_ofL, ofL_append]
        exact ev_pos (by simp; omega) (ev_bind hu (ev_neg (by simp) (ev_some _)))
      | some t =>
        have ht := (stuffs_some x [] t e2).2.1
        have hu := impl_UnstuffText_ev (t ++ y) (by simp; omega)
        simp only [sres, ures, size_ofL, ofL_append, toList_ofL]
        refine ev_pos (by omega) (ev_bind hu (ev_pos trivial ?_))
        by_cases hb : ((t ++ y).length : Int) > 2000
        · exact ev_pos hb (ev_some _)
        · rw [List.length_append] at hb
          rw [unstuff_stuffs e2 y (by omega)]
          exact ev_neg (by rw [List.length_append]; omega) (ev_pos rfl (ev_bind hm (ev_pos (decide_eq_true rfl) (ev_eq (ev_some _) (by simp [ures, toList_ofL])))))

end Go.Proofs.Ythlgdfjckhjiaaa.Pure
