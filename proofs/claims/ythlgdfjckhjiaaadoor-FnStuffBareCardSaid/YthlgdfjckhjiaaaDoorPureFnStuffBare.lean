/- Proved here: the pure form of the law FnStuffBare (one way is used) returns true for all arguments; conditions: none beyond those that the printed statement bears. -/
import Derived.Test.YthlgdfjckhjiaaaDoorPFnStuffBarex3
import Derived.Test.YthlgdfjckhjiaaaDoorZb
namespace Go.Proofs.YthlgdfjckhjiaaaDoor.Pure
open Go.RowKit Go.Proofs.YthlgdfjckhjiaaaDoor.X Go.Proofs.YthlgdfjckhjiaaaDoor.PFnStuffBare Go.Proofs.YthlgdfjckhjiaaaDoorW.PrintWords Go.Proofs.YthlgdfjckhjiaaaDoorW.PrintLast Go.Proofs.YthlgdfjckhjiaaaDoor.Z
set_option linter.unusedVariables false
set_option linter.unusedSimpArgs false

/-! The reader of draws. -/
theorem xor_nonneg (a b : Nat) (ha : a < 9223372036854775808) (hb : b < 9223372036854775808) : Go.bits .xor .i64 (a : Int) (b : Int) = ((a ^^^ b : Nat) : Int) := by
  have hx : a ^^^ b < 2 ^ 63 := Nat.xor_lt_two_pow (by omega) (by omega)
  have h1 : (BitVec.ofInt 64 (a : Int)).toNat = a := by
    rw [BitVec.ofInt_natCast, BitVec.toNat_ofNat]; exact Nat.mod_eq_of_lt (by omega)
  have h2 : (BitVec.ofInt 64 (b : Int)).toNat = b := by
    rw [BitVec.ofInt_natCast, BitVec.toNat_ofNat]; exact Nat.mod_eq_of_lt (by omega)
  show IntKind.i64.wrap ((BitVec.ofInt 64 (a : Int) ^^^ BitVec.ofInt 64 (b : Int)).toNat : Int) = _
  rw [BitVec.toNat_xor, h1, h2]
  rw [i64_w]
  exact wrap_id (by omega) (by omega)
theorem tmod_in {a b : Int} (ha : 0 ≤ a) (hb : 1 ≤ b) : 0 ≤ Int.tmod a b ∧ Int.tmod a b < b := by
  rw [Int.tmod_eq_emod_of_nonneg ha]
  exact ⟨Int.emod_nonneg _ (by omega), Int.emod_lt_of_pos _ (by omega)⟩
/-- What is known of the bytes that are drawn from. -/
def IsB (l : List Int) : Prop := l.length ≤ 2000 ∧ ∀ x ∈ l, 0 ≤ x ∧ x ≤ 255
theorem rd_in {l : List Int} (h : IsB l) (i : Int) : 0 ≤ rd l i ∧ rd l i ≤ 255 := by
  unfold rd
  rw [List.getD_eq_getElem?_getD]
  cases e : l[i.toNat]? with
  | none => simp
  | some x => exact h.2 x (List.mem_of_getElem? e)
theorem pick_ev (l : List Int) (p n : Int) (hl : IsB l) (h0 : 0 ≤ p) (h1 : p ≤ 1000000000) (hn : 1 ≤ n) (hn2 : n ≤ 1000000000) :
    ∃ v, Ev (fun k => spec_l13Rd_pick.f k l p n) (v, p + 1) ∧ 0 ≤ v ∧ v < n := by
  have hw : wrap64 (p + 1) = p + 1 := wrap_id (by omega) (by omega)
  have hw2 : wrap64 (p + 1 - 1) = p := by rw [wrap_id (by omega) (by omega)]; omega
  have hlen := hl.1
  unfold spec_l13Rd_pick.f
  rw [hw]
  by_cases he : (l.length : Int) = 0
  · refine ⟨0, ev_neg (by omega) (ev_succ ?_), by omega, by omega⟩
    simp only [spec_l13Rd_pick.j0]
    refine ev_pos ?_ (ev_some _)
    rw [he]; rfl
  have hb : ((l.length : Int) == 0) = false := by simp at he ⊢; exact he
  rw [hb]
  by_cases hlt : p < (l.length : Int)
  · have hv := tmod_in (rd_in hl p).1 hn
    have hr : wrap64 (rd l p) = rd l p := by have := rd_in hl p; exact wrap_id (by omega) (by omega)
    refine ⟨Int.tmod (rd l p) n, ev_neg (by omega) (ev_succ ?_), hv.1, hv.2⟩
    simp only [spec_l13Rd_pick.j0, hw2, hr]
    exact ev_neg (by simp) (ev_pos hlt (ev_pos h0 (ev_neg (by omega) (ev_some _))))
  · have hq := tmod_in h0 (b := (l.length : Int)) (by omega)
    have hm : wrap64 (wrap64 (p * 7) + 3) = p * 7 + 3 := by rw [wrap_id (x := p * 7) (by omega) (by omega), wrap_id (by omega) (by omega)]
    have hq2 := tmod_in (a := p * 7 + 3) (by omega) (b := (l.length : Int)) (by omega)
    have r1 := rd_in hl (Int.tmod p l.length)
    have r2 := rd_in hl (Int.tmod (p * 7 + 3) l.length)
    generalize hA : rd l (Int.tmod p l.length) = A at r1
    generalize hB : rd l (Int.tmod (p * 7 + 3) l.length) = B at r2
    have hd : 0 ≤ Int.tdiv p l.length ∧ Int.tdiv p l.length ≤ p := by
      rw [Int.tdiv_eq_ediv_of_nonneg h0]
      refine ⟨Int.ediv_nonneg h0 (by omega), Int.ediv_le_self _ h0⟩
    generalize hD : Int.tdiv p l.length = D at hd
    have w1 : wrap64 A = A := wrap_id (by omega) (by omega)
    have w2 : wrap64 B = B := wrap_id (by omega) (by omega)
    have w3 : wrap64 (A * 131) = A * 131 := wrap_id (by omega) (by omega)
    have w4 : wrap64 (B * 1117) = B * 1117 := wrap_id (by omega) (by omega)
    have w5 : wrap64 (A * 131 + B * 1117) = A * 131 + B * 1117 := wrap_id (by omega) (by omega)
    have w6 : wrap64 (p * 29) = p * 29 := wrap_id (by omega) (by omega)
    have w7 : wrap64 (A * 131 + B * 1117 + p * 29) = A * 131 + B * 1117 + p * 29 := wrap_id (by omega) (by omega)
    have w8 : wrap64 D = D := wrap_id (by omega) (by omega)
    have w9 : wrap64 (D * 53) = D * 53 := wrap_id (by omega) (by omega)
    have w10 : wrap64 (A * 131 + B * 1117 + p * 29 + D * 53) = A * 131 + B * 1117 + p * 29 + D * 53 := wrap_id (by omega) (by omega)
    have hX : 0 ≤ A * 131 + B * 1117 + p * 29 + D * 53 ∧ A * 131 + B * 1117 + p * 29 + D * 53 < 9223372036854775808 := by omega
    generalize hXX : A * 131 + B * 1117 + p * 29 + D * 53 = X at hX w10
    have hX2 : 0 ≤ Int.tdiv X 64 ∧ Int.tdiv X 64 ≤ X := by
      rw [Int.tdiv_eq_ediv_of_nonneg hX.1]
      refine ⟨Int.ediv_nonneg hX.1 (by omega), Int.ediv_le_self _ hX.1⟩
    have w11 : wrap64 (Int.tdiv X 64) = Int.tdiv X 64 := wrap_id (by omega) (by omega)
    have hxor : 0 ≤ Go.bits .xor .i64 X (Int.tdiv X 64) := by
      obtain ⟨a, ha⟩ := Int.eq_ofNat_of_zero_le hX.1
      obtain ⟨b, hb⟩ := Int.eq_ofNat_of_zero_le hX2.1
      rw [hb, ha, xor_nonneg _ _ (by omega) (by omega)]
      omega
    have hv := tmod_in hxor hn
    refine ⟨Int.tmod (Go.bits .xor .i64 X (Int.tdiv X 64)) n, ev_neg (by omega) (ev_succ ?_), hv.1, hv.2⟩
    simp only [spec_l13Rd_pick.j0, hw2, hm, hA, hB, hD, w1, w2, w3, w4, w5, w6, w7, w8, w9, hXX, w10, w11]
    exact ev_neg (by simp) (ev_neg hlt (ev_neg he (ev_pos hq.1 (ev_pos hq.2 (ev_pos hq2.1 (ev_pos hq2.2 (ev_neg (by omega) (ev_some _))))))))
theorem isB_take {l : List Int} (h : ∀ x ∈ l, (Lit.int .u8 x).wf = true) (n : Nat) (hn : (l.take n).length ≤ 2000) : IsB (l.take n) := by
  refine ⟨hn, fun x hx => ?_⟩
  have := h x (List.mem_of_mem_take hx)
  simp [Lit.wf, IntKind.min, IntKind.max, IntKind.bits, IntKind.signed] at this
  omega
theorem of_ev (l : List Int) (p : Int) (ws : List ByteArray) (hl : IsB l) (h0 : 0 ≤ p) (h1 : p ≤ 1000000000) (hn : 1 ≤ ws.length) (hn2 : ws.length ≤ 1000000) :
    ∃ v, Ev (fun k => spec_l13Rd_of.f k l p ws) (v, p + 1) ∧ v ∈ ws := by
  obtain ⟨i, hi, i0, i1⟩ := pick_ev l p ws.length hl h0 h1 (by omega) (by omega)
  have hlt : i.toNat < ws.length := by omega
  refine ⟨rdOf ByteArray.empty ws i, ?_, ?_⟩
  · unfold spec_l13Rd_of.f
    exact ev_bind hi (ev_pos i0 (ev_pos i1 (ev_some _)))
  · unfold rdOf
    rw [List.getD_eq_getElem?_getD, List.getElem?_eq_getElem hlt]
    exact List.getElem_mem hlt
theorem num_ev (l : List Int) (p : Int) (ws : List Int) (hl : IsB l) (h0 : 0 ≤ p) (h1 : p ≤ 1000000000) (hn : 1 ≤ ws.length) (hn2 : ws.length ≤ 1000000) :
    ∃ v, Ev (fun k => spec_l13Rd_num.f k l p ws) (v, p + 1) ∧ v ∈ ws := by
  obtain ⟨i, hi, i0, i1⟩ := pick_ev l p ws.length hl h0 h1 (by omega) (by omega)
  have hlt : i.toNat < ws.length := by omega
  refine ⟨rd ws i, ?_, ?_⟩
  · unfold spec_l13Rd_num.f
    exact ev_bind hi (ev_pos i0 (ev_pos i1 (ev_some _)))
  · unfold rd
    rw [List.getD_eq_getElem?_getD, List.getElem?_eq_getElem hlt]
    exact List.getElem_mem hlt
theorem open_ev (l : List Int) (h : ∀ x ∈ l, (Lit.int .u8 x).wf = true) : ∃ l', spec_l13Open.f l = some (l', 0) ∧ IsB l' := by
  unfold spec_l13Open.f
  by_cases hc : (l.length : Int) > 2000
  · refine ⟨l.take 2000, ?_, isB_take h 2000 (by rw [List.length_take]; omega)⟩
    rw [if_pos hc, if_pos (by omega)]
  · refine ⟨l, by rw [if_neg hc], ?_⟩
    have := isB_take h l.length (by rw [List.take_length]; omega)
    rwa [List.take_length] at this

/-! Texts: the model. -/
def okB (c : UInt8) : Bool := 32 ≤ c && c ≤ 126
def tvalid (l : Str) : Bool := l.all okB && decide (l.length ≤ 200)
theorem okB_lo (c : UInt8) (h : (c.toNat : Int) < 32) : okB c = false := by
  have : c < 32 := (u8_lt c 32 (by omega)).mp h
  unfold okB
  simp [UInt8.le_iff_toNat_le, UInt8.lt_iff_toNat_lt] at this ⊢
  omega
theorem okB_hi (c : UInt8) (h : (c.toNat : Int) > 126) : okB c = false := by
  unfold okB
  simp [UInt8.le_iff_toNat_le, UInt8.lt_iff_toNat_lt]
  omega
theorem okB_mid (c : UInt8) (h : ¬ (c.toNat : Int) < 32) (h2 : ¬ (c.toNat : Int) > 126) : okB c = true := by
  unfold okB
  simp [UInt8.le_iff_toNat_le, UInt8.lt_iff_toNat_lt]
  omega
theorem tvalid_len {l : Str} (h : tvalid l = true) : l.length ≤ 200 := by
  unfold tvalid at h; simp at h; exact h.2

theorem impl_TextValid_loop (l : Str) (hl : l.length ≤ 1000000000000000) (r : Str) : ∀ (p : Str), l = p ++ r → Ev (fun k => impl_TextValid.l0 k (ofL l) (l.length : Int) (p.length : Int)) (r.all okB && decide (l.length ≤ 200)) := by
  induction r with
  | nil =>
    intro p h
    have hz : l.length = p.length := by rw [h, List.append_nil]
    refine ev_succ ?_
    simp only [impl_TextValid.l0, size_ofL]
    repeat (first | refine ev_pos (by first | assumption | omega | decide) ?_ | refine ev_neg (by first | assumption | omega | decide) ?_)
    exact ev_eq (ev_some _) (by simp; omega)
  | cons c r ih =>
    intro p h
    have hz : l.length = p.length + (r.length + 1) := by rw [h]; simp
    have e1 : bt (ofL l) (p.length : Int) = (c.toNat : Int) := by rw [h]; exact bt_mid p r c
    have := ih (p ++ [c]) (by rw [h]; simp)
    rw [len_snoc] at this
    refine ev_succ ?_
    simp (disch := omega) only [impl_TextValid.l0, size_ofL, e1, wrap_id]
    by_cases h1 : (c.toNat : Int) < 32
    · repeat (first | refine ev_pos (by first | assumption | omega | decide) ?_ | refine ev_neg (by first | assumption | omega | decide) ?_)
      exact ev_eq (ev_some _) (by simp [okB_lo c h1])
    · by_cases h2 : (c.toNat : Int) > 126
      · repeat (first | refine ev_pos (by first | assumption | omega | decide) ?_ | refine ev_neg (by first | assumption | omega | decide) ?_)
        exact ev_eq (ev_some _) (by simp [okB_hi c h2])
      · repeat (first | refine ev_pos (by first | assumption | omega | decide) ?_ | refine ev_neg (by first | assumption | omega | decide) ?_)
        exact ev_eq this (by simp [okB_mid c h1 h2])
theorem impl_TextValid_ev (l : Str) (hl : l.length ≤ 1000000000000000) : Ev (fun k => impl_TextValid.f k (ofL l)) (tvalid l) := by
  unfold impl_TextValid.f
  rw [size_ofL]
  exact impl_TextValid_loop l hl l [] rfl

theorem spec_TextValid_loop (l : Str) (hl : l.length ≤ 1000000000000000) (r : Str) : ∀ (p : Str), l = p ++ r → Ev (fun k => spec_TextValid.l0 k (ofL l) (p.length : Int)) (r.all okB && decide (l.length ≤ 200)) := by
  induction r with
  | nil =>
    intro p h
    have hz : l.length = p.length := by rw [h, List.append_nil]
    refine ev_succ ?_
    simp only [spec_TextValid.l0, size_ofL]
    repeat (first | refine ev_pos (by first | assumption | omega | decide) ?_ | refine ev_neg (by first | assumption | omega | decide) ?_)
    refine ev_succ ?_
    simp only [spec_TextValid.j1, size_ofL]
    repeat (first | refine ev_pos (by first | assumption | omega | decide) ?_ | refine ev_neg (by first | assumption | omega | decide) ?_)
    exact ev_eq (ev_some _) (by simp; omega)
  | cons c r ih =>
    intro p h
    have hz : l.length = p.length + (r.length + 1) := by rw [h]; simp
    have e1 : bt (ofL l) (p.length : Int) = (c.toNat : Int) := by rw [h]; exact bt_mid p r c
    have := ih (p ++ [c]) (by rw [h]; simp)
    rw [len_snoc] at this
    by_cases h0 : (p.length : Int) ≤ 200
    · refine ev_succ ?_
      simp only [spec_TextValid.l0, size_ofL]
      repeat (first | refine ev_pos (by first | assumption | omega | decide) ?_ | refine ev_neg (by first | assumption | omega | decide) ?_)
      refine ev_succ ?_
      simp (disch := omega) only [spec_TextValid.j1, size_ofL, e1, wrap_id, decide_eq_true h0]
      by_cases h1 : (c.toNat : Int) < 32
      · repeat (first | refine ev_pos (by first | assumption | omega | decide) ?_ | refine ev_neg (by first | assumption | omega | decide) ?_)
        exact ev_eq (ev_some _) (by simp [okB_lo c h1])
      · by_cases h2 : (c.toNat : Int) > 126
        · repeat (first | refine ev_pos (by first | assumption | omega | decide) ?_ | refine ev_neg (by first | assumption | omega | decide) ?_)
          exact ev_eq (ev_some _) (by simp [okB_hi c h2])
        · repeat (first | refine ev_pos (by first | assumption | omega | decide) ?_ | refine ev_neg (by first | assumption | omega | decide) ?_)
          exact ev_eq this (by simp [okB_mid c h1 h2])
    · refine ev_succ ?_
      simp only [spec_TextValid.l0, size_ofL]
      repeat (first | refine ev_pos (by first | assumption | omega | decide) ?_ | refine ev_neg (by first | assumption | omega | decide) ?_)
      refine ev_succ ?_
      simp only [spec_TextValid.j1, size_ofL, decide_eq_false h0]
      repeat (first | refine ev_pos (by first | assumption | omega | decide) ?_ | refine ev_neg (by first | assumption | omega | decide) ?_)
      have d1 : decide ((l.length : Int) ≤ 200) = false := decide_eq_false (by omega)
      have d2 : decide (l.length ≤ 200) = false := decide_eq_false (by omega)
      exact ev_eq (ev_some _) (by rw [d1, d2, Bool.and_false])
theorem spec_TextValid_ev (l : Str) (hl : l.length ≤ 1000000000000000) : Ev (fun k => spec_TextValid.f k (ofL l)) (tvalid l) := by
  unfold spec_TextValid.f
  exact spec_TextValid_loop l hl l [] rfl

theorem stringslite_HasPrefix_eq (a b : Str) : stringslite_HasPrefix.f (ofL a) (ofL b) = some (b.isPrefixOf a) := by
  unfold stringslite_HasPrefix.f
  simp only [size_ofL, extract_ofL, toList_ofL]
  by_cases h : (a.length : Int) ≥ (b.length : Int)
  · rw [if_pos h, if_pos (by omega), if_pos (by omega)]
    congr 1
    rw [Bool.eq_iff_iff, beq_iff_eq, List.isPrefixOf_iff_prefix, List.prefix_iff_eq_take]
    simp
    exact eq_comm
  · rw [if_neg h]
    congr 1
    rw [eq_comm, Bool.eq_false_iff, ne_eq, List.isPrefixOf_iff_prefix]
    intro hp
    have := hp.length_le
    omega
theorem strings_HasPrefix_eq (a b : Str) : strings_HasPrefix.f (ofL a) (ofL b) = some (b.isPrefixOf a) := by
  unfold strings_HasPrefix.f
  rw [stringslite_HasPrefix_eq]; rfl

/-! Lines with dots: the model. -/
def stf (l : Str) : Str := if ([46] : Str).isPrefixOf l = true then 46 :: l else l
def stuffs : List Str → Str → Option Str
  | [], out => if (out ++ [46, 13, 10]).length > 2000 then none else some (out ++ [46, 13, 10])
  | l :: r, out => if tvalid l = false ∨ out.length > 2000 then none else stuffs r (out ++ (stf l ++ [13, 10]))
def sres (o : Option Str) : ByteArray × Bool := match o with
  | none => (ofL [], false)
  | some s => (ofL s, true)
theorem stf_len (l : Str) : (stf l).length ≤ l.length + 1 ∧ l.length ≤ (stf l).length := by
  unfold stf; split
  · simp
  · omega

/-! Lines taken apart: the model. -/
def cutE : Str → Option (Str × Str)
  | [] => none
  | c :: r => if c = 13 ∧ r.head? = some 10 then some ([], r.drop 1) else match cutE r with
    | none => none
    | some (a, b) => some (c :: a, b)
theorem cutE_some (s : Str) : ∀ a b : Str, cutE s = some (a, b) → s = a ++ 13 :: 10 :: b := by
  induction s with
  | nil => intro a b h; cases h
  | cons c r ih =>
    intro a b h
    rw [cutE] at h
    split at h
    · rename_i hc
      obtain ⟨rfl, h2⟩ := hc
      cases h
      cases r with
      | nil => cases h2
      | cons d r => simp at h2; subst h2; rfl
    · cases e : cutE r with
      | none => rw [e] at h; cases h
      | some q =>
        obtain ⟨x, y⟩ := q
        rw [e] at h
        cases h
        rw [ih x b e]; rfl
theorem cutE_len {s a b : Str} (h : cutE s = some (a, b)) : s.length = a.length + b.length + 2 := by
  rw [cutE_some s a b h]; simp; omega
theorem cutE_free (x t : Str) (h : ∀ c ∈ x, c ≠ 13) : cutE (x ++ 13 :: 10 :: t) = some (x, t) := by
  induction x with
  | nil => rfl
  | cons c x ih =>
    rw [List.cons_append, cutE, if_neg (fun hh => h c (by simp) hh.1), ih (fun d hd => h d (by simp [hd]))]
theorem cutE_none_free (x : Str) (h : ∀ c ∈ x, c ≠ 10) : cutE x = none := by
  induction x with
  | nil => rfl
  | cons c x ih =>
    rw [cutE, if_neg, ih (fun d hd => h d (by simp [hd]))]
    rintro ⟨_, h2⟩
    cases x with
    | nil => cases h2
    | cons d x => simp at h2; exact h d (by simp) h2
theorem cutE_pre (x t : Str) (h : ∀ c ∈ x, c ≠ 13) (ht : cutE t = none) : cutE (x ++ t) = none := by
  induction x with
  | nil => exact ht
  | cons c x ih => rw [List.cons_append, cutE, if_neg (fun hh => h c (by simp) hh.1), ih (fun d hd => h d (by simp [hd]))]
def undot (l : Str) : Str := if ([46] : Str).isPrefixOf l = true then l.drop 1 else l
/-- Lines read; at the end what is behind them. -/
def unst : Nat → Str → List Str → Option (List Str × Str)
  | 0, _, _ => none
  | n + 1, s, acc => match cutE s with
    | none => none
    | some (a, b) => if a = [46] then some (acc, b) else if tvalid (undot a) = true then unst n b (acc ++ [undot a]) else none
def unstuff (s : Str) : Option (List Str × Str) := if s.length > 2000 then none else unst (s.length + 1) s []
def ures (o : Option (List Str × Str)) : List ByteArray × ByteArray × Bool := match o with
  | none => ([], ofL [], false)
  | some (x, y) => (x.map ofL, ofL y, true)
theorem tvalid_no {l : Str} (h : tvalid l = true) (n : UInt8) (hn : n < 32) : ∀ c ∈ l, c ≠ n := by
  intro c hc e
  subst e
  unfold tvalid at h
  simp only [Bool.and_eq_true, List.all_eq_true] at h
  have := h.1 c hc
  unfold okB at this
  simp [UInt8.le_iff_toNat_le, UInt8.lt_iff_toNat_lt] at this hn
  omega
theorem stf_no {l : Str} (h : tvalid l = true) (n : UInt8) (hn : n < 32) : ∀ c ∈ stf l, c ≠ n := by
  intro c hc
  unfold stf at hc
  split at hc
  · rcases List.mem_cons.mp hc with rfl | hc
    · rintro rfl; revert hn; decide
    · exact tvalid_no h n hn c hc
  · exact tvalid_no h n hn c hc
theorem undot_stf (l : Str) : undot (stf l) = l := by
  unfold stf
  split
  · unfold undot; simp [List.isPrefixOf]
  · rename_i h
    unfold undot; rw [if_neg h]
theorem stf_ne (l : Str) : stf l ≠ [46] := by
  unfold stf
  split
  · rename_i h
    cases l with
    | nil => simp [List.isPrefixOf] at h
    | cons c l => simp
  · rename_i h
    intro e; subst e; simp [List.isPrefixOf] at h
/-- What is sent of lines, but for the end. -/
def sbody : List Str → Str
  | [] => []
  | l :: r => stf l ++ 13 :: 10 :: sbody r
theorem stuffs_body (ls : List Str) : ∀ (out s : Str), stuffs ls out = some s → s = out ++ sbody ls ++ [46, 13, 10] ∧ ∀ l ∈ ls, tvalid l = true := by
  induction ls with
  | nil =>
    intro out s h
    rw [stuffs] at h
    split at h
    · cases h
    · cases h; exact ⟨by simp [sbody], by simp⟩
  | cons c r ih =>
    intro out s h
    rw [stuffs] at h
    split at h
    · cases h
    · rename_i hc
      obtain ⟨h1, h2⟩ := ih _ _ h
      have hc1 : tvalid c = true := by
        cases e : tvalid c with
        | true => rfl
        | false => exact absurd (Or.inl e) hc
      refine ⟨by rw [h1]; simp [sbody], fun l hl => ?_⟩
      rcases List.mem_cons.mp hl with rfl | hl
      · exact hc1
      · exact h2 l hl
theorem unst_body (ls : List Str) (t : Str) : ∀ (n : Nat) (acc : List Str), (∀ l ∈ ls, tvalid l = true) → ls.length < n → unst n (sbody ls ++ 46 :: 13 :: 10 :: t) acc = some (acc ++ ls, t) := by
  induction ls with
  | nil =>
    intro n acc _ hn
    obtain ⟨n, rfl⟩ : ∃ m, n = m + 1 := ⟨n - 1, by simp at hn; omega⟩
    have : cutE (46 :: 13 :: 10 :: t) = some ([46], t) := cutE_free [46] t (by simp)
    rw [sbody, List.nil_append, unst, this]
    simp
  | cons c r ih =>
    intro n acc h hn
    obtain ⟨n, rfl⟩ : ∃ m, n = m + 1 := ⟨n - 1, by simp at hn; omega⟩
    have hc := h c (by simp)
    have : cutE (stf c ++ 13 :: 10 :: (sbody r ++ 46 :: 13 :: 10 :: t)) = some (stf c, sbody r ++ 46 :: 13 :: 10 :: t) := cutE_free _ _ (stf_no hc 13 (by decide))
    have e : sbody (c :: r) ++ 46 :: 13 :: 10 :: t = stf c ++ 13 :: 10 :: (sbody r ++ 46 :: 13 :: 10 :: t) := by simp [sbody]
    rw [e, unst, this]
    simp only [if_neg (stf_ne c), undot_stf, if_pos hc]
    rw [ih n (acc ++ [c]) (fun l hl => h l (by simp [hl])) (by simp at hn; omega)]
    simp
theorem sbody_len (ls : List Str) : ls.length ≤ (sbody ls).length := by
  induction ls with
  | nil => simp [sbody]
  | cons c r ih => simp only [sbody, List.length_append, List.length_cons]; omega
theorem unstuff_stuffs {ls : List Str} {s : Str} (h : stuffs ls [] = some s) (t : Str) (hl : s.length + t.length ≤ 2000) : unstuff (s ++ t) = some (ls, t) := by
  obtain ⟨h1, h2⟩ := stuffs_body ls [] s h
  have hb := sbody_len ls
  unfold unstuff
  rw [if_neg (by rw [List.length_append]; omega)]
  have e : s ++ t = sbody ls ++ 46 :: 13 :: 10 :: t := by rw [h1]; simp
  rw [e, unst_body ls t _ [] h2 (by simp only [List.length_append, List.length_cons]; omega)]
  rfl
theorem unst_tvalid : ∀ (n : Nat) (s : Str) (acc x : List Str) (y : Str), unst n s acc = some (x, y) → (∀ l ∈ acc, tvalid l = true) → ∀ l ∈ x, tvalid l = true := by
  intro n
  induction n with
  | zero => intro s acc x y h; cases h
  | succ n ih =>
    intro s acc x y h ha
    rw [unst] at h
    cases e : cutE s with
    | none => rw [e] at h; cases h
    | some q =>
      obtain ⟨a, b⟩ := q
      rw [e] at h
      simp only at h
      split at h
      · cases h; exact ha
      · split at h
        · rename_i ht
          refine ih b _ x y h ?_
          intro l hl
          rcases List.mem_append.mp hl with hl | hl
          · exact ha l hl
          · rw [List.mem_singleton.mp hl]; exact ht
        · cases h
theorem unst_len : ∀ (n : Nat) (s : Str) (acc x : List Str) (y : Str), unst n s acc = some (x, y) → y.length ≤ s.length ∧ x.length ≤ acc.length + s.length := by
  intro n
  induction n with
  | zero => intro s acc x y h; cases h
  | succ n ih =>
    intro s acc x y h
    rw [unst] at h
    cases e : cutE s with
    | none => rw [e] at h; cases h
    | some q =>
      obtain ⟨a, b⟩ := q
      have hl := cutE_len e
      rw [e] at h
      simp only at h
      split at h
      · cases h; exact ⟨by omega, by omega⟩
      · split at h
        · have := ih b _ x y h
          simp only [List.length_append, List.length_cons, List.length_nil] at this
          exact ⟨by omega, by omega⟩
        · cases h
theorem unstuff_end {ls : List Str} {s : Str} (h : stuffs ls [] = some s) : unstuff (s.take (s.length - 1)) = none := by
  obtain ⟨h1, h2⟩ := stuffs_body ls [] s h
  have e : s.take (s.length - 1) = sbody ls ++ [46, 13] := by
    rw [h1]
    have : ([] ++ sbody ls ++ [46, 13, 10] : Str) = (sbody ls ++ [46, 13]) ++ [10] := by simp
    rw [this, List.length_append, List.length_singleton, Nat.add_sub_cancel]
    exact List.take_left
  have key : ∀ (ls : List Str) (n : Nat) (acc : List Str), (∀ l ∈ ls, tvalid l = true) → unst n (sbody ls ++ [46, 13]) acc = none := by
    intro ls
    induction ls with
    | nil =>
      intro n acc _
      cases n with
      | zero => rfl
      | succ n => rfl
    | cons c r ih =>
      intro n acc h
      cases n with
      | zero => rfl
      | succ n =>
        have hc := h c (by simp)
        have : cutE (stf c ++ 13 :: 10 :: (sbody r ++ [46, 13])) = some (stf c, sbody r ++ [46, 13]) := cutE_free _ _ (stf_no hc 13 (by decide))
        have e : sbody (c :: r) ++ [46, 13] = stf c ++ 13 :: 10 :: (sbody r ++ [46, 13]) := by simp [sbody]
        rw [e, unst, this]
        simp only [if_neg (stf_ne c), undot_stf, if_pos hc]
        exact ih n (acc ++ [c]) (fun l hl => h l (by simp [hl]))
  rw [e]
  unfold unstuff
  split
  · rfl
  · exact key ls _ [] h2
/-- More rounds than letters tell the same. -/
theorem unst_more : ∀ (n m : Nat) (s : Str) (acc : List Str), s.length < n → s.length < m → unst n s acc = unst m s acc := by
  intro n
  induction n with
  | zero => intro m s acc h; omega
  | succ n ih =>
    intro m s acc hn hm
    obtain ⟨m, rfl⟩ : ∃ k, m = k + 1 := ⟨m - 1, by omega⟩
    rw [unst, unst]
    cases e : cutE s with
    | none => rfl
    | some q =>
      obtain ⟨a, b⟩ := q
      have hl := cutE_len e
      simp only
      split
      · rfl
      · split
        · exact ih m b _ (by omega) (by omega)
        · rfl
/-! Cut at the end of a line: the library's words. -/
theorem index_E (s : Str) : Lib.index s [13, 10] = match cutE s with
    | none => -1
    | some (a, _) => (a.length : Int) := by
  induction s with
  | nil => rfl
  | cons c r ih =>
    rw [Lib.index, cutE]
    have hp : ([13, 10] : Str).isPrefixOf (c :: r) = true ↔ (c = 13 ∧ r.head? = some 10) := by
      cases r with
      | nil => simp [List.isPrefixOf]
      | cons d r => simp only [List.isPrefixOf, List.head?_cons, Option.some.injEq, Bool.and_true, Bool.and_eq_true, beq_iff_eq]; constructor <;> (rintro ⟨h1, h2⟩; exact ⟨h1.symm, h2.symm⟩)
    by_cases h : c = 13 ∧ r.head? = some 10
    · rw [if_pos (hp.mpr h), if_pos h]; rfl
    · rw [if_neg (fun hh => h (hp.mp hh)), if_neg h, ih]
      cases e : cutE r with
      | none => rfl
      | some q =>
        obtain ⟨a, b⟩ := q
        simp only [List.length_cons]
        rw [if_neg (by simp)]
        rfl
theorem cut_E (s : Str) : Lib.cut s [13, 10] = match cutE s with
    | none => (s, [], false)
    | some (a, b) => (a, b, true) := by
  unfold Lib.cut
  rw [index_E]
  cases e : cutE s with
  | none => rfl
  | some q =>
    obtain ⟨a, b⟩ := q
    have := cutE_some s a b e
    simp only
    rw [if_pos (by omega)]
    subst this
    simp

theorem impl_stuffed_eq (l : Str) (hl : l.length ≤ 1000000000000000) : impl_stuffed.f (ofL l) = some (ofL (stf l)) := by
  unfold impl_stuffed.f stf
  simp only [mk_ofL, lit_list]
  rw [strings_HasPrefix_eq]
  simp only [Option.bind_some, size_ofL, ofL_append]
  by_cases h : ([46] : Str).isPrefixOf l = true
  · rw [if_pos h, if_pos h, if_pos (by omega)]; rfl
  · rw [if_neg h, if_neg h]

theorem impl_StuffLines_loop (ls : List Str) (hl : ∀ l ∈ ls, l.length ≤ 1000000000000000) (hn : ls.length ≤ 1000000000000000) (r : List Str) : ∀ (p : List Str) (out : Str), ls = p ++ r → out.length ≤ 3000 → Ev (fun k => impl_StuffLines.l0 k (ofL out) (ls.map ofL) (ls.length : Int) (p.length : Int)) (sres (stuffs r out)) := by
  induction r with
  | nil =>
    intro p out h ho
    have hz : ls.length = p.length := by rw [h, List.append_nil]
    refine ev_succ ?_
    simp only [impl_StuffLines.l0, mk_ofL, lit_list, size_ofL, ofL_append, stuffs]
    by_cases h3 : (out ++ [46, 13, 10]).length > 2000
    · rw [if_pos h3]
      refine ev_neg (by omega) (ev_pos (by omega) (ev_pos (by omega) (ev_some _)))
    · rw [if_neg h3]
      refine ev_neg (by omega) (ev_pos (by omega) (ev_neg (by omega) (ev_some _)))
  | cons c r ih =>
    intro p out h ho
    have hz : ls.length = p.length + (r.length + 1) := by rw [h]; simp
    have hc := hl c (by rw [h]; simp)
    have e0 : ls.map ofL = p.map ofL ++ ofL c :: r.map ofL := by rw [h]; simp
    have e1 : rdOf ByteArray.empty (ls.map ofL) (p.length : Int) = ofL c := by
      have := rdOf_mid ByteArray.empty (p.map ofL) (r.map ofL) (ofL c)
      rw [List.length_map] at this
      rw [e0]; exact this
    refine ev_succ ?_
    simp (disch := omega) only [impl_StuffLines.l0, wrap_id, e1, List.length_map]
    refine ev_pos (by omega) (ev_pos (by omega) (ev_pos (by omega) (ev_bind (impl_TextValid_ev c hc) ?_)))
    rw [stuffs]
    by_cases ht : tvalid c = true
    · have htl := tvalid_len ht
      have hsl := stf_len c
      refine ev_pos ht ?_
      by_cases h2 : out.length > 2000
      · rw [if_pos (Or.inr h2)]
        exact ev_pos (by rw [size_ofL]; omega) (ev_some _)
      · rw [if_neg (fun hh => hh.elim (fun h5 => by rw [ht] at h5; cases h5) h2)]
        refine ev_neg (by rw [size_ofL]; omega) (ev_bind0 (impl_stuffed_eq c hc) ?_)
        have := ih (p ++ [c]) (out ++ (stf c ++ [13, 10])) (by rw [h]; simp) (by simp only [List.length_append, List.length_cons, List.length_nil]; omega)
        rw [len_snoc] at this
        simp only [mk_ofL, lit_list, size_ofL, ofL_append]
        exact ev_pos (by omega) (ev_pos (by simp only [List.length_append, List.length_cons, List.length_nil]; omega) this)
    · rw [if_pos (Or.inl (by simpa using ht))]
      exact ev_neg ht (ev_some _)
theorem impl_StuffLines_ev (ls : List Str) (hl : ∀ l ∈ ls, l.length ≤ 1000000000000000) (hn : ls.length ≤ 1000000000000000) : Ev (fun k => impl_StuffLines.f k (ls.map ofL)) (sres (stuffs ls [])) := by
  unfold impl_StuffLines.f
  rw [List.length_map]
  exact impl_StuffLines_loop ls hl hn ls [] [] rfl (by simp)

theorem spec_StuffLines_loop (ls : List Str) (hl : ∀ l ∈ ls, l.length ≤ 1000000000000000) (hn : ls.length ≤ 1000000000000000) (r : List Str) : ∀ (p : List Str) (out : Str), ls = p ++ r → out.length ≤ 3000 → Ev (fun k => spec_StuffLines.l0 k (ls.map ofL) (ofL out) (p.length : Int)) (sres (stuffs r out)) := by
  induction r with
  | nil =>
    intro p out h ho
    have hz : ls.length = p.length := by rw [h, List.append_nil]
    refine ev_succ ?_
    simp only [spec_StuffLines.l0, mk_ofL, lit_list, size_ofL, ofL_append, stuffs, List.length_map]
    by_cases h3 : (out ++ [46, 13, 10]).length > 2000
    · rw [if_pos h3]
      refine ev_neg (by omega) (ev_pos (by omega) (ev_pos (by omega) (ev_some _)))
    · rw [if_neg h3]
      refine ev_neg (by omega) (ev_pos (by omega) (ev_neg (by omega) (ev_some _)))
  | cons c r ih =>
    intro p out h ho
    have hz : ls.length = p.length + (r.length + 1) := by rw [h]; simp
    have hc := hl c (by rw [h]; simp)
    have e0 : ls.map ofL = p.map ofL ++ ofL c :: r.map ofL := by rw [h]; simp
    have e1 : rdOf ByteArray.empty (ls.map ofL) (p.length : Int) = ofL c := by
      have := rdOf_mid ByteArray.empty (p.map ofL) (r.map ofL) (ofL c)
      rw [List.length_map] at this
      rw [e0]; exact this
    refine ev_succ ?_
    simp (disch := omega) only [spec_StuffLines.l0, wrap_id, e1, List.length_map]
    refine ev_pos (by omega) (ev_pos (by omega) (ev_bind (spec_TextValid_ev c hc) ?_))
    rw [stuffs]
    by_cases ht : tvalid c = true
    · have htl := tvalid_len ht
      have hsl := stf_len c
      refine ev_pos ht (ev_succ ?_)
      have w1 : wrap64 ((p.length : Int) + 1) = (p.length : Int) + 1 := wrap_id (by omega) (by omega)
      simp only [spec_StuffLines.j1, w1, e1, List.length_map, mk_ofL, lit_list, size_ofL, ofL_append, toList_ofL]
      by_cases h2 : out.length > 2000
      · rw [if_pos (Or.inr h2)]
        exact ev_pos (decide_eq_true (by omega)) (ev_some _)
      · rw [if_neg (fun hh => hh.elim (fun h5 => by rw [ht] at h5; cases h5) h2)]
        have := ih (p ++ [c]) (out ++ (stf c ++ [13, 10])) (by rw [h]; simp) (by simp only [List.length_append, List.length_cons, List.length_nil]; omega)
        rw [len_snoc] at this
        refine ev_neg (by rw [decide_eq_true_iff]; omega) (ev_pos (by omega) (ev_pos (by omega) ?_))
        cases c with
        | nil =>
          refine ev_pos rfl (ev_pos (by simp; omega) (ev_pos (by simp; omega) ?_))
          have e5 : out ++ [] ++ [13, 10] = out ++ (stf [] ++ [13, 10]) := by rw [List.append_nil]; rfl
          rw [e5]
          exact this
        | cons d c =>
          simp only [bt_zero]
          refine ev_neg (by simp) (ev_pos (by simp) ?_)
          by_cases hd : (d.toNat : Int) = 46
          · have hd' : d = 46 := (u8_eq d 46 (by omega)).mp hd
            have e5 : stf (d :: c) = 46 :: d :: c := by rw [hd']; unfold stf; simp [List.isPrefixOf]
            have e6 : out ++ [46] ++ (d :: c) ++ [13, 10] = out ++ (46 :: d :: c ++ [13, 10]) := by simp
            rw [e6, e5]
            rw [e5] at this
            refine ev_pos hd (ev_pos (by omega) (ev_pos (by simp at htl ⊢; omega) (ev_pos (by simp at htl ⊢; omega) this)))
          · have hd' : ¬ d = 46 := fun hh => hd ((u8_eq d 46 (by omega)).mpr hh)
            have e5 : stf (d :: c) = d :: c := by
              unfold stf
              rw [if_neg]
              simp [List.isPrefixOf]
              exact fun hh => hd' hh.symm
            have e6 : out ++ (d :: c) ++ [13, 10] = out ++ (d :: c ++ [13, 10]) := by simp
            rw [e6, e5]
            rw [e5] at this
            refine ev_neg hd (ev_pos (by omega) (ev_pos (by simp at htl ⊢; omega) this))
    · rw [if_pos (Or.inl (by simpa using ht))]
      refine ev_neg ht (ev_succ ?_)
      simp only [spec_StuffLines.j1]
      exact ev_pos trivial (ev_some _)
theorem spec_StuffLines_ev (ls : List Str) (hl : ∀ l ∈ ls, l.length ≤ 1000000000000000) (hn : ls.length ≤ 1000000000000000) : Ev (fun k => spec_StuffLines.f k (ls.map ofL)) (sres (stuffs ls [])) := by
  unfold spec_StuffLines.f
  exact spec_StuffLines_loop ls hl hn ls [] [] rfl (by simp)

theorem l9Lines_loop (l : List Int) (hl : IsB l) (n : Nat) : ∀ (s : List Str) (p : Int), 0 ≤ p → p + n ≤ 1000000000 → s.length + n ≤ 1000000000 → (∀ x ∈ s, x.length ≤ 100) →
    ∃ (t : List Str) (q : Int), Ev (fun k => spec_l9Lines.l0 k (s.map ofL) (n : Int) l p) (t.map ofL, q) ∧ t.length ≤ s.length + n ∧ ∀ x ∈ t, x.length ≤ 100 := by
  induction n with
  | zero =>
    intro s p h0 h1 h2 h3
    refine ⟨s, p, ev_succ ?_, by omega, h3⟩
    simp only [spec_l9Lines.l0]
    repeat (first | refine ev_pos (by first | assumption | omega | decide) ?_ | refine ev_neg (by first | assumption | omega | decide) ?_)
    exact ev_some _
  | succ n ih =>
    intro s p h0 h1 h2 h3
    obtain ⟨v, hv, hm⟩ := of_ev l p [(⟨#[97]⟩ : ByteArray), (⟨#[]⟩ : ByteArray), (⟨#[46]⟩ : ByteArray), (⟨#[46, 46]⟩ : ByteArray), (⟨#[46, 97]⟩ : ByteArray), (⟨#[116, 101, 120, 116, 32, 111, 102, 32, 97, 32, 108, 105, 110, 101]⟩ : ByteArray), (⟨#[9]⟩ : ByteArray)] hl h0 (by omega) (by simp) (by simp)
    have hsz : (L v).length ≤ 100 := by
      simp only [List.mem_cons, List.not_mem_nil, or_false] at hm
      rcases hm with rfl | rfl | rfl | rfl | rfl | rfl | rfl <;> decide
    obtain ⟨t, q, ht, hq, hx⟩ := ih (s ++ [L v]) (p + 1) (by omega) (by omega) (by simp; omega) (fun x hx => by
      rcases List.mem_append.mp hx with h | h
      · exact h3 x h
      · rw [List.mem_singleton.mp h]; exact hsz)
    simp only [List.length_append, List.length_cons, List.length_nil] at hq
    refine ⟨t, q, ev_succ ?_, by omega, hx⟩
    have e : (((n + 1 : Nat) : Int) - 1) = (n : Int) := by omega
    simp (disch := omega) only [spec_l9Lines.l0, wrap_id, e]
    refine ev_pos (by omega) (ev_bind hv ?_)
    rw [List.map_append] at ht
    exact ev_pos (by rw [List.length_map]; omega) ht
theorem l9Lines_ev (l : List Int) (hl : IsB l) : ∃ (t : List Str) (q : Int), Ev (fun k => spec_l9Lines.f k l 0) (t.map ofL, q) ∧ t.length ≤ 5 ∧ ∀ x ∈ t, x.length ≤ 100 := by
  obtain ⟨n, hn, hm⟩ := num_ev l 0 [2, 3, 1, 0, 5] hl (by omega) (by omega) (by simp) (by simp)
  have : ∃ m : Nat, n = (m : Int) ∧ m ≤ 5 := by
    simp only [List.mem_cons, List.not_mem_nil, or_false] at hm
    rcases hm with rfl | rfl | rfl | rfl | rfl
    · exact ⟨2, rfl, by omega⟩
    · exact ⟨3, rfl, by omega⟩
    · exact ⟨1, rfl, by omega⟩
    · exact ⟨0, rfl, by omega⟩
    · exact ⟨5, rfl, by omega⟩
  obtain ⟨m, rfl, hm⟩ := this
  obtain ⟨t, q, ht, hq, hx⟩ := l9Lines_loop l hl m [] (0 + 1) (by omega) (by omega) (by simp; omega) (by simp)
  simp only [List.length_nil] at hq
  refine ⟨t, q, ?_, by omega, hx⟩
  unfold spec_l9Lines.f
  exact ev_bind hn ht

theorem DrawStuffLines_ev (l : List Int) (h : ∀ x ∈ l, (Lit.int .u8 x).wf = true) : ∃ t : List Str, Ev (fun k => spec_DrawStuffLines.f k l) (t.map ofL) ∧ t.length ≤ 5 ∧ ∀ x ∈ t, x.length ≤ 100 := by
  obtain ⟨l', ho, hb⟩ := open_ev l h
  obtain ⟨t, q, ht, hq, hx⟩ := l9Lines_ev l' hb
  refine ⟨t, ?_, hq, hx⟩
  unfold spec_DrawStuffLines.f
  exact ev_bind0 ho (ev_bind ht (ev_some _))

/-- How many bytes are sent. -/
def ssize : List Str → Nat
  | [] => 3
  | l :: r => (stf l).length + 2 + ssize r
theorem stuffs_some (ls : List Str) : ∀ (out s : Str), stuffs ls out = some s → s.length = out.length + ssize ls ∧ s.length ≤ 2000 ∧ ∃ t, s = t ++ [46, 13, 10] := by
  induction ls with
  | nil =>
    intro out s h
    rw [stuffs] at h
    split at h
    · cases h
    · rename_i hlt
      cases h
      refine ⟨by rw [List.length_append]; rfl, by omega, out, rfl⟩
  | cons c r ih =>
    intro out s h
    rw [stuffs] at h
    split at h
    · cases h
    · obtain ⟨h1, h2, h3⟩ := ih _ _ h
      simp only [ssize, List.length_append, List.length_cons, List.length_nil] at *
      exact ⟨by omega, h2, h3⟩
theorem stf_size (l : Str) : (stf l).length = l.length + (if ([46] : Str).isPrefixOf l = true then 1 else 0) := by
  unfold stf; split <;> simp

/-! A text taken apart at its ends: the model. -/
def wcons (c : UInt8) : List Str × Str → List Str × Str
  | ([], r) => ([], c :: r)
  | (l :: ls, r) => ((c :: l) :: ls, r)
def ws : Str → List Str × Str
  | [] => ([], [])
  | [c] => ([], [c])
  | c :: d :: r => if c = 13 ∧ d = 10 then ([] :: (ws r).1, (ws r).2) else wcons c (ws (d :: r))
theorem ws_whole (r : Str) : ws (13 :: 10 :: r) = ([] :: (ws r).1, (ws r).2) := by rw [ws, if_pos ⟨rfl, rfl⟩]
theorem ws_other (c : UInt8) (r : Str) (h : ¬ (c = 13 ∧ r.head? = some 10)) : ws (c :: r) = wcons c (ws r) := by
  cases r with
  | nil => rfl
  | cons d r => rw [ws, if_neg (fun hh => h ⟨hh.1, by simp [hh.2]⟩)]
theorem ws_none (s : Str) : cutE s = none → ws s = ([], s) := by
  induction s with
  | nil => intro _; rfl
  | cons c r ih =>
    intro h
    rw [cutE] at h
    split at h
    · cases h
    · rename_i hc
      cases e : cutE r with
      | none => rw [ws_other c r hc, ih e]; rfl
      | some q => obtain ⟨a, b⟩ := q; rw [e] at h; cases h
theorem ws_some (s : Str) : ∀ a b : Str, cutE s = some (a, b) → ws s = (a :: (ws b).1, (ws b).2) := by
  induction s with
  | nil => intro a b h; cases h
  | cons c r ih =>
    intro a b h
    rw [cutE] at h
    split at h
    · rename_i hc
      obtain ⟨rfl, hd⟩ := hc
      cases h
      cases r with
      | nil => cases hd
      | cons d r =>
        simp only [List.head?_cons, Option.some.injEq] at hd
        subst hd
        rw [ws_whole]; rfl
    · rename_i hc
      cases e : cutE r with
      | none => rw [e] at h; cases h
      | some q =>
        obtain ⟨x, y⟩ := q
        rw [e] at h
        cases h
        rw [ws_other c r hc, ih x b e]; rfl
theorem ws_rest (n : Nat) : ∀ s : Str, s.length ≤ n → cutE (ws s).2 = none := by
  induction n with
  | zero => intro s h; cases s with
    | nil => rfl
    | cons c s => simp at h
  | succ n ih =>
    intro s h
    cases e : cutE s with
    | none => rw [ws_none s e]; exact e
    | some q =>
      obtain ⟨a, b⟩ := q
      have hl := cutE_len e
      rw [ws_some s a b e]
      exact ih b (by omega)
def wjoin : List Str → Str
  | [] => []
  | l :: r => l ++ 13 :: 10 :: wjoin r
theorem ws_join (n : Nat) : ∀ s : Str, s.length ≤ n → wjoin (ws s).1 ++ (ws s).2 = s := by
  induction n with
  | zero => intro s h; cases s with
    | nil => rfl
    | cons c s => simp at h
  | succ n ih =>
    intro s h
    cases e : cutE s with
    | none => rw [ws_none s e]; rfl
    | some q =>
      obtain ⟨a, b⟩ := q
      have hl := cutE_len e
      rw [ws_some s a b e]
      have := ih b (by omega)
      rw [cutE_some s a b e]
      simp only [wjoin, List.append_assoc, List.cons_append, this]
theorem ws_len (s : Str) : (ws s).1.length ≤ s.length ∧ (ws s).2.length ≤ s.length := by
  have h := ws_join s.length s (Nat.le_refl _)
  have h1 : ∀ ls : List Str, ls.length ≤ (wjoin ls).length := by
    intro ls
    induction ls with
    | nil => simp
    | cons l r ih => simp only [wjoin, List.length_cons, List.length_append]; omega
  have h2 := h1 (ws s).1
  have h3 := congrArg List.length h
  rw [List.length_append] at h3
  omega
theorem wjoin_mem {ls : List Str} {l : Str} (h : l ∈ ls) : l.length ≤ (wjoin ls).length := by
  induction ls with
  | nil => cases h
  | cons c r ih =>
    simp only [wjoin, List.length_append, List.length_cons]
    rcases List.mem_cons.mp h with rfl | h
    · omega
    · have := ih h; omega
theorem swP_E (n : Nat) : ∀ s : Str, s.length ≤ n → Lib.countB (ofL s) ⟨#[13, 10]⟩ = (ws s).1.length ∧ Lib.splitB ⟨#[13, 10]⟩ 0 (Lib.countB (ofL s) ⟨#[13, 10]⟩) (ofL s) = (ws s).1.map ofL ++ [ofL (ws s).2] := by
  induction n with
  | zero => intro s h; cases s with
    | nil => exact ⟨rfl, rfl⟩
    | cons c s => simp at h
  | succ n ih =>
    intro s h
    have hi : Lib.indexB (ofL s) ⟨#[13, 10]⟩ = _ := index_E s
    cases e : cutE s with
    | none =>
      rw [e] at hi
      rw [Lib.countB_miss _ _ hi, ws_none s e]
      exact ⟨rfl, rfl⟩
    | some q =>
      obtain ⟨a, b⟩ := q
      have hl := cutE_len e
      have hs := cutE_some s a b e
      rw [e] at hi
      have h2 : (⟨#[13, 10]⟩ : ByteArray).size = 2 := rfl
      have ex : (ofL s).extract (a.length + (⟨#[13, 10]⟩ : ByteArray).size) (ofL s).size = ofL b := by
        rw [extract_ofL, size_ofL, h2]
        congr 1
        have e4 : s = (a ++ [13, 10]) ++ b := by rw [hs]; simp
        rw [e4, List.drop_left' (by simp)]
        exact List.take_of_length_le (by simp; omega)
      have ex0 : (ofL s).extract 0 (a.length + 0) = ofL a := by
        rw [extract_ofL]
        congr 1
        rw [hs]; simp
      obtain ⟨i1, i2⟩ := ih b (by omega)
      have hc : Lib.countB (ofL s) ⟨#[13, 10]⟩ = (ws b).1.length + 1 := by
        rw [Lib.countB_hit _ _ a.length (by decide) hi, ex, i1]; omega
      rw [hc, ws_some s a b e]
      refine ⟨rfl, ?_⟩
      rw [Lib.splitB_hit _ 0 _ _ a.length hi, ex, ex0, ← i1, i2]
      rfl
theorem impl_SplitWire_eq (s : Str) (h : s.length ≤ 1000000) : impl_SplitWire.f (ofL s) = some ((ws s).1.map ofL, ofL (ws s).2) := by
  unfold impl_SplitWire.f swP swN
  obtain ⟨h1, h2⟩ := swP_E s.length s (Nat.le_refl _)
  rw [if_pos (by rw [size_ofL]; omega), h2, h1]
  congr 2
  · exact List.take_left' (by simp)
  · rw [List.getD_eq_getElem?_getD, List.getElem?_append_right (by simp)]
    simp

/-! Whole ends: the model. -/
def nrm : Str → Str × Nat
  | [] => ([], 0)
  | [c] => if c = 13 ∨ c = 10 then ([13, 10], 1) else ([c], 0)
  | c :: d :: r => if c = 13 ∧ d = 10 then (13 :: 10 :: (nrm r).1, (nrm r).2) else if c = 13 ∨ c = 10 then (13 :: 10 :: (nrm (d :: r)).1, (nrm (d :: r)).2 + 1) else (c :: (nrm (d :: r)).1, (nrm (d :: r)).2)
theorem nrm_end (r : Str) : r.length = 0 → nrm r = ([], 0) := by
  intro h; cases r with
  | nil => rfl
  | cons c r => simp at h
theorem nrm_whole (r : Str) : nrm (13 :: 10 :: r) = (13 :: 10 :: (nrm r).1, (nrm r).2) := by
  rw [nrm, if_pos ⟨rfl, rfl⟩]
theorem nrm_bare (c : UInt8) (r : Str) (h : c = 13 ∨ c = 10) (h2 : c = 13 → r.head? ≠ some 10) : nrm (c :: r) = (13 :: 10 :: (nrm r).1, (nrm r).2 + 1) := by
  cases r with
  | nil => simp only [nrm, if_pos h]
  | cons d r =>
    rw [nrm, if_neg (fun hh => h2 hh.1 (by simp [hh.2])), if_pos h]
theorem nrm_other (c : UInt8) (r : Str) (h : ¬ (c = 13 ∨ c = 10)) : nrm (c :: r) = (c :: (nrm r).1, (nrm r).2) := by
  cases r with
  | nil => simp only [nrm, if_neg h]
  | cons d r =>
    rw [nrm, if_neg (fun hh => h (Or.inl hh.1)), if_neg h]
/-- The ways a text begins. -/
theorem nrm_ways (P : Str → Prop) (h0 : P []) (h1 : ∀ r, P r → P (13 :: 10 :: r)) (h2 : ∀ c r, (c = 13 ∨ c = 10) → (c = 13 → r.head? ≠ some 10) → P r → P (c :: r)) (h3 : ∀ c r, ¬ (c = 13 ∨ c = 10) → P r → P (c :: r)) (r : Str) : P r := by
  have : ∀ n, ∀ r : Str, r.length ≤ n → P r := by
    intro n
    induction n with
    | zero => intro r h; cases r with
      | nil => exact h0
      | cons c r => simp at h
    | succ n ih =>
      intro r h
      cases r with
      | nil => exact h0
      | cons c r =>
        simp only [List.length_cons] at h
        by_cases hc : c = 13 ∨ c = 10
        · by_cases hd : c = 13 ∧ r.head? = some 10
          · obtain ⟨rfl, hd⟩ := hd
            cases r with
            | nil => simp at hd
            | cons d r =>
              simp only [List.head?_cons, Option.some.injEq] at hd
              subst hd
              simp only [List.length_cons] at h
              exact h1 r (ih r (by omega))
          · exact h2 c r hc (fun e f => hd ⟨e, f⟩) (ih r (by omega))
        · exact h3 c r hc (ih r (by omega))
  exact this r.length r (Nat.le_refl _)
theorem nrm_len (r : Str) : (nrm r).1.length = r.length + (nrm r).2 := by
  refine nrm_ways (fun r => (nrm r).1.length = r.length + (nrm r).2) rfl ?_ ?_ ?_ r
  · intro r ih; rw [nrm_whole]; simp only [List.length_cons, ih]; omega
  · intro c r h h2 ih; rw [nrm_bare c r h h2]; simp only [List.length_cons, ih]; omega
  · intro c r h ih; rw [nrm_other c r h]; simp only [List.length_cons, ih]; omega
theorem nrm_le (r : Str) : (nrm r).2 ≤ r.length := by
  refine nrm_ways (fun r => (nrm r).2 ≤ r.length) (Nat.le_refl _) ?_ ?_ ?_ r
  · intro r ih; rw [nrm_whole]; simp only [List.length_cons]; omega
  · intro c r h h2 ih; rw [nrm_bare c r h h2]; simp only [List.length_cons]; omega
  · intro c r h ih; rw [nrm_other c r h]; simp only [List.length_cons]; omega
theorem nrm_zero (r : Str) : (nrm r).2 = 0 ↔ (nrm r).1 = r := by
  constructor
  · refine nrm_ways (fun r => (nrm r).2 = 0 → (nrm r).1 = r) (fun _ => rfl) ?_ ?_ ?_ r
    · intro r ih h; rw [nrm_whole] at h ⊢; simp only at h ⊢; rw [ih h]
    · intro c r h h2 ih hh; rw [nrm_bare c r h h2] at hh; simp at hh
    · intro c r h ih hh; rw [nrm_other c r h] at hh ⊢; simp only at hh ⊢; rw [ih hh]
  · intro h
    have := nrm_len r
    rw [h] at this; omega
/-- What stands behind something that is no second half of an end. -/
theorem nrm_append (a b : Str) (h : b.head? ≠ some 10 ∨ (nrm a).2 = 0) : nrm (a ++ b) = ((nrm a).1 ++ (nrm b).1, (nrm a).2 + (nrm b).2) := by
  revert h
  refine nrm_ways (fun a => (b.head? ≠ some 10 ∨ (nrm a).2 = 0) → nrm (a ++ b) = ((nrm a).1 ++ (nrm b).1, (nrm a).2 + (nrm b).2)) ?_ ?_ ?_ ?_ a
  · intro _; simp [nrm]
  · intro r ih h
    rw [nrm_whole] at h ⊢
    rw [List.cons_append, List.cons_append, nrm_whole, ih h]; rfl
  · intro c r hc h2 ih h
    rw [nrm_bare c r hc h2] at h ⊢
    have hb : b.head? ≠ some 10 := by
      rcases h with h | h
      · exact h
      · simp at h
    rw [List.cons_append, nrm_bare c (r ++ b) hc (fun e => by
      cases r with
      | nil => exact hb
      | cons d r => exact h2 e), ih (Or.inl hb)]
    simp only [List.cons_append]; congr 1; omega
  · intro c r hc ih h
    rw [nrm_other c r hc] at h ⊢
    rw [List.cons_append, nrm_other c (r ++ b) hc, ih h]; rfl
theorem nrm_nrm (r : Str) : nrm (nrm r).1 = ((nrm r).1, 0) := by
  refine nrm_ways (fun r => nrm (nrm r).1 = ((nrm r).1, 0)) rfl ?_ ?_ ?_ r
  · intro r ih; rw [nrm_whole]; simp only; rw [nrm_whole, ih]
  · intro c r h h2 ih; rw [nrm_bare c r h h2]; simp only; rw [nrm_whole, ih]
  · intro c r h ih; rw [nrm_other c r h]; simp only; rw [nrm_other c _ h, ih]

theorem bytes_end : bytesOf (⟨#[13, 10]⟩ : ByteArray) = zn [13, 10] := rfl

theorem impl_normal_loop (s : ByteArray) (hs : s.size ≤ 1000000000) (r : Str) : ∀ (p acc : Str) (c : Nat), L s = p ++ r → acc.length ≤ 2 * p.length → c ≤ p.length → Ev (fun k => impl_normal.l0 k s (zn acc) (c : Int) (p.length : Int)) (ofL (acc ++ (nrm r).1), ((c + (nrm r).2 : Nat) : Int)) := by
  refine nrm_ways (fun r => ∀ (p acc : Str) (c : Nat), L s = p ++ r → acc.length ≤ 2 * p.length → c ≤ p.length → Ev (fun k => impl_normal.l0 k s (zn acc) (c : Int) (p.length : Int)) (ofL (acc ++ (nrm r).1), ((c + (nrm r).2 : Nat) : Int))) ?_ ?_ ?_ ?_ r
  · intro p acc c h ha hc
    have hz := size_L s
    rw [h] at hz
    simp only [List.append_nil] at hz
    refine ev_succ ?_
    simp only [impl_normal.l0]
    refine ev_neg (by omega) ?_
    rw [strOfNums_zn]
    exact ev_eq (ev_some _) (by simp [nrm])
  · intro r ih p acc c h ha hc
    have hz := size_L s
    rw [h] at hz
    simp only [List.length_append, List.length_cons] at hz
    have e1 : bt s (p.length : Int) = 13 := bt_at_cons h
    have h' : L s = (p ++ [13]) ++ 10 :: r := by rw [h]; simp
    have e2 : bt s ((p ++ [13]).length : Int) = 10 := bt_at_cons h'
    have e3 : (((p ++ [13]).length : Nat) : Int) = (p.length : Int) + 1 := by simp
    have w1 : wrap64 ((p.length : Int) + 1) = (p.length : Int) + 1 := wrap_id (by omega) (by omega)
    have w2 : wrap64 ((p.length : Int) + 1 + 1) = (p.length : Int) + 1 + 1 := wrap_id (by omega) (by omega)
    rw [e3] at e2
    refine ev_succ ?_
    simp only [impl_normal.l0, w1, e1, e2]
    refine ev_pos (by omega) (ev_pos (by omega) (ev_pos (by decide) (ev_pos (by omega) (ev_pos (by omega) (ev_succ ?_)))))
    simp only [impl_normal.j1, w1, w2, bytes_end]
    refine ev_pos (by decide) (ev_pos (by rw [zn_length]; omega) ?_)
    have := ih (p ++ [13, 10]) (acc ++ [13, 10]) c (by rw [h]; simp) (by simp; omega) (by simp; omega)
    rw [zn_append] at this
    rw [nrm_whole]
    have e4 : (((p ++ [13, 10]).length : Nat) : Int) = (p.length : Int) + 1 + 1 := by rw [List.length_append, Int.natCast_add]; simp only [List.length_cons, List.length_nil]; omega
    rw [e4] at this
    refine ev_eq this ?_
    rw [List.append_assoc]; rfl
  · intro x r hx h2 ih p acc c h ha hc
    have hz := size_L s
    rw [h] at hz
    simp only [List.length_append, List.length_cons] at hz
    have e1 := bt_at_cons h
    have w1 : wrap64 ((p.length : Int) + 1) = (p.length : Int) + 1 := wrap_id (by omega) (by omega)
    have w2 : wrap64 ((c : Int) + 1) = (c : Int) + 1 := wrap_id (by omega) (by omega)
    have e4 : (((p ++ [x]).length : Nat) : Int) = (p.length : Int) + 1 := by simp
    have hj : Ev (fun k => impl_normal.j1 k s (zn acc) (c : Int) (p.length : Int) false) (ofL (acc ++ (nrm (x :: r)).1), ((c + (nrm (x :: r)).2 : Nat) : Int)) := by
      refine ev_succ ?_
      simp only [impl_normal.j1, w1, w2, e1, bytes_end]
      have := ih (p ++ [x]) (acc ++ [13, 10]) (c + 1) (by rw [h]; simp) (by simp; omega) (by simp; omega)
      rw [zn_append, e4] at this
      rw [nrm_bare x r hx h2]
      have this : Ev (fun k => impl_normal.l0 k s (zn acc ++ zn [13, 10]) ((c : Int) + 1) ((p.length : Int) + 1)) (ofL (acc ++ (13 :: 10 :: (nrm r).1)), ((c + ((nrm r).2 + 1) : Nat) : Int)) := by
        have e : c + 1 + (nrm r).2 = c + ((nrm r).2 + 1) := by omega
        rw [← e]
        simpa using this
      refine ev_neg (by decide) (ev_pos (by omega) (ev_pos (by omega) ?_))
      rcases hx with rfl | rfl
      · exact ev_pos (by decide) (ev_pos (by rw [zn_length]; omega) this)
      · exact ev_neg (by decide) (ev_pos (by decide) (ev_pos (by rw [zn_length]; omega) this))
    refine ev_succ ?_
    simp only [impl_normal.l0, w1, e1]
    refine ev_pos (by omega) (ev_pos (by omega) ?_)
    rcases hx with rfl | rfl
    · refine ev_pos (by decide) ?_
      cases r with
      | nil => exact ev_neg (by simp at hz; omega) hj
      | cons d r =>
        have h' : L s = (p ++ [13]) ++ d :: r := by rw [h]; simp
        have e2 := bt_at_cons h'
        rw [e4] at e2
        simp only [List.length_cons] at hz
        refine ev_pos (by omega) (ev_pos (by omega) ?_)
        have : (bt s ((p.length : Int) + 1) == 10) = false := by
          rw [e2]
          have h3 := h2 rfl
          simp only [List.head?_cons, ne_eq, Option.some.injEq] at h3
          rw [beq_eq_false_iff_ne]
          exact fun h4 => h3 ((u8_eq d 10 (by omega)).mp h4)
        rw [this]
        exact hj
    · exact ev_neg (by decide) hj
  · intro x r hx ih p acc c h ha hc
    have hz := size_L s
    rw [h] at hz
    simp only [List.length_append, List.length_cons] at hz
    have e1 := bt_at_cons h
    have w1 : wrap64 ((p.length : Int) + 1) = (p.length : Int) + 1 := wrap_id (by omega) (by omega)
    have e4 : (((p ++ [x]).length : Nat) : Int) = (p.length : Int) + 1 := by simp
    have n1 : ¬ (x.toNat : Int) = 13 := fun h4 => hx (Or.inl ((u8_eq x 13 (by omega)).mp h4))
    have n2 : ¬ (x.toNat : Int) = 10 := fun h4 => hx (Or.inr ((u8_eq x 10 (by omega)).mp h4))
    refine ev_succ ?_
    simp only [impl_normal.l0, w1, e1]
    refine ev_pos (by omega) (ev_pos (by omega) (ev_neg n1 (ev_succ ?_)))
    simp only [impl_normal.j1, w1, e1]
    refine ev_neg (by decide) (ev_pos (by omega) (ev_pos (by omega) (ev_neg n1 (ev_neg n2 (ev_pos (by rw [zn_length]; omega) ?_)))))
    have := ih (p ++ [x]) (acc ++ [x]) c (by rw [h]; simp) (by simp; omega) (by simp; omega)
    rw [zn_append, e4] at this
    rw [nrm_other x r hx]
    simpa [zn] using this
theorem impl_normal_ev (s : ByteArray) (hs : s.size ≤ 1000000000) : Ev (fun k => impl_normal.f k s) (ofL (nrm (L s)).1, (((nrm (L s)).2 : Nat) : Int)) := by
  have := impl_normal_loop s hs (L s) [] [] 0 rfl (by simp) (by simp)
  unfold impl_normal.f
  refine ev_eq this ?_
  rw [List.nil_append, Nat.zero_add]

theorem impl_CountBare_ev (s : ByteArray) (hs : s.size ≤ 1000000000) : Ev (fun k => impl_CountBare.f k s) (((nrm (L s)).2 : Nat) : Int) := by
  unfold impl_CountBare.f
  exact ev_bind (impl_normal_ev s hs) (ev_some _)

theorem impl_NormalText_ev (s : ByteArray) (hs : s.size ≤ 1000000000) : Ev (fun k => impl_NormalText.f k s) (ofL (nrm (L s)).1) := by
  unfold impl_NormalText.f
  exact ev_bind (impl_normal_ev s hs) (ev_some _)

theorem nrm_free (x t : Str) (h : ∀ c ∈ x, c ≠ 13) (h2 : ∀ c ∈ x, c ≠ 10) : nrm (x ++ t) = (x ++ (nrm t).1, (nrm t).2) := by
  induction x with
  | nil => rfl
  | cons c x ih =>
    rw [List.cons_append, nrm_other c _ (fun hh => hh.elim (h c (by simp)) (h2 c (by simp))), ih (fun d hd => h d (by simp [hd])) (fun d hd => h2 d (by simp [hd]))]
    rfl
theorem ws_stuffs {ls : List Str} {s : Str} (h : stuffs ls [] = some s) : ws s = (ls.map stf ++ [[46]], []) ∧ nrm s = (s, 0) := by
  obtain ⟨h1, h2⟩ := stuffs_body ls [] s h
  rw [List.nil_append] at h1
  subst h1
  clear h
  induction ls with
  | nil => exact ⟨rfl, rfl⟩
  | cons c r ih =>
    obtain ⟨i1, i2⟩ := ih (fun l hl => h2 l (by simp [hl]))
    have hc := h2 c (by simp)
    have e : sbody (c :: r) ++ [46, 13, 10] = stf c ++ 13 :: 10 :: (sbody r ++ [46, 13, 10]) := by simp [sbody]
    rw [e]
    refine ⟨?_, ?_⟩
    · rw [ws_some _ (stf c) (sbody r ++ [46, 13, 10]) (cutE_free _ _ (stf_no hc 13 (by decide))), i1]; rfl
    · rw [nrm_free _ _ (stf_no hc 13 (by decide)) (stf_no hc 10 (by decide)), nrm_whole, i2]
theorem FnStuffBare : laws_FnStuffBare.Pure := by
  intro l hlen hlen2 h
  apply ev_rounds
  unfold laws_FnStuffBare.f
  by_cases hc : (l.length : Int) > 1048576
  · exact ev_pos hc (ev_some _)
  · obtain ⟨ls, hd, hn, hx⟩ := DrawStuffLines_ev l h
    have i1 := impl_StuffLines_ev ls (fun x hx' => by have := hx x hx'; omega) (by omega)
    have i2 := spec_StuffLines_ev ls (fun x hx' => by have := hx x hx'; omega) (by omega)
    refine ev_neg hc (ev_bind hd (ev_bind i1 (ev_bind i2 (ev_pos rfl (ev_neg (by simp) (ev_succ ?_))))))
    simp only [laws_FnStuffBare.j0]
    cases e : stuffs ls [] with
    | none => exact ev_pos rfl (ev_pos trivial (ev_eq (ev_some _) (by simp)))
    | some s =>
      obtain ⟨h1, h2, h3⟩ := stuffs_some ls [] s e
      clear h1 h3
      obtain ⟨hw, hnr⟩ := ws_stuffs e
      have i3 := impl_CountBare_ev (ofL s) (by rw [size_ofL]; omega)
      have i4 := impl_NormalText_ev (ofL s) (by rw [size_ofL]; omega)
      rw [L_ofL, hnr] at i3 i4
      have w1 : wrap64 ((ls.length : Int) + 1) = (ls.length : Int) + 1 := wrap_id (by omega) (by omega)
      have sw := impl_SplitWire_eq s (by omega)
      rw [hw] at sw
      have e1 : rdOf ByteArray.empty ((ls.map stf ++ [[46]]).map ofL) (ls.length : Int) = ofL [46] := by
        have := rdOf_mid ByteArray.empty ((ls.map stf).map ofL) [] (ofL [46])
        rw [List.length_map, List.length_map] at this
        rw [List.map_append]; exact this
      simp only [sres]
      refine ev_neg (by simp) (ev_bind0 sw (ev_bind i3 (ev_pos rfl (ev_bind i4 (ev_pos rfl (ev_pos (by simp [toList_ofL]) ?_))))))
      simp only [List.length_map, w1, List.length_append, List.length_singleton, e1]
      exact ev_pos (by omega) (ev_pos (by omega) (ev_pos (by omega) (ev_eq (ev_some _) (by simp [toList_ofL]))))

end Go.Proofs.YthlgdfjckhjiaaaDoor.Pure
