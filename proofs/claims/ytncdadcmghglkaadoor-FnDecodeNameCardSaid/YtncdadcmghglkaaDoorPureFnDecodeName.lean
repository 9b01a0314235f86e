/- Proved here: the pure form of the law FnDecodeName (one way is used for each name) returns true for all arguments; conditions: none beyond those that the printed statement bears. -/
import Derived.Test.YtncdadcmghglkaaDoorPFnDecodeNamex8
import Derived.Test.YtncdadcmghglkaaDoorVFnDecodeNameZbt
-- dense
namespace Go.Proofs.YtncdadcmghglkaaDoor.Pure
open Go.RowKit Go.Proofs.YtncdadcmghglkaaDoor.X Go.Proofs.YtncdadcmghglkaaDoor.PFnDecodeName Go.Proofs.YtncdadcmghglkaaDoorW.PrintWords Go.Proofs.YtncdadcmghglkaaDoorW.PrintLast Go.Proofs.YtncdadcmghglkaaDoor.Z
set_option linter.unusedVariables false
set_option linter.unusedSimpArgs false

/-! The reader of draws. -/
theorem xor_nonneg (a b : Nat) (ha : a < 9223372036854775808) (hb : b < 9223372036854775808) : Go.bits .xor .i64 (a : Int) (b : Int) = ((a ^^^ b : Nat) : Int) := by
 have hx : a ^^^ b < 2 ^ 63 := Nat.xor_lt_two_pow (by omega) (by omega)
 have h1 : (BitVec.ofInt 64 (a : Int)).toNat = a := by
  rw [BitVec.ofInt_natCast, BitVec.toNat_ofNat]; exact Nat.mod_eq_of_lt (by omega)
 have h2 : (BitVec.ofInt 64 (b : Int)).toNat = b := by
  rw [BitVec.ofInt_natCast, BitVec.toNat_ofNat]; exact Nat.mod_eq_of_lt (by omega)
 show IntKind.i64.wrap ((BitVec.ofInt 64 (a : Int) ^^^ BitVec.ofInt 64 (b : Int)).toNat : Int) = _
 rw [BitVec.toNat_xor, h1, h2]
 rw [i64_w]
 exact wrap_id (by omega) (by omega)
theorem tmod_in {a b : Int} (ha : 0 ≤ a) (hb : 1 ≤ b) : 0 ≤ Int.tmod a b ∧ Int.tmod a b < b := by
 rw [Int.tmod_eq_emod_of_nonneg ha]
 exact ⟨Int.emod_nonneg _ (by omega), Int.emod_lt_of_pos _ (by omega)⟩
/-- What is known of the bytes that are drawn from. -/
def IsB (l : List Int) : Prop := l.length ≤ 2000 ∧ ∀ x ∈ l, 0 ≤ x ∧ x ≤ 255
theorem rd_in {l : List Int} (h : IsB l) (i : Int) : 0 ≤ rd l i ∧ rd l i ≤ 255 := by
 unfold rd
 rw [List.getD_eq_getElem?_getD]
 cases e : l[i.toNat]? with
 | none => simp
 | some x => exact h.2 x (List.mem_of_getElem? e)
theorem pick_ev (l : List Int) (p n : Int) (hl : IsB l) (h0 : 0 ≤ p) (h1 : p ≤ 1000000000) (hn : 1 ≤ n) (hn2 : n ≤ 1000000000) :
  ∃ v, Ev (fun k => spec_l13Rd_pick.f k l p n) (v, p + 1) ∧ 0 ≤ v ∧ v < n := by
 have hw : wrap64 (p + 1) = p + 1 := wrap_id (by omega) (by omega)
 have hw2 : wrap64 (p + 1 - 1) = p := by rw [wrap_id (by omega) (by omega)]; omega
 have hlen := hl.1
 unfold spec_l13Rd_pick.f
 rw [hw]
 by_cases he : (l.length : Int) = 0
 ·
  refine ⟨0, ev_neg (by omega) (ev_succ ?_), by omega, by omega⟩
  simp only [spec_l13Rd_pick.j0]
  refine ev_pos ?_ (ev_some _)
  rw [he]; rfl
 have hb : ((l.length : Int) == 0) = false := by simp at he ⊢; exact he
 rw [hb]
 by_cases hlt : p < (l.length : Int)
 ·
  have hv := tmod_in (rd_in hl p).1 hn
  have hr : wrap64 (rd l p) = rd l p := by have := rd_in hl p; exact wrap_id (by omega) (by omega)
  refine ⟨Int.tmod (rd l p) n, ev_neg (by omega) (ev_succ ?_), hv.1, hv.2⟩
  simp only [spec_l13Rd_pick.j0, hw2, hr]
  exact ev_neg (by simp) (ev_pos hlt (ev_pos h0 (ev_neg (by omega) (ev_some _))))
 ·
  have hq := tmod_in h0 (b := (l.length : Int)) (by omega)
  have hm : wrap64 (wrap64 (p * 7) + 3) = p * 7 + 3 := by rw [wrap_id (x := p * 7) (by omega) (by omega), wrap_id (by omega) (by omega)]
  have hq2 := tmod_in (a := p * 7 + 3) (by omega) (b := (l.length : Int)) (by omega)
  have r1 := rd_in hl (Int.tmod p l.length)
  have r2 := rd_in hl (Int.tmod (p * 7 + 3) l.length)
  generalize hA : rd l (Int.tmod p l.length) = A at r1
  generalize hB : rd l (Int.tmod (p * 7 + 3) l.length) = B at r2
  have hd : 0 ≤ Int.tdiv p l.length ∧ Int.tdiv p l.length ≤ p := by
   rw [Int.tdiv_eq_ediv_of_nonneg h0]
   refine ⟨Int.ediv_nonneg h0 (by omega), Int.ediv_le_self _ h0⟩
  generalize hD : Int.tdiv p l.length = D at hd
  have w1 : wrap64 A = A := wrap_id (by omega) (by omega)
  have w2 : wrap64 B = B := wrap_id (by omega) (by omega)
  have w3 : wrap64 (A * 131) = A * 131 := wrap_id (by omega) (by omega)
  have w4 : wrap64 (B * 1117) = B * 1117 := wrap_id (by omega) (by omega)
  have w5 : wrap64 (A * 131 + B * 1117) = A * 131 + B * 1117 := wrap_id (by omega) (by omega)
  have w6 : wrap64 (p * 29) = p * 29 := wrap_id (by omega) (by omega)
  have w7 : wrap64 (A * 131 + B * 1117 + p * 29) = A * 131 + B * 1117 + p * 29 := wrap_id (by omega) (by omega)
  have w8 : wrap64 D = D := wrap_id (by omega) (by omega)
  have w9 : wrap64 (D * 53) = D * 53 := wrap_id (by omega) (by omega)
  have w10 : wrap64 (A * 131 + B * 1117 + p * 29 + D * 53) = A * 131 + B * 1117 + p * 29 + D * 53 := wrap_id (by omega) (by omega)
  have hX : 0 ≤ A * 131 + B * 1117 + p * 29 + D * 53 ∧ A * 131 + B * 1117 + p * 29 + D * 53 < 9223372036854775808 := by omega
  generalize hXX : A * 131 + B * 1117 + p * 29 + D * 53 = X at hX w10
  have hX2 : 0 ≤ Int.tdiv X 64 ∧ Int.tdiv X 64 ≤ X := by
   rw [Int.tdiv_eq_ediv_of_nonneg hX.1]
   refine ⟨Int.ediv_nonneg hX.1 (by omega), Int.ediv_le_self _ hX.1⟩
  have w11 : wrap64 (Int.tdiv X 64) = Int.tdiv X 64 := wrap_id (by omega) (by omega)
  have hxor : 0 ≤ Go.bits .xor .i64 X (Int.tdiv X 64) := by
   obtain ⟨a, ha⟩ := Int.eq_ofNat_of_zero_le hX.1
   obtain ⟨b, hb⟩ := Int.eq_ofNat_of_zero_le hX2.1
   rw [hb, ha, xor_nonneg _ _ (by omega) (by omega)]
   omega
  have hv := tmod_in hxor hn
  refine ⟨Int.tmod (Go.bits .xor .i64 X (Int.tdiv X 64)) n, ev_neg (by omega) (ev_succ ?_), hv.1, hv.2⟩
  simp only [spec_l13Rd_pick.j0, hw2, hm, hA, hB, hD, w1, w2, w3, w4, w5, w6, w7, w8, w9, hXX, w10, w11]
  exact ev_neg (by simp) (ev_neg hlt (ev_neg he (ev_pos hq.1 (ev_pos hq.2 (ev_pos hq2.1 (ev_pos hq2.2 (ev_neg (by omega) (ev_some _))))))))
theorem isB_take {l : List Int} (h : ∀ x ∈ l, (Lit.int .u8 x).wf = true) (n : Nat) (hn : (l.take n).length ≤ 2000) : IsB (l.take n) := by
 refine ⟨hn, fun x hx => ?_⟩
 have := h x (List.mem_of_mem_take hx)
 simp [Lit.wf, IntKind.min, IntKind.max, IntKind.bits, IntKind.signed] at this
 omega
theorem of_ev (l : List Int) (p : Int) (ws : List ByteArray) (hl : IsB l) (h0 : 0 ≤ p) (h1 : p ≤ 1000000000) (hn : 1 ≤ ws.length) (hn2 : ws.length ≤ 1000000) :
  ∃ v, Ev (fun k => spec_l13Rd_of.f k l p ws) (v, p + 1) ∧ v ∈ ws := by
 obtain ⟨i, hi, i0, i1⟩ := pick_ev l p ws.length hl h0 h1 (by omega) (by omega)
 have hlt : i.toNat < ws.length := by omega
 refine ⟨rdOf ByteArray.empty ws i, ?_, ?_⟩
 ·
  unfold spec_l13Rd_of.f
  exact ev_bind hi (ev_pos i0 (ev_pos i1 (ev_some _)))
 ·
  unfold rdOf
  rw [List.getD_eq_getElem?_getD, List.getElem?_eq_getElem hlt]
  exact List.getElem_mem hlt
theorem num_ev (l : List Int) (p : Int) (ws : List Int) (hl : IsB l) (h0 : 0 ≤ p) (h1 : p ≤ 1000000000) (hn : 1 ≤ ws.length) (hn2 : ws.length ≤ 1000000) :
  ∃ v, Ev (fun k => spec_l13Rd_num.f k l p ws) (v, p + 1) ∧ v ∈ ws := by
 obtain ⟨i, hi, i0, i1⟩ := pick_ev l p ws.length hl h0 h1 (by omega) (by omega)
 have hlt : i.toNat < ws.length := by omega
 refine ⟨rd ws i, ?_, ?_⟩
 ·
  unfold spec_l13Rd_num.f
  exact ev_bind hi (ev_pos i0 (ev_pos i1 (ev_some _)))
 ·
  unfold rd
  rw [List.getD_eq_getElem?_getD, List.getElem?_eq_getElem hlt]
  exact List.getElem_mem hlt
theorem open_ev (l : List Int) (h : ∀ x ∈ l, (Lit.int .u8 x).wf = true) : ∃ l', spec_l13Open.f l = some (l', 0) ∧ IsB l' := by
 unfold spec_l13Open.f
 by_cases hc : (l.length : Int) > 2000
 ·
  refine ⟨l.take 2000, ?_, isB_take h 2000 (by rw [List.length_take]; omega)⟩
  rw [if_pos hc, if_pos (by omega)]
 ·
  refine ⟨l, by rw [if_neg hc], ?_⟩
  have := isB_take h l.length (by rw [List.take_length]; omega)
  rwa [List.take_length] at this

theorem mem_L {v : ByteArray} {ws : List ByteArray} (h : v ∈ ws) : L v ∈ ws.map L := List.mem_map_of_mem h
theorem small_nat {n : Int} {ws : List Int} (h : n ∈ ws) (m : Nat) (hm : ∀ x ∈ ws, 0 ≤ x ∧ x ≤ (m : Int)) : ∃ k : Nat, n = (k : Int) ∧ k ≤ m := by
 have := hm n h
 exact ⟨n.toNat, by omega, by omega⟩

/-! Letters and digits, boundaries: the model. -/
def letB (c : UInt8) : Bool := decide (97 ≤ (c.toNat : Int) ∧ (c.toNat : Int) ≤ 122) || decide (65 ≤ (c.toNat : Int) ∧ (c.toNat : Int) ≤ 90)
def digB (c : UInt8) : Bool := decide (48 ≤ (c.toNat : Int) ∧ (c.toNat : Int) ≤ 57)
def alnB (c : UInt8) : Bool := letB c || digB c
def isBd (l : Str) : Bool := decide (1 ≤ l.length) && decide (l.length ≤ 20) && l.all alnB
theorem isBd_len {l : Str} (h : isBd l = true) : l.length ≤ 20 := by
 unfold isBd at h; simp at h; exact h.1.2

/-! Texts: the model. -/
def okB (c : UInt8) : Bool := 32 ≤ c && c ≤ 126
def tvalid (l : Str) : Bool := l.all okB && decide (l.length ≤ 200)
theorem okB_lo (c : UInt8) (h : (c.toNat : Int) < 32) : okB c = false := by
 have : c < 32 := (u8_lt c 32 (by omega)).mp h
 unfold okB
 simp [UInt8.le_iff_toNat_le, UInt8.lt_iff_toNat_lt] at this ⊢
 omega
theorem okB_hi (c : UInt8) (h : (c.toNat : Int) > 126) : okB c = false := by
 unfold okB
 simp [UInt8.le_iff_toNat_le, UInt8.lt_iff_toNat_lt]
 omega
theorem okB_mid (c : UInt8) (h : ¬ (c.toNat : Int) < 32) (h2 : ¬ (c.toNat : Int) > 126) : okB c = true := by
 unfold okB
 simp [UInt8.le_iff_toNat_le, UInt8.lt_iff_toNat_lt]
 omega
theorem tvalid_len {l : Str} (h : tvalid l = true) : l.length ≤ 200 := by
 unfold tvalid at h; simp at h; exact h.2

theorem impl_TextValid_loop (l : Str) (hl : l.length ≤ 1000000000000000) (r : Str) : ∀ (p : Str), l = p ++ r → Ev (fun k => impl_TextValid.l0 k (ofL l) (l.length : Int) (p.length : Int)) (r.all okB && decide (l.length ≤ 200)) := by
 induction r with
 | nil =>
  intro p h
  have hz : l.length = p.length := by rw [h, List.append_nil]
  refine ev_succ ?_
  simp only [impl_TextValid.l0, size_ofL]
  repeat (first | refine ev_pos (by first | assumption | omega | decide) ?_ | refine ev_neg (by first | assumption | omega | decide) ?_)
  exact ev_eq (ev_some _) (by simp; omega)
 | cons c r ih =>
  intro p h
  have hz : l.length = p.length + (r.length + 1) := by rw [h]; simp
  have e1 : bt (ofL l) (p.length : Int) = (c.toNat : Int) := by rw [h]; exact bt_mid p r c
  have := ih (p ++ [c]) (by rw [h]; simp)
  rw [len_snoc] at this
  refine ev_succ ?_
  simp (disch := omega) only [impl_TextValid.l0, size_ofL, e1, wrap_id]
  by_cases h1 : (c.toNat : Int) < 32
  ·
   repeat (first | refine ev_pos (by first | assumption | omega | decide) ?_ | refine ev_neg (by first | assumption | omega | decide) ?_)
   exact ev_eq (ev_some _) (by simp [okB_lo c h1])
  ·
   by_cases h2 : (c.toNat : Int) > 126
   ·
    repeat (first | refine ev_pos (by first | assumption | omega | decide) ?_ | refine ev_neg (by first | assumption | omega | decide) ?_)
    exact ev_eq (ev_some _) (by simp [okB_hi c h2])
   ·
    repeat (first | refine ev_pos (by first | assumption | omega | decide) ?_ | refine ev_neg (by first | assumption | omega | decide) ?_)
    exact ev_eq this (by simp [okB_mid c h1 h2])
theorem impl_TextValid_ev (l : Str) (hl : l.length ≤ 1000000000000000) : Ev (fun k => impl_TextValid.f k (ofL l)) (tvalid l) := by
 unfold impl_TextValid.f
 rw [size_ofL]
 exact impl_TextValid_loop l hl l [] rfl

theorem spec_TextValid_loop (l : Str) (hl : l.length ≤ 1000000000000000) (r : Str) : ∀ (p : Str), l = p ++ r → Ev (fun k => spec_TextValid.l0 k (ofL l) (p.length : Int)) (r.all okB && decide (l.length ≤ 200)) := by
 induction r with
 | nil =>
  intro p h
  have hz : l.length = p.length := by rw [h, List.append_nil]
  refine ev_succ ?_
  simp only [spec_TextValid.l0, size_ofL]
  repeat (first | refine ev_pos (by first | assumption | omega | decide) ?_ | refine ev_neg (by first | assumption | omega | decide) ?_)
  refine ev_succ ?_
  simp only [spec_TextValid.j1, size_ofL]
  repeat (first | refine ev_pos (by first | assumption | omega | decide) ?_ | refine ev_neg (by first | assumption | omega | decide) ?_)
  exact ev_eq (ev_some _) (by simp; omega)
 | cons c r ih =>
  intro p h
  have hz : l.length = p.length + (r.length + 1) := by rw [h]; simp
  have e1 : bt (ofL l) (p.length : Int) = (c.toNat : Int) := by rw [h]; exact bt_mid p r c
  have := ih (p ++ [c]) (by rw [h]; simp)
  rw [len_snoc] at this
  by_cases h0 : (p.length : Int) ≤ 200
  ·
   refine ev_succ ?_
   simp only [spec_TextValid.l0, size_ofL]
   repeat (first | refine ev_pos (by first | assumption | omega | decide) ?_ | refine ev_neg (by first | assumption | omega | decide) ?_)
   refine ev_succ ?_
   simp (disch := omega) only [spec_TextValid.j1, size_ofL, e1, wrap_id, decide_eq_true h0]
   by_cases h1 : (c.toNat : Int) < 32
   ·
    repeat (first | refine ev_pos (by first | assumption | omega | decide) ?_ | refine ev_neg (by first | assumption | omega | decide) ?_)
    exact ev_eq (ev_some _) (by simp [okB_lo c h1])
   ·
    by_cases h2 : (c.toNat : Int) > 126
    ·
     repeat (first | refine ev_pos (by first | assumption | omega | decide) ?_ | refine ev_neg (by first | assumption | omega | decide) ?_)
     exact ev_eq (ev_some _) (by simp [okB_hi c h2])
    ·
     repeat (first | refine ev_pos (by first | assumption | omega | decide) ?_ | refine ev_neg (by first | assumption | omega | decide) ?_)
     exact ev_eq this (by simp [okB_mid c h1 h2])
  ·
   refine ev_succ ?_
   simp only [spec_TextValid.l0, size_ofL]
   repeat (first | refine ev_pos (by first | assumption | omega | decide) ?_ | refine ev_neg (by first | assumption | omega | decide) ?_)
   refine ev_succ ?_
   simp only [spec_TextValid.j1, size_ofL, decide_eq_false h0]
   repeat (first | refine ev_pos (by first | assumption | omega | decide) ?_ | refine ev_neg (by first | assumption | omega | decide) ?_)
   have d1 : decide ((l.length : Int) ≤ 200) = false := decide_eq_false (by omega)
   have d2 : decide (l.length ≤ 200) = false := decide_eq_false (by omega)
   exact ev_eq (ev_some _) (by rw [d1, d2, Bool.and_false])
theorem spec_TextValid_ev (l : Str) (hl : l.length ≤ 1000000000000000) : Ev (fun k => spec_TextValid.f k (ofL l)) (tvalid l) := by
 unfold spec_TextValid.f
 exact spec_TextValid_loop l hl l [] rfl

/-! Coded words: the model. -/
theorem u8_all {p : UInt8 → Prop} (h : ∀ n : Nat, n < 256 → p (UInt8.ofNat n)) (c : UInt8) : p c := by
 have := h c.toNat c.toNat_lt
 rwa [UInt8.ofNat_toNat] at this
def hx (n : UInt8) : UInt8 := if n < 10 then 48 + n else 55 + n
def cdB (c : UInt8) : Str := if c = 32 then [95] else if (alnB c || decide (c = 45) || decide (c = 46)) = true then [c] else [61, hx (c / 16), hx (c % 16)]
def cd : Str → Str
 | [] => []
 | c :: r => cdB c ++ cd r
def cb : Str := [61, 63, 117, 116, 102, 45, 56, 63, 113, 63]
def ce : Str := [63, 61]
def cw (b : Str) : Str := cb ++ cd b ++ ce
def cwO (b : Str) : Option Str := if b = [] ∨ b.length > 40 ∨ (cw b).length > 40 then none else some (cw b)
theorem cd_append (a b : Str) : cd (a ++ b) = cd a ++ cd b := by
 induction a with
 | nil => rfl
 | cons c a ih => simp only [List.cons_append, cd, ih, List.append_assoc]
theorem cdB_len (c : UInt8) : 1 ≤ (cdB c).length ∧ (cdB c).length ≤ 3 := by
 unfold cdB
 split
 ·
  exact ⟨by simp, by simp⟩
 ·
  split <;> exact ⟨by simp, by simp⟩
theorem cd_len (b : Str) : b.length ≤ (cd b).length ∧ (cd b).length ≤ 3 * b.length := by
 induction b with
 | nil => exact ⟨Nat.le_refl _, Nat.le_refl _⟩
 | cons c r ih => have := cdB_len c; simp only [cd, List.length_append, List.length_cons]; omega
theorem cw_len (b : Str) : (cw b).length = (cd b).length + 12 := by
 unfold cw cb ce; simp
/-- A byte's code is one of three. -/
theorem cdB_cases (d : UInt8) : (d = 32 ∧ cdB d = [95]) ∨ (cdB d = [d] ∧ d ≠ 95 ∧ d ≠ 61 ∧ d ≠ 32) ∨ cdB d = [61, hx (d / 16), hx (d % 16)] := by
 revert d
 exact u8_all (by decide +kernel)
theorem cdB_no32 (d : UInt8) : ∀ c ∈ cdB d, c ≠ 32 := by
 revert d
 exact u8_all (by decide +kernel)
theorem cd_no32 (b : Str) : ∀ c ∈ cd b, c ≠ 32 := by
 induction b with
 | nil => intro c hc; cases hc
 | cons d r ih =>
  intro c hc
  rcases List.mem_append.mp hc with h | h
  ·
   exact cdB_no32 d c h
  ·
   exact ih c h
theorem cw_no32 (b : Str) : ∀ c ∈ cw b, c ≠ 32 := by
 have h1 : ∀ c ∈ cb, c ≠ 32 := by decide
 have h2 : ∀ c ∈ ce, c ≠ 32 := by decide
 intro c hc
 unfold cw at hc
 rcases List.mem_append.mp hc with h | h
 ·
  rcases List.mem_append.mp h with h | h
  ·
   exact h1 c h
  ·
   exact cd_no32 b c h
 ·
  exact h2 c h
/-- Hexadecimal digits. -/
def vl (c : UInt8) : Int := if 48 ≤ c ∧ c ≤ 57 then ((c - 48).toNat : Int) else if 65 ≤ c ∧ c ≤ 70 then ((c - 55).toNat : Int) else -1
theorem vl_hx (d : UInt8) : vl (hx (d / 16)) = ((d / 16).toNat : Int) ∧ vl (hx (d % 16)) = ((d % 16).toNat : Int) := by
 revert d
 exact u8_all (by decide +kernel)
theorem vl_range (c : UInt8) : -1 ≤ vl c ∧ vl c ≤ 15 := by
 revert c
 exact u8_all (by decide +kernel)
theorem div_mod (d : UInt8) : (16 * ((d / 16).toNat : Int) + ((d % 16).toNat : Int)) % 256 = (d.toNat : Int) := by
 revert d
 exact u8_all (by decide +kernel)
theorem byte_zn (x : Int) (h0 : 0 ≤ x) (h1 : x < 256) : ([x] : List Int) = zn [UInt8.ofNat x.toNat] := by
 unfold zn
 simp only [List.map_cons, List.map_nil, UInt8.toNat_ofNat']
 congr 1
 omega
/-- What has no code. -/
theorem cd_cons {c : UInt8} {r b : Str} (h : c :: r = cd b) : ∃ d b', b = d :: b' ∧ c :: r = cdB d ++ cd b' := by
 cases b with
 | nil => cases h
 | cons d b' => exact ⟨d, b', rfl, h⟩
/-- The code is one to one. -/
theorem cd_inj : ∀ a b : Str, cd a = cd b → a = b := by
 have key : ∀ c d : UInt8, ∀ x y : Str, cdB c ++ x = cdB d ++ y → c = d ∧ x = y := by
  intro c d x y h
  rcases cdB_cases c with ⟨h1, e1⟩ | ⟨e1, h1, h2, h3⟩ | e1 <;> rcases cdB_cases d with ⟨g1, f1⟩ | ⟨f1, g1, g2, g3⟩ | f1 <;> rw [e1, f1] at h <;> simp only [List.cons_append, List.nil_append, List.cons.injEq] at h
  ·
   exact ⟨h1.trans g1.symm, h.2⟩
  ·
   exact absurd h.1.symm g1
  ·
   exact absurd h.1 (by decide)
  ·
   exact absurd h.1 h1
  ·
   exact ⟨h.1, h.2⟩
  ·
   exact absurd h.1 h2
  ·
   exact absurd h.1 (by decide)
  ·
   exact absurd h.1.symm g2
  ·
   obtain ⟨_, p1, p2, p3⟩ := h
   refine ⟨?_, p3⟩
   have q1 := vl_hx c
   have q2 := vl_hx d
   rw [p1] at q1
   rw [p2] at q1
   have r1 := div_mod c
   have r2 := div_mod d
   rw [← q1.1, ← q1.2, q2.1, q2.2, r2] at r1
   exact UInt8.toNat_inj.mp (by omega)
 intro a
 induction a with
 | nil =>
  intro b h
  cases b with
  | nil => rfl
  | cons d b =>
   have := (cdB_len d).1
   have h2 := congrArg List.length h
   simp only [cd, List.length_append, List.length_nil] at h2
   omega
 | cons c a ih =>
  intro b h
  cases b with
  | nil =>
   have := (cdB_len c).1
   have h2 := congrArg List.length h
   simp only [cd, List.length_append, List.length_nil] at h2
   omega
  | cons d b =>
   obtain ⟨h1, h2⟩ := key c d _ _ h
   rw [h1, ih b h2]
theorem cwO_some {b s : Str} (h : cwO b = some s) : s = cw b ∧ b ≠ [] ∧ b.length ≤ 40 ∧ s.length ≤ 40 := by
 unfold cwO at h
 split at h
 ·
  cases h
 ·
  rename_i hn
  cases h
  refine ⟨rfl, fun e => hn (Or.inl e), ?_, ?_⟩ <;> omega
theorem cwO_inj {a b s : Str} (h1 : cwO a = some s) (h2 : cwO b = some s) : a = b := by
 have e := (cwO_some h1).1.symm.trans (cwO_some h2).1
 unfold cw at e
 exact cd_inj a b (List.append_cancel_left (List.append_cancel_right e))
open Classical in
noncomputable def rcw (s : Str) : Option Str := if h : ∃ b, cwO b = some s then some (Classical.choose h) else none
theorem rcw_some {b s : Str} (h : cwO b = some s) : rcw s = some b := by
 unfold rcw
 have hx : ∃ b, cwO b = some s := ⟨b, h⟩
 rw [dif_pos hx]
 exact congrArg some (cwO_inj (Classical.choose_spec hx) h)
theorem rcw_none {s : Str} (h : ∀ b, cwO b ≠ some s) : rcw s = none := by
 unfold rcw
 rw [dif_neg (fun ⟨b, hb⟩ => h b hb)]
theorem rcw_ex (s : Str) : (∃ b, cwO b = some s ∧ rcw s = some b) ∨ ((∀ b, cwO b ≠ some s) ∧ rcw s = none) := by
 by_cases h : ∃ b, cwO b = some s
 ·
  obtain ⟨b, hb⟩ := h
  exact Or.inl ⟨b, hb, rcw_some hb⟩
 ·
  have h2 : ∀ b, cwO b ≠ some s := fun b hb => h ⟨b, hb⟩
  exact Or.inr ⟨h2, rcw_none h2⟩
def cwres : Option Str → ByteArray × Bool
 | none => (ofL [], false)
 | some s => (ofL s, true)
/-! Parts at spaces. -/
def hd1 (c : UInt8) : List Str → List Str
 | [] => [[c]]
 | x :: r => (c :: x) :: r
def spl : Str → List Str
 | [] => [[]]
 | c :: r => if c = 32 then [] :: spl r else hd1 c (spl r)
theorem spl_ne (s : Str) : spl s ≠ [] := by
 cases s with
 | nil => simp [spl]
 | cons c r =>
  rw [spl]
  split
  ·
   simp
  ·
   cases spl r <;> simp [hd1]
theorem spl_free (x : Str) (h : ∀ c ∈ x, c ≠ 32) : spl x = [x] := by
 induction x with
 | nil => rfl
 | cons c x ih => rw [spl, if_neg (h c (by simp)), ih (fun d hd => h d (by simp [hd]))]; rfl
theorem spl_cut (x t : Str) (h : ∀ c ∈ x, c ≠ 32) : spl (x ++ 32 :: t) = x :: spl t := by
 induction x with
 | nil => rw [List.nil_append, spl, if_pos rfl]
 | cons c x ih => rw [List.cons_append, spl, if_neg (h c (by simp)), ih (fun d hd => h d (by simp [hd]))]; rfl
theorem spl_len (s : Str) : (spl s).length ≤ s.length + 1 := by
 induction s with
 | nil => simp [spl]
 | cons c r ih =>
  rw [spl]
  split
  ·
   simp only [List.length_cons]; omega
  ·
   cases e : spl r with
   | nil => simp [hd1]
   | cons y l => rw [e] at ih; simp only [hd1, List.length_cons] at ih ⊢; omega
theorem spl_mem (s : Str) : ∀ x ∈ spl s, x.length ≤ s.length ∧ ∀ c ∈ x, c ∈ s := by
 induction s with
 | nil => intro x hx; simp only [spl, List.mem_singleton] at hx; subst hx; simp
 | cons c r ih =>
  intro x hx
  rw [spl] at hx
  split at hx
  ·
   rcases List.mem_cons.mp hx with rfl | hx
   ·
    simp
   ·
    have := ih x hx; exact ⟨by simp only [List.length_cons]; omega, fun d hd => List.mem_cons_of_mem _ (this.2 d hd)⟩
  ·
   cases e : spl r with
   | nil => exact absurd e (spl_ne r)
   | cons y l =>
    rw [e, hd1] at hx
    rcases List.mem_cons.mp hx with rfl | hx
    ·
     have := ih y (by rw [e]; simp)
     refine ⟨by simp only [List.length_cons]; omega, fun d hd => ?_⟩
     rcases List.mem_cons.mp hd with rfl | hd
     ·
      simp
     ·
      exact List.mem_cons_of_mem _ (this.2 d hd)
    ·
     have := ih x (by rw [e]; exact List.mem_cons_of_mem _ hx)
     exact ⟨by simp only [List.length_cons]; omega, fun d hd => List.mem_cons_of_mem _ (this.2 d hd)⟩
/-! A name read. -/
noncomputable def dgo : List Str → Bool → Bool → Str → Str
 | [], _, _, out => out
 | x :: r, later, coded, out => dgo r true (rcw x).isSome (out ++ (if later = true ∧ ¬ (coded = true ∧ (rcw x).isSome = true) then [32] else []) ++ (rcw x).getD x)
noncomputable def dn (s : Str) : Option Str := if s.length > 600 then none else (let o := dgo (spl s) false false []; if o.length > 120 then none else some o)

/-! Coded words: the program and the reference. -/
theorem spec_l6Byte_eq (c : UInt8) : spec_l6Byte.f (c.toNat : Int) = some (ofL (cdB c)) := by
 revert c
 exact u8_all (by decide +kernel)
theorem impl_codeByte_ev (c : UInt8) : Ev (fun k => impl_codeByte.f k (c.toNat : Int)) (ofL (cdB c)) := by
 have h : impl_codeByte.f 1 (c.toNat : Int) = some (ofL (cdB c)) := by
  revert c
  exact u8_all (by decide +kernel)
 refine ⟨1, fun k hk => ?_⟩
 obtain ⟨m, rfl⟩ : ∃ m, k = m + 1 := ⟨k - 1, by omega⟩
 exact h
theorem spec_l6Code_ev (b : Str) (hb : b.length ≤ 1048576) : Ev (fun k => spec_l6Code.f k (ofL b)) (ofL (cd b)) := by
 have key : ∀ (r p : Str), b = p ++ r → Ev (fun k => spec_l6Code.l0 k (ofL b) (ofL (cd p)) (p.length : Int)) (ofL (cd b)) := by
  intro r
  induction r with
  | nil =>
   intro p h
   rw [List.append_nil] at h
   subst h
   refine ev_succ ?_
   simp only [spec_l6Code.l0, size_ofL]
   exact ev_neg (by omega) (ev_some _)
  | cons c r ih =>
   intro p h
   have hz := len_mid h
   have e1 := bt_ofL_mid h
   have w1 : wrap64 ((p.length : Int) + 1) = ((p ++ [c]).length : Int) := (wrap_id (by omega) (by omega)).trans (by simp)
   have := ih (p ++ [c]) (by rw [h]; simp)
   rw [cd_append] at this
   have l1 := cd_len p
   have l2 := cdB_len c
   refine ev_succ ?_
   simp only [spec_l6Code.l0, e1, w1, size_ofL, spec_l6Byte_eq, Option.bind_some, ofL_append]
   clear e1 w1
   refine ev_pos (by omega) (ev_pos (by omega) (ev_pos (by omega) ?_))
   simpa [cd] using this
 unfold spec_l6Code.f
 exact key b [] rfl
theorem impl_codeWord_ev (b : Str) (hb : b.length ≤ 1048576) : Ev (fun k => impl_codeWord.f k (ofL b)) (ofL (cw b)) := by
 have key : ∀ (r p : Str), b = p ++ r → Ev (fun k => impl_codeWord.l0 k (ofL b) (ofL (cb ++ cd p)) (b.length : Int) (p.length : Int)) (ofL (cw b)) := by
  intro r
  induction r with
  | nil =>
   intro p h
   rw [List.append_nil] at h
   subst h
   have l1 := cd_len b
   have e63 : (⟨#[63, 61]⟩ : ByteArray) = ofL ce := rfl
   refine ev_succ ?_
   simp only [impl_codeWord.l0, size_ofL, e63, ofL_append]
   exact ev_neg (by omega) (ev_pos (by rw [List.length_append, show cb.length = 10 from rfl]; omega) (ev_some _))
  | cons c r ih =>
   intro p h
   have hz := len_mid h
   have e1 := bt_ofL_mid h
   have w1 : wrap64 ((p.length : Int) + 1) = ((p ++ [c]).length : Int) := (wrap_id (by omega) (by omega)).trans (by simp)
   have := ih (p ++ [c]) (by rw [h]; simp)
   rw [cd_append] at this
   have l1 := cd_len p
   have l2 := cdB_len c
   have e10 : cb.length = 10 := rfl
   refine ev_succ ?_
   simp only [impl_codeWord.l0, e1, w1, size_ofL, ofL_append]
   clear e1 w1
   refine ev_pos (by omega) (ev_pos (by omega) (ev_pos (by omega) (ev_bind (impl_codeByte_ev c) ?_)))
   simp only [size_ofL, ofL_append]
   refine ev_pos (by rw [List.length_append]; omega) ?_
   simpa [cd] using this
 unfold impl_codeWord.f
 rw [size_ofL]
 have := key b [] rfl
 rw [cd, List.append_nil] at this
 exact this
theorem impl_CodeWord_ev (b : Str) (hb : b.length ≤ 1048576) : Ev (fun k => impl_CodeWord.f k (ofL b)) (cwres (cwO b)) := by
 have h := impl_codeWord_ev b hb
 unfold impl_CodeWord.f cwO
 rw [size_ofL]
 by_cases h1 : b = []
 ·
  rw [if_pos (show b = [] ∨ b.length > 40 ∨ (cw b).length > 40 from Or.inl h1)]
  exact ev_pos (by rw [h1]; rfl) (ev_eq (ev_some _) rfl)
 ·
  have hn : 0 < b.length := List.length_pos_iff.mpr h1
  by_cases h2 : b.length > 40
  ·
   rw [if_pos (show b = [] ∨ b.length > 40 ∨ (cw b).length > 40 from Or.inr (Or.inl h2))]
   exact ev_neg (by omega) (ev_pos (by omega) (ev_eq (ev_some _) rfl))
  ·
   refine ev_neg (by omega) (ev_neg (by omega) (ev_bind h ?_))
   rw [size_ofL]
   by_cases h3 : (cw b).length > 40
   ·
    rw [if_pos (show b = [] ∨ b.length > 40 ∨ (cw b).length > 40 from Or.inr (Or.inr h3))]
    exact ev_pos (by omega) (ev_eq (ev_some _) rfl)
   ·
    rw [if_neg (show ¬ (b = [] ∨ b.length > 40 ∨ (cw b).length > 40) from fun hh => hh.elim h1 (fun hh => hh.elim h2 h3))]
    exact ev_neg (by omega) (ev_bind h (ev_eq (ev_some _) rfl))
theorem spec_CodeWord_ev (b : Str) (hb : b.length ≤ 1048576) : Ev (fun k => spec_CodeWord.f k (ofL b)) (cwres (cwO b)) := by
 have h := spec_l6Code_ev b hb
 have bad : Ev (fun k => spec_CodeWord.j0 k (ofL b) true) (cwres none) := by
  refine ev_succ ?_
  simp only [spec_CodeWord.j0]
  exact ev_pos trivial (ev_eq (ev_some _) rfl)
 unfold spec_CodeWord.f cwO
 rw [size_ofL]
 by_cases h1 : b = []
 ·
  rw [if_pos (show b = [] ∨ b.length > 40 ∨ (cw b).length > 40 from Or.inl h1)]
  exact ev_pos (by rw [h1]; decide) bad
 ·
  have hn : 0 < b.length := List.length_pos_iff.mpr h1
  refine ev_neg (by omega) ?_
  by_cases h2 : b.length > 40
  ·
   rw [if_pos (show b = [] ∨ b.length > 40 ∨ (cw b).length > 40 from Or.inr (Or.inl h2)), decide_eq_true (by omega : (b.length : Int) > 40)]
   exact bad
  ·
   rw [decide_eq_false (by omega : ¬ (b.length : Int) > 40)]
   have l1 := cd_len b
   have e61 : (⟨#[61, 63, 117, 116, 102, 45, 56, 63, 113, 63]⟩ : ByteArray) = ofL cb := rfl
   have e63 : (⟨#[63, 61]⟩ : ByteArray) = ofL ce := rfl
   have e4 : cb ++ cd b ++ ce = cw b := rfl
   have l2 := cw_len b
   refine ev_succ ?_
   simp only [spec_CodeWord.j0, e61, e63]
   refine ev_neg (by simp) (ev_bind h ?_)
   simp only [size_ofL, ofL_append, e4]
   refine ev_pos (by omega) (ev_pos (by rw [List.length_append, show cb.length = 10 from rfl]; omega) ?_)
   by_cases h3 : (cw b).length > 40
   ·
    rw [if_pos (show b = [] ∨ b.length > 40 ∨ (cw b).length > 40 from Or.inr (Or.inr h3))]
    exact ev_pos (by omega) (ev_eq (ev_some _) rfl)
   ·
    rw [if_neg (show ¬ (b = [] ∨ b.length > 40 ∨ (cw b).length > 40) from fun hh => hh.elim h1 (fun hh => hh.elim h2 h3))]
    exact ev_neg (by omega) (ev_eq (ev_some _) rfl)
theorem spec_l5Value_ev (c : UInt8) : Ev (fun k => spec_l5Value.f k (c.toNat : Int)) (vl c) := by
 have h : spec_l5Value.f 1 (c.toNat : Int) = some (vl c) := by
  revert c
  exact u8_all (by decide +kernel)
 refine ⟨1, fun k hk => ?_⟩
 obtain ⟨m, rfl⟩ : ∃ m, k = m + 1 := ⟨k - 1, by omega⟩
 exact h
theorem byte_of (x : Int) : 0 ≤ x % 256 ∧ x % 256 < 256 := by omega
/-- The bytes of a code, by the reference: something, and what was coded. -/
theorem spec_l6Bytes_ev (l : Str) (hl : l.length ≤ 1048576) : ∃ o : Option Str, Ev (fun k => spec_l6Bytes.f k (ofL l)) (cwres o) ∧ (∀ x, o = some x → x.length ≤ l.length) ∧ ∀ b, l = cd b → o = some b := by
 have key : ∀ (n : Nat) (r p acc : Str), r.length ≤ n → l = p ++ r → acc.length ≤ p.length → ∃ o : Option Str, Ev (fun k => spec_l6Bytes.l0 k (ofL l) (zn acc) (p.length : Int)) (cwres (o.map (acc ++ ·))) ∧ (∀ x, o = some x → x.length ≤ r.length) ∧ ∀ b, r = cd b → o = some b := by
  intro n
  induction n with
  | zero =>
   intro r p acc h h2 h3
   have : r = [] := List.length_eq_zero_iff.mp (by omega)
   subst this
   rw [List.append_nil] at h2
   subst h2
   refine ⟨some [], ev_succ ?_, fun x hx => by cases hx; simp, fun b hb => ?_⟩
   ·
    simp only [spec_l6Bytes.l0, size_ofL, strOfNums_zn]
    exact ev_neg (by omega) (ev_eq (ev_some _) (by simp [cwres]))
   ·
    rw [cd_inj [] b hb]
  | succ n ih =>
   intro r p acc h h2 h3
   cases r with
   | nil =>
    rw [List.append_nil] at h2
    subst h2
    refine ⟨some [], ev_succ ?_, fun x hx => by cases hx; simp, fun b hb => ?_⟩
    ·
     simp only [spec_l6Bytes.l0, size_ofL, strOfNums_zn]
     exact ev_neg (by omega) (ev_eq (ev_some _) (by simp [cwres]))
    ·
     rw [cd_inj [] b hb]
   | cons c r =>
    simp only [List.length_cons] at h
    have hz := len_mid h2
    have e1 := bt_ofL_mid h2
    have w1 : wrap64 ((p.length : Int) + 1) = ((p.length + 1 : Nat) : Int) := (wrap_id (by omega) (by omega)).trans (by omega)
    have w2 : wrap64 ((p.length : Int) + 2) = ((p.length + 2 : Nat) : Int) := (wrap_id (by omega) (by omega)).trans (by omega)
    have w3 : wrap64 (((p.length + 2 : Nat) : Int) + 1) = ((p.length + 3 : Nat) : Int) := (wrap_id (by omega) (by omega)).trans (by omega)
    have h95 : (c.toNat : Int) = 95 ↔ c = 95 := u8_eq c 95 (by omega)
    have h61 : (c.toNat : Int) = 61 ↔ c = 61 := u8_eq c 61 (by omega)
    have step : ∀ (d : UInt8), (∀ b d0 b', b = d0 :: b' → c :: r = cdB d0 ++ cd b' → d0 = d ∧ r = cd b') → ∃ o : Option Str, Ev (fun k => spec_l6Bytes.l0 k (ofL l) (zn (acc ++ [d])) ((p.length + 1 : Nat) : Int)) (cwres (o.map (acc ++ ·))) ∧ (∀ x, o = some x → x.length ≤ (c :: r).length) ∧ ∀ b, c :: r = cd b → o = some b := by
     intro d hd
     obtain ⟨o, i1, i2, i3⟩ := ih r (p ++ [c]) (acc ++ [d]) (by omega) (by rw [h2]; simp) (by simp; omega)
     rw [List.length_append] at i1
     refine ⟨o.map (d :: ·), ev_eq i1 ?_, fun x hx => ?_, fun b hb => ?_⟩
     ·
      cases o with
      | none => rfl
      | some x => simp [cwres]
     ·
      simp only [Option.map_eq_some_iff] at hx
      obtain ⟨y, hy, rfl⟩ := hx
      have := i2 y hy
      simp only [List.length_cons]; omega
     ·
      obtain ⟨d0, b', rfl, hb2⟩ := cd_cons hb
      obtain ⟨rfl, hr⟩ := hd _ d0 b' rfl hb2
      rw [i3 b' hr]; rfl
    by_cases c1 : (c.toNat : Int) = 95
    ·
     have hc := h95.mp c1
     obtain ⟨o, i1, i2, i3⟩ := step 32 (fun b d0 b' _ hb2 => by
      rcases cdB_cases d0 with ⟨q1, q2⟩ | ⟨q2, q1, _⟩ | q2 <;> rw [q2] at hb2 <;> simp only [List.cons_append, List.nil_append, List.cons.injEq] at hb2
      ·
       exact ⟨q1, hb2.2⟩
      ·
       exact absurd (hb2.1.symm.trans hc) q1
      ·
       rw [hc] at hb2; exact absurd hb2.1 (by decide))
     refine ⟨o, ev_succ ?_, i2, i3⟩
     simp only [spec_l6Bytes.l0, e1, w1, size_ofL, zn_length]
     clear e1 w1 w2 w3
     rw [zn_append] at i1
     exact ev_pos (by omega) (ev_pos (by omega) (ev_pos c1 (ev_pos (by omega) i1)))
    ·
     by_cases c2 : (c.toNat : Int) = 61
     ·
      have hc := h61.mp c2
      have bad : Ev (fun k => spec_l6Bytes.j1 k (ofL l) (zn acc) (p.length : Int) true) (cwres none) := by
       refine ev_succ ?_
       simp only [spec_l6Bytes.j1]
       exact ev_pos trivial (ev_eq (ev_some _) rfl)
      have three : ∀ b, c :: r = cd b → ∃ d0 b', b = d0 :: b' ∧ r = hx (d0 / 16) :: hx (d0 % 16) :: cd b' := by
       intro b hb
       obtain ⟨d0, b', rfl, hb2⟩ := cd_cons hb
       refine ⟨d0, b', rfl, ?_⟩
       rcases cdB_cases d0 with ⟨q1, q2⟩ | ⟨q2, q1, q3, _⟩ | q2 <;> rw [q2] at hb2 <;> simp only [List.cons_append, List.nil_append, List.cons.injEq] at hb2
       ·
        rw [hc] at hb2; exact absurd hb2.1 (by decide)
       ·
        exact absurd (hb2.1.symm.trans hc) q3
       ·
        exact hb2.2
      match r, hz, h2, h, three with
      | [], hz, h2, h, three =>
       refine ⟨none, ev_succ ?_, fun x hx => (by cases hx), fun b hb => ?_⟩
       ·
        simp only [spec_l6Bytes.l0, e1, w1, w2, size_ofL, zn_length]
        clear e1 w1 w2 w3
        simp only [List.length_nil] at hz
        exact ev_pos (by omega) (ev_pos (by omega) (ev_neg c1 (ev_pos c2 (ev_pos (by omega) bad))))
       ·
        obtain ⟨d0, b', _, hr⟩ := three b hb; cases hr
      | [d], hz, h2, h, three =>
       refine ⟨none, ev_succ ?_, fun x hx => (by cases hx), fun b hb => ?_⟩
       ·
        simp only [spec_l6Bytes.l0, e1, w1, w2, size_ofL, zn_length]
        clear e1 w1 w2 w3
        simp only [List.length_cons, List.length_nil] at hz
        exact ev_pos (by omega) (ev_pos (by omega) (ev_neg c1 (ev_pos c2 (ev_pos (by omega) bad))))
       ·
        obtain ⟨d0, b', _, hr⟩ := three b hb; cases hr
      | d :: e :: t, hz, h2, h, three =>
       simp only [List.length_cons] at hz h
       have e2 : bt (ofL l) ((p.length + 1 : Nat) : Int) = (d.toNat : Int) := by
        have := bt_ofL_mid (l := l) (p := p ++ [c]) (c := d) (r := e :: t) (by rw [h2]; simp)
        rwa [List.length_append] at this
       have e3 : bt (ofL l) ((p.length + 2 : Nat) : Int) = (e.toNat : Int) := by
        have := bt_ofL_mid (l := l) (p := p ++ [c, d]) (c := e) (r := t) (by rw [h2]; simp)
        rwa [List.length_append] at this
       by_cases v1 : vl d < 0
       ·
        refine ⟨none, ev_succ ?_, fun x hx => (by cases hx), fun b hb => ?_⟩
        ·
         simp only [spec_l6Bytes.l0, e1, w1, w2, size_ofL, zn_length, e2, e3]
         clear e1 w1 w2 w3 e2 e3
         exact ev_pos (by omega) (ev_pos (by omega) (ev_neg c1 (ev_pos c2 (ev_neg (by omega) (ev_pos (by omega) (ev_pos (by omega) (ev_bind (spec_l5Value_ev d) (ev_pos v1 bad))))))))
        ·
         obtain ⟨d0, b', _, hr⟩ := three b hb
         injection hr with hr1 hr2
         have := (vl_hx d0).1
         rw [← hr1] at this
         omega
       ·
        by_cases v2 : vl e < 0
        ·
         refine ⟨none, ev_succ ?_, fun x hx => (by cases hx), fun b hb => ?_⟩
         ·
          simp only [spec_l6Bytes.l0, e1, w1, w2, size_ofL, zn_length, e2, e3]
          clear e1 w1 w2 w3 e2 e3
          refine ev_pos (by omega) (ev_pos (by omega) (ev_neg c1 (ev_pos c2 (ev_neg (by omega) (ev_pos (by omega) (ev_pos (by omega) (ev_bind (spec_l5Value_ev d) (ev_neg v1 (ev_pos (by omega) (ev_pos (by omega) (ev_bind (spec_l5Value_ev e) ?_)))))))))))
          rw [decide_eq_true v2]
          exact bad
         ·
          obtain ⟨d0, b', _, hr⟩ := three b hb
          injection hr with hr1 hr2
          injection hr2 with hr2 hr3
          have := (vl_hx d0).2
          rw [← hr2] at this
          omega
        ·
         obtain ⟨x, hx⟩ : ∃ x : Int, x = (wrap64 ((wrap64 (16 * vl d)) + vl e)) % 256 := ⟨_, rfl⟩
         have rd := vl_range d
         have re := vl_range e
         have hxv : x = (16 * vl d + vl e) % 256 := by
          rw [hx, wrap_id (x := 16 * vl d) (by omega) (by omega), wrap_id (x := 16 * vl d + vl e) (by omega) (by omega)]
         have hxb := byte_zn x (by omega) (by omega)
         obtain ⟨o, i1, i2, i3⟩ := ih t (p ++ [c, d, e]) (acc ++ [UInt8.ofNat x.toNat]) (by omega) (by rw [h2]; simp) (by simp; omega)
         rw [List.length_append, zn_append, ← hxb] at i1
         refine ⟨o.map (UInt8.ofNat x.toNat :: ·), ev_succ ?_, fun y hy => ?_, fun b hb => ?_⟩
         ·
          simp only [spec_l6Bytes.l0, e1, w1, w2, size_ofL, zn_length, e2, e3]
          refine ev_pos (by omega) (ev_pos (by omega) (ev_neg c1 (ev_pos c2 (ev_neg (by omega) (ev_pos (by omega) (ev_pos (by omega) (ev_bind (spec_l5Value_ev d) (ev_neg v1 (ev_pos (by omega) (ev_pos (by omega) (ev_bind (spec_l5Value_ev e) ?_)))))))))))
          rw [decide_eq_false v2]
          refine ev_succ ?_
          simp only [spec_l6Bytes.j1, w1, w2, w3, size_ofL, zn_length, e2, e3]
          clear e1 w1 w2 w3 e2 e3
          refine ev_neg (by simp) (ev_pos (by omega) (ev_pos (by omega) (ev_bind (spec_l5Value_ev d) (ev_pos (by omega) (ev_pos (by omega) (ev_bind (spec_l5Value_ev e) (ev_pos (by omega) ?_)))))))
          rw [← hx]
          refine ev_eq i1 ?_
          cases o with
          | none => rfl
          | some y => simp [cwres]
         ·
          simp only [Option.map_eq_some_iff] at hy
          obtain ⟨z, hz2, rfl⟩ := hy
          have := i2 z hz2
          simp only [List.length_cons]; omega
         ·
          obtain ⟨d0, b', rfl, hr⟩ := three b hb
          injection hr with hr1 hr2
          injection hr2 with hr2 hr3
          have q1 := vl_hx d0
          rw [← hr1, ← hr2] at q1
          have q2 := div_mod d0
          rw [← q1.1, ← q1.2, ← hxv] at q2
          rw [i3 b' hr3, q2]
          simp
     ·
      obtain ⟨o, i1, i2, i3⟩ := step c (fun b d0 b' _ hb2 => by
       rcases cdB_cases d0 with ⟨q1, q2⟩ | ⟨q2, q1, _⟩ | q2 <;> rw [q2] at hb2 <;> simp only [List.cons_append, List.nil_append, List.cons.injEq] at hb2
       ·
        exact absurd (h95.mpr hb2.1) c1
       ·
        exact ⟨hb2.1.symm, hb2.2⟩
       ·
        exact absurd (h61.mpr hb2.1) c2)
      refine ⟨o, ev_succ ?_, i2, i3⟩
      simp only [spec_l6Bytes.l0, e1, w1, size_ofL, zn_length]
      clear e1 w1 w2 w3
      rw [zn_append] at i1
      exact ev_pos (by omega) (ev_pos (by omega) (ev_neg c1 (ev_neg c2 (ev_pos (by omega) i1))))
 unfold spec_l6Bytes.f
 obtain ⟨o, i1, i2, i3⟩ := key l.length l [] [] (Nat.le_refl _) rfl (by simp)
 refine ⟨o, ev_eq i1 ?_, i2, i3⟩
 cases o <;> simp

/-! Coded words read. -/
theorem cw_parts {b s : Str} (h : cwO b = some s) : s.length = (cd b).length + 12 ∧ s.take 10 = cb ∧ (s.drop 10).take (s.length - 2 - 10) = cd b ∧ s.drop (s.length - 2) = ce ∧ 13 ≤ s.length ∧ s.length ≤ 40 := by
 obtain ⟨h1, h2, h3, h4⟩ := cwO_some h
 have l1 := cw_len b
 have l2 := cd_len b
 have l3 : 0 < b.length := List.length_pos_iff.mpr h2
 have e10 : cb.length = 10 := rfl
 rw [← h1] at l1
 refine ⟨l1, ?_, ?_, ?_, by omega, h4⟩
 ·
  rw [h1]; unfold cw; rw [List.append_assoc, List.take_left' e10]
 ·
  rw [show s.length - 2 - 10 = (cd b).length by omega, h1]
  unfold cw
  rw [List.append_assoc, List.drop_left' e10, List.take_left]
 ·
  have : s.length - 2 = (cb ++ cd b).length := by rw [List.length_append, e10]; omega
  rw [this, h1]
  unfold cw
  rw [List.drop_left]
theorem spec_ReadCodeWord_ev (s : Str) (hs : s.length ≤ 1048576) : Ev (fun k => spec_ReadCodeWord.f k (ofL s)) (cwres (rcw s)) := by
 have bad : rcw s = none → Ev (fun k => spec_ReadCodeWord.j0 k (ofL s) true) (cwres (rcw s)) := by
  intro e
  rw [e]
  refine ev_succ ?_
  simp only [spec_ReadCodeWord.j0]
  exact ev_pos trivial (ev_eq (ev_some _) rfl)
 unfold spec_ReadCodeWord.f
 rw [size_ofL]
 by_cases h1 : s.length < 13
 ·
  exact ev_pos (by omega) (bad (rcw_none (fun b hb => by have := cw_parts hb; omega)))
 ·
  refine ev_neg (by omega) ?_
  by_cases h2 : s.length > 40
  ·
   exact ev_pos (by omega) (bad (rcw_none (fun b hb => by have := cw_parts hb; omega)))
  ·
   have w1 : wrap64 ((s.length : Int) - 2) = ((s.length - 2 : Nat) : Int) := (wrap_id (by omega) (by omega)).trans (by omega)
   have x1 : (ofL s).extract 0 10 = ofL (s.take 10) := by rw [extract_ofL]; rfl
   have x2 : (ofL s).extract ((s.length - 2 : Nat) : Int).toNat s.length = ofL (s.drop (s.length - 2)) := by rw [Int.toNat_natCast, extract_ofL, List.take_of_length_le (by simp)]
   have x3 : (ofL s).extract 10 ((s.length - 2 : Nat) : Int).toNat = ofL ((s.drop 10).take (s.length - 2 - 10)) := by rw [Int.toNat_natCast, extract_ofL]
   rw [w1, x1, x2, toList_ofL, toList_ofL]
   refine ev_neg (by omega) (ev_pos (by omega) (ev_pos (by omega) ?_))
   by_cases h3 : s.take 10 = cb
   ·
    refine ev_pos h3 (ev_pos (by omega) (ev_pos (by omega) ?_))
    by_cases h4 : s.drop (s.length - 2) = ce
    ·
     have e4 : (s.drop (s.length - 2) != ([63, 61] : List UInt8)) = false := by rw [h4]; decide
     rw [e4]
     obtain ⟨o, i1, i2, i3⟩ := spec_l6Bytes_ev ((s.drop 10).take (s.length - 2 - 10)) (by rw [List.length_take, List.length_drop]; omega)
     refine ev_succ ?_
     simp only [spec_ReadCodeWord.j0, w1, x3, size_ofL]
     clear w1 x1 x2 x3
     refine ev_neg (by simp) (ev_pos (by omega) (ev_pos (by omega) (ev_bind i1 ?_)))
     have hin : (s.drop 10).take (s.length - 2 - 10) ++ ce = s.drop 10 := by
      have := List.take_append_drop (s.length - 2 - 10) (s.drop 10)
      rw [List.drop_drop, show 10 + (s.length - 2 - 10) = s.length - 2 by omega, h4] at this
      exact this
     have hall : cb ++ (s.drop 10).take (s.length - 2 - 10) ++ ce = s := by
      rw [List.append_assoc, hin, ← h3, List.take_append_drop]
     cases o with
     | none =>
      have hn : rcw s = none := rcw_none (fun b hb => by have := i3 b (cw_parts hb).2.2.1; cases this)
      rw [hn]
      refine ev_bind (spec_CodeWord_ev [] (by simp)) (ev_neg (by simp [cwres]) (ev_eq (ev_some _) rfl))
     | some x =>
      have hxl := i2 x rfl
      rw [List.length_take, List.length_drop] at hxl
      refine ev_bind (spec_CodeWord_ev x (by omega)) (ev_pos rfl ?_)
      rcases rcw_ex s with ⟨b, hb, hr⟩ | ⟨hb, hr⟩
      ·
       have hx := i3 b (cw_parts hb).2.2.1
       injection hx with hx
       subst hx
       rw [hb, hr]
       exact ev_pos rfl (ev_pos rfl (ev_eq (ev_some _) rfl))
      ·
       rw [hr]
       cases e : cwO x with
       | none => exact ev_neg (by simp [cwres]) (ev_eq (ev_some _) rfl)
       | some t =>
        have hne : ¬ (cwres (some t)).1.toList = (ofL s).toList := by
         simp only [cwres, toList_ofL]
         intro ht
         exact hb x (by rw [e, ht])
        exact ev_pos rfl (ev_neg hne (ev_eq (ev_some _) rfl))
    ·
     have e4 : (s.drop (s.length - 2) != ([63, 61] : List UInt8)) = true := by simpa [ce] using h4
     rw [e4]
     exact bad (rcw_none (fun b hb => h4 (cw_parts hb).2.2.2.1))
   ·
    exact ev_neg h3 (bad (rcw_none (fun b hb => h3 (cw_parts hb).2.1)))
theorem indexByte_hx (d : UInt8) : Lib.indexByte [48, 49, 50, 51, 52, 53, 54, 55, 56, 57, 65, 66, 67, 68, 69, 70] (hx (d / 16)) = ((d / 16).toNat : Int) ∧ Lib.indexByte [48, 49, 50, 51, 52, 53, 54, 55, 56, 57, 65, 66, 67, 68, 69, 70] (hx (d % 16)) = ((d % 16).toNat : Int) := by
 revert d
 exact u8_all (by decide +kernel)
theorem hex_val (d : UInt8) : (wrap64 ((wrap64 (16 * ((d / 16).toNat : Int))) + ((d % 16).toNat : Int))) % 256 = (d.toNat : Int) := by
 have h1 : (d / 16).toNat ≤ 255 := by have := (d / 16).toNat_lt; omega
 have h2 : (d % 16).toNat ≤ 255 := by have := (d % 16).toNat_lt; omega
 rw [wrap_id (x := 16 * ((d / 16).toNat : Int)) (by omega) (by omega), wrap_id (by omega) (by omega)]
 exact div_mod d
/-- A byte of two digits, by the program: something, and what was coded. -/
theorem impl_hexOf_ev (r : Str) (hr : r.length ≤ 1048576) : ∃ (x : Int) (ok : Bool), Ev (fun k => impl_hexOf.f k (ofL (61 :: r))) (x, ok) ∧ 0 ≤ x ∧ x < 256 ∧ ∀ d t, r = hx (d / 16) :: hx (d % 16) :: t → x = (d.toNat : Int) := by
 unfold impl_hexOf.f
 rw [size_ofL, bt_zero]
 have e61 : ((((61 : UInt8).toNat : Nat) : Int) != 61) = false := by decide
 match r, hr with
 | [], hr =>
  refine ⟨0, false, ev_pos (by simp) (ev_succ ?_), by omega, by omega, fun d t h => by cases h⟩
  simp only [impl_hexOf.j0]
  exact ev_pos trivial (ev_some _)
 | [c], hr =>
  refine ⟨0, false, ev_pos (by simp) (ev_succ ?_), by omega, by omega, fun d t h => by cases h⟩
  simp only [impl_hexOf.j0]
  exact ev_pos trivial (ev_some _)
 | c :: e :: t, hr =>
  have e1 : bt (ofL (61 :: c :: e :: t)) 1 = (c.toNat : Int) := bt_ofL_mid (l := 61 :: c :: e :: t) (p := [61]) rfl
  have e2 : bt (ofL (61 :: c :: e :: t)) 2 = (e.toNat : Int) := bt_ofL_mid (l := 61 :: c :: e :: t) (p := [61, c]) rfl
  have u : ∀ c : UInt8, ((c.toNat : Int)).toNat.toUInt8 = c := fun c => by simp
  have hl : (((61 :: c :: e :: t : Str).length : Nat) : Int) ≥ 3 := by simp only [List.length_cons]; omega
  obtain ⟨i, hi⟩ : ∃ i, i = Lib.indexByte [48, 49, 50, 51, 52, 53, 54, 55, 56, 57, 65, 66, 67, 68, 69, 70] c := ⟨_, rfl⟩
  obtain ⟨j, hj⟩ : ∃ j, j = Lib.indexByte [48, 49, 50, 51, 52, 53, 54, 55, 56, 57, 65, 66, 67, 68, 69, 70] e := ⟨_, rfl⟩
  have body : ∀ b : Bool, (b = decide (i ≥ 0)) → Ev (fun k => impl_hexOf.j0 k (ofL (61 :: c :: e :: t)) false) ((wrap64 ((wrap64 (16 * i)) + j)) % 256, b && decide (j ≥ 0)) := by
   intro b hb
   refine ev_succ ?_
   simp only [impl_hexOf.j0, e1, e2, strings_IndexByte.f, u, Option.bind_some, size_ofL]
   have q1 : Lib.indexByte (⟨#[48, 49, 50, 51, 52, 53, 54, 55, 56, 57, 65, 66, 67, 68, 69, 70]⟩ : ByteArray).data.toList c = i := hi.symm
   have q2 : Lib.indexByte (⟨#[48, 49, 50, 51, 52, 53, 54, 55, 56, 57, 65, 66, 67, 68, 69, 70]⟩ : ByteArray).data.toList e = j := hj.symm
   simp only [q1, q2]
   refine ev_neg (by simp) (ev_pos (by omega) (ev_pos (by omega) ?_))
   by_cases h0 : i ≥ 0
   ·
    rw [hb, decide_eq_true h0]; exact ev_pos h0 (ev_eq (ev_some _) (by simp))
   ·
    rw [hb, decide_eq_false h0]; exact ev_neg h0 (ev_eq (ev_some _) (by simp))
  refine ⟨(wrap64 ((wrap64 (16 * i)) + j)) % 256, decide (i ≥ 0) && decide (j ≥ 0), ?_, by omega, by omega, fun d t' h => ?_⟩
  ·
   rw [e61]
   exact ev_neg (by omega) (ev_pos (by omega) (body _ rfl))
  ·
   injection h with h1 h2
   injection h2 with h2 h3
   have q := indexByte_hx d
   rw [← h1, ← h2, ← hi, ← hj] at q
   rw [q.1, q.2]
   exact hex_val d
theorem impl_ReadCodeWord_loop (s l : Str) (hs : s.length ≤ 1048576) (hl : l.length ≤ 1048576) : ∀ (n : Nat) (r p acc : Str), r.length ≤ n → l = p ++ r → acc.length ≤ p.length → ∃ out : Str, Ev (fun k => impl_ReadCodeWord.l0 k (ofL s) (zn acc) (ofL l) (p.length : Int)) (if cwO (acc ++ out) = some s then (ofL (acc ++ out), true) else (ofL [], false)) ∧ ∀ b, r = cd b → out = b := by
 have fin : ∀ acc : Str, acc.length ≤ l.length → Ev (fun k => (impl_CodeWord.f k (strOfNums (zn acc))).bind fun bt178 => (if bt178.2 = true then (if bt178.1.toList = (ofL s).toList then (some (strOfNums (zn acc), true)) else (some ((⟨#[]⟩ : ByteArray), false))) else (some ((⟨#[]⟩ : ByteArray), false)))) (if cwO (acc ++ []) = some s then (ofL (acc ++ []), true) else (ofL [], false)) := by
  intro acc h
  rw [strOfNums_zn, List.append_nil]
  refine ev_bind (impl_CodeWord_ev acc (by omega)) ?_
  cases e : cwO acc with
  | none => rw [if_neg (show ¬ ((none : Option Str) = some s) by simp)]; exact ev_neg (by simp [cwres]) (ev_eq (ev_some _) rfl)
  | some t =>
   by_cases h2 : t = s
   ·
    subst h2
    rw [if_pos (show some t = some t from rfl)]
    exact ev_pos rfl (ev_pos rfl (ev_some _))
   ·
    rw [if_neg (show ¬ (some t = some s) by simp [h2])]
    exact ev_pos rfl (ev_neg (by simpa [cwres, toList_ofL] using h2) (ev_eq (ev_some _) rfl))
 intro n
 induction n with
 | zero =>
  intro r p acc h h2 h3
  have : r = [] := List.length_eq_zero_iff.mp (by omega)
  subst this
  rw [List.append_nil] at h2
  subst h2
  refine ⟨[], ev_succ ?_, fun b hb => cd_inj [] b hb⟩
  simp only [impl_ReadCodeWord.l0, size_ofL]
  exact ev_neg (by omega) (fin acc h3)
 | succ n ih =>
  intro r p acc h h2 h3
  cases r with
  | nil =>
   rw [List.append_nil] at h2
   subst h2
   refine ⟨[], ev_succ ?_, fun b hb => cd_inj [] b hb⟩
   simp only [impl_ReadCodeWord.l0, size_ofL]
   exact ev_neg (by omega) (fin acc h3)
  | cons c r =>
   simp only [List.length_cons] at h
   have hz := len_mid h2
   have e1 := bt_ofL_mid h2
   have w1 : wrap64 ((p.length : Int) + 1) = ((p.length + 1 : Nat) : Int) := (wrap_id (by omega) (by omega)).trans (by omega)
   have w2 : wrap64 ((wrap64 ((p.length : Int) + 2)) + 1) = ((p.length + 3 : Nat) : Int) := by
    rw [wrap_id (x := (p.length : Int) + 2) (by omega) (by omega), wrap_id (by omega) (by omega)]; omega
   have h95 : (c.toNat : Int) = 95 ↔ c = 95 := u8_eq c 95 (by omega)
   have h61 : (c.toNat : Int) = 61 ↔ c = 61 := u8_eq c 61 (by omega)
   by_cases c1 : (c.toNat : Int) = 95
   ·
    have hc := h95.mp c1
    obtain ⟨o, i1, i3⟩ := ih r (p ++ [c]) (acc ++ [32]) (by omega) (by rw [h2]; simp) (by simp; omega)
    rw [List.length_append, zn_append] at i1
    refine ⟨32 :: o, ev_succ ?_, fun b hb => ?_⟩
    ·
     simp only [impl_ReadCodeWord.l0, e1, w1, size_ofL, zn_length]
     clear e1 w1 w2
     refine ev_pos (by omega) (ev_pos (by omega) (ev_pos c1 (ev_pos (by omega) (ev_eq i1 ?_))))
     simp
    ·
     obtain ⟨d0, b', rfl, hb2⟩ := cd_cons hb
     rcases cdB_cases d0 with ⟨q1, q2⟩ | ⟨q2, q1, _⟩ | q2 <;> rw [q2] at hb2 <;> simp only [List.cons_append, List.nil_append, List.cons.injEq] at hb2
     ·
      rw [i3 b' hb2.2, q1]
     ·
      exact absurd (hb2.1.symm.trans hc) q1
     ·
      rw [hc] at hb2; exact absurd hb2.1 (by decide)
   ·
    by_cases c2 : (c.toNat : Int) = 61
    ·
     have hc := h61.mp c2
     have ex : (ofL l).extract (p.length : Int).toNat l.length = ofL (61 :: r) := by
      rw [Int.toNat_natCast, extract_ofL, h2, List.drop_left, List.take_of_length_le (by simp only [List.length_append, List.length_cons]; omega), hc]
     obtain ⟨x, ok, j1, j2, j3, j4⟩ := impl_hexOf_ev r (by omega)
     have hxb := byte_zn x j2 j3
     by_cases hlen : 2 ≤ r.length
     ·
      obtain ⟨d, e, t, rfl⟩ : ∃ d e t, r = d :: e :: t := by
       match r, hlen with
       | d :: e :: t, _ => exact ⟨d, e, t, rfl⟩
      simp only [List.length_cons] at h hz
      obtain ⟨o, i1, i3⟩ := ih t (p ++ [c, d, e]) (acc ++ [UInt8.ofNat x.toNat]) (by omega) (by rw [h2]; simp) (by simp; omega)
      rw [List.length_append, zn_append, ← hxb] at i1
      refine ⟨UInt8.ofNat x.toNat :: o, ev_succ ?_, fun b hb => ?_⟩
      ·
       simp only [impl_ReadCodeWord.l0, e1, w2, size_ofL, zn_length, ex]
       clear e1 w1 w2 ex
       refine ev_pos (by omega) (ev_pos (by omega) (ev_neg c1 (ev_pos c2 (ev_pos (by omega) (ev_bind j1 (ev_pos (by omega) (ev_eq i1 ?_)))))))
       simp
      ·
       obtain ⟨d0, b', rfl, hb2⟩ := cd_cons hb
       rcases cdB_cases d0 with ⟨q1, q2⟩ | ⟨q2, q1, q3, _⟩ | q2 <;> rw [q2] at hb2 <;> simp only [List.cons_append, List.nil_append, List.cons.injEq] at hb2
       ·
        rw [hc] at hb2; exact absurd hb2.1 (by decide)
       ·
        exact absurd (hb2.1.symm.trans hc) q3
       ·
        obtain ⟨_, p1, p2, p3⟩ := hb2
        have := j4 d0 t (by rw [p1, p2])
        rw [i3 b' p3, this]
        simp
     ·
      refine ⟨[UInt8.ofNat x.toNat], ev_succ ?_, fun b hb => ?_⟩
      ·
       simp only [impl_ReadCodeWord.l0, e1, w2, size_ofL, zn_length, ex]
       clear e1 w1 w2 ex
       refine ev_pos (by omega) (ev_pos (by omega) (ev_neg c1 (ev_pos c2 (ev_pos (by omega) (ev_bind j1 (ev_pos (by omega) (ev_succ ?_)))))))
       simp only [impl_ReadCodeWord.l0, size_ofL]
       refine ev_neg (by omega) ?_
       have := fin (acc ++ [UInt8.ofNat x.toNat]) (by simp; omega)
       rw [zn_append, ← hxb, List.append_nil] at this
       exact this
      ·
       obtain ⟨d0, b', rfl, hb2⟩ := cd_cons hb
       rcases cdB_cases d0 with ⟨q1, q2⟩ | ⟨q2, q1, q3, _⟩ | q2 <;> rw [q2] at hb2 <;> simp only [List.cons_append, List.nil_append, List.cons.injEq] at hb2
       ·
        rw [hc] at hb2; exact absurd hb2.1 (by decide)
       ·
        exact absurd (hb2.1.symm.trans hc) q3
       ·
        rw [hb2.2] at hlen; simp at hlen
    ·
     obtain ⟨o, i1, i3⟩ := ih r (p ++ [c]) (acc ++ [c]) (by omega) (by rw [h2]; simp) (by simp; omega)
     rw [List.length_append, zn_append] at i1
     refine ⟨c :: o, ev_succ ?_, fun b hb => ?_⟩
     ·
      simp only [impl_ReadCodeWord.l0, e1, w1, size_ofL, zn_length]
      clear e1 w1 w2
      refine ev_pos (by omega) (ev_pos (by omega) (ev_neg c1 (ev_neg c2 (ev_pos (by omega) (ev_eq i1 ?_)))))
      simp
     ·
      obtain ⟨d0, b', rfl, hb2⟩ := cd_cons hb
      rcases cdB_cases d0 with ⟨q1, q2⟩ | ⟨q2, q1, _⟩ | q2 <;> rw [q2] at hb2 <;> simp only [List.cons_append, List.nil_append, List.cons.injEq] at hb2
      ·
       exact absurd (h95.mpr hb2.1) c1
      ·
       rw [i3 b' hb2.2, hb2.1]
      ·
       exact absurd (h61.mpr hb2.1) c2
theorem impl_ReadCodeWord_ev (s : Str) (hs : s.length ≤ 1048576) : Ev (fun k => impl_ReadCodeWord.f k (ofL s)) (cwres (rcw s)) := by
 have bad : rcw s = none → Ev (fun k => impl_ReadCodeWord.j0 k (ofL s) true) (cwres (rcw s)) := by
  intro e
  rw [e]
  refine ev_succ ?_
  simp only [impl_ReadCodeWord.j0]
  exact ev_pos trivial (ev_eq (ev_some _) rfl)
 unfold impl_ReadCodeWord.f
 rw [size_ofL]
 by_cases h2 : s.length > 40
 ·
  exact ev_pos (by omega) (bad (rcw_none (fun b hb => by have := cw_parts hb; omega)))
 ·
  refine ev_neg (by omega) ?_
  by_cases h1 : s.length < 12
  ·
   rw [decide_eq_true (by omega : (s.length : Int) < 12)]
   exact bad (rcw_none (fun b hb => by have := cw_parts hb; omega))
  ·
   rw [decide_eq_false (by omega : ¬ (s.length : Int) < 12)]
   have w1 : wrap64 ((s.length : Int) - 2) = ((s.length - 2 : Nat) : Int) := (wrap_id (by omega) (by omega)).trans (by omega)
   have x3 : (ofL s).extract 10 ((s.length - 2 : Nat) : Int).toNat = ofL ((s.drop 10).take (s.length - 2 - 10)) := by rw [Int.toNat_natCast, extract_ofL]
   have hll : ((s.drop 10).take (s.length - 2 - 10)).length ≤ 1048576 := by rw [List.length_take, List.length_drop]; omega
   obtain ⟨o, i1, i3⟩ := impl_ReadCodeWord_loop s ((s.drop 10).take (s.length - 2 - 10)) hs hll _ ((s.drop 10).take (s.length - 2 - 10)) [] [] (Nat.le_refl _) rfl (by simp)
   refine ev_succ ?_
   simp only [impl_ReadCodeWord.j0, w1, x3, size_ofL]
   clear w1 x3
   refine ev_neg (by simp) (ev_pos (by omega) (ev_pos (by omega) (ev_eq i1 ?_)))
   rw [List.nil_append]
   rcases rcw_ex s with ⟨b, hb, hr⟩ | ⟨hb, hr⟩
   ·
    have hx := i3 b (cw_parts hb).2.2.1
    subst hx
    rw [if_pos hb, hr]; rfl
   ·
    rw [if_neg (hb o), hr]; rfl

/-! Names read. -/
def cutB (b : UInt8) : Str → Option (Str × Str)
 | [] => none
 | c :: r => if c = b then some ([], r) else (cutB b r).map fun x => (c :: x.1, x.2)
theorem cutB_eq (b : UInt8) (s : Str) : ∀ (x t : Str), cutB b s = some (x, t) → s = x ++ b :: t ∧ ∀ c ∈ x, c ≠ b := by
 induction s with
 | nil => intro x t h; cases h
 | cons c r ih =>
  intro x t h
  rw [cutB] at h
  split at h
  ·
   rename_i hc; cases h; rw [hc]; exact ⟨rfl, by simp⟩
  ·
   rename_i hc
   simp only [Option.map_eq_some_iff] at h
   obtain ⟨⟨w1, t1⟩, e1, e2⟩ := h
   cases e2
   obtain ⟨h1, h2⟩ := ih _ _ e1
   refine ⟨by rw [h1]; rfl, fun d hd => ?_⟩
   rcases List.mem_cons.mp hd with rfl | hd
   ·
    exact hc
   ·
    exact h2 d hd
theorem cutB_none (b : UInt8) (s : Str) : cutB b s = none → ∀ c ∈ s, c ≠ b := by
 induction s with
 | nil => intro _ c hc; cases hc
 | cons c r ih =>
  intro h d hd
  rw [cutB] at h
  split at h
  ·
   cases h
  ·
   rename_i hc
   simp only [Option.map_eq_none_iff] at h
   rcases List.mem_cons.mp hd with rfl | hd
   ·
    exact hc
   ·
    exact ih h d hd
theorem index_B (b : UInt8) (s : Str) : Lib.index s [b] = match cutB b s with
  | none => -1
  | some x => (x.1.length : Int) := by
 induction s with
 | nil => rfl
 | cons c r ih =>
  rw [Lib.index, cutB]
  by_cases h : c = b
  ·
   rw [if_pos (by simp [List.isPrefixOf, h]), if_pos h]; rfl
  ·
   rw [if_neg (by simp only [List.isPrefixOf, Bool.and_true, beq_iff_eq]; exact fun e => h e.symm), if_neg h, ih]
   cases e : cutB b r with
   | none => rfl
   | some q =>
    simp only [Option.map_some, List.length_cons]
    rw [if_neg (by simp)]
    rfl
theorem splitB_spl : ∀ (n : Nat) (s : Str), s.length ≤ n → Lib.splitB ⟨#[32]⟩ 0 (Lib.countB (ofL s) ⟨#[32]⟩) (ofL s) = (spl s).map ofL := by
 intro n
 have e32 : (⟨#[32]⟩ : ByteArray).data.toList = ([32] : Str) := rfl
 induction n with
 | zero =>
  intro s h
  have : s = [] := List.length_eq_zero_iff.mp (by omega)
  subst this
  have hi : Lib.indexB (ofL []) ⟨#[32]⟩ = -1 := by decide
  rw [Lib.splitB_miss _ _ _ _ hi]; rfl
 | succ n ih =>
  intro s h
  have hix : Lib.indexB (ofL s) ⟨#[32]⟩ = Lib.index s [32] := rfl
  rw [index_B] at hix
  cases e : cutB 32 s with
  | none =>
   rw [e] at hix
   rw [Lib.splitB_miss _ _ _ _ hix, spl_free s (cutB_none 32 s e)]; rfl
  | some q =>
   obtain ⟨x, t⟩ := q
   rw [e] at hix
   obtain ⟨h1, h2⟩ := cutB_eq 32 s x t e
   have hz : s.length = x.length + (t.length + 1) := by rw [h1]; simp
   have x1 : (ofL s).extract (x.length + (⟨#[32]⟩ : ByteArray).size) (ofL s).size = ofL t := by
    rw [size_ofL, extract_ofL, show (⟨#[32]⟩ : ByteArray).size = 1 from rfl, List.take_of_length_le (by simp), h1, ← List.drop_drop, List.drop_left]; rfl
   have x2 : (ofL s).extract 0 (x.length + 0) = ofL x := by
    rw [extract_ofL, List.drop_zero, Nat.add_zero, Nat.sub_zero, h1, List.take_left]
   rw [Lib.countB_hit _ _ x.length (by decide) hix, Nat.add_comm 1, Lib.splitB_hit _ 0 _ _ x.length hix, x1, x2, ih t (by omega), h1, spl_cut x t h2]
   rfl
theorem strings_Split_eq (s : Str) (hs : s.length ≤ 1048576) : strings_Split.f (ofL s) ⟨#[32]⟩ = some ((spl s).map ofL) := by
 unfold strings_Split.f
 rw [if_pos rfl, if_pos (by rw [size_ofL]; omega), splitB_spl s.length s (Nat.le_refl _)]
theorem spec_l2Parts_ev (s : Str) (hs : s.length ≤ 1048576) : Ev (fun k => spec_l2Parts.f k (ofL s) 32) ((spl s).map ofL) := by
 have key : ∀ (r cur q : Str) (acc : List Str), s = q ++ (cur ++ r) → (∀ c ∈ cur, c ≠ 32) → acc.length ≤ q.length → Ev (fun k => spec_l2Parts.l0 k (ofL s) 32 (acc.map ofL) (q.length : Int) (((q ++ cur).length : Nat) : Int)) ((acc ++ spl (cur ++ r)).map ofL) := by
  intro r
  induction r with
  | nil =>
   intro cur q acc h h2 h3
   have hz : s.length = q.length + cur.length := by rw [h]; simp
   have hq : (q ++ cur).length = q.length + cur.length := by simp
   have ex : (ofL s).extract (q.length : Int).toNat s.length = ofL cur := by
    rw [Int.toNat_natCast, extract_ofL, h, List.append_nil, List.drop_left, List.take_of_length_le (by simp)]
   refine ev_succ ?_
   simp only [spec_l2Parts.l0, size_ofL, List.length_map, ex]
   rw [List.append_nil, spl_free cur h2]
   exact ev_neg (by omega) (ev_pos (by omega) (ev_pos (by omega) (ev_pos (by omega) (ev_eq (ev_some _) (by simp)))))
  | cons c r ih =>
   intro cur q acc h h2 h3
   have hz : s.length = q.length + (cur.length + (r.length + 1)) := by rw [h]; simp
   have hq : (q ++ cur).length = q.length + cur.length := by simp
   have e1 : bt (ofL s) (((q ++ cur).length : Nat) : Int) = (c.toNat : Int) := bt_ofL_mid (l := s) (p := q ++ cur) (c := c) (r := r) (by rw [h]; simp)
   have w1 : wrap64 ((((q ++ cur).length : Nat) : Int) + 1) = (((q ++ cur).length + 1 : Nat) : Int) := (wrap_id (by omega) (by omega)).trans (by omega)
   have h32 : (c.toNat : Int) = 32 ↔ c = 32 := u8_eq c 32 (by omega)
   have ex : (ofL s).extract (q.length : Int).toNat (((q ++ cur).length : Nat) : Int).toNat = ofL cur := by
    rw [Int.toNat_natCast, Int.toNat_natCast, extract_ofL, h, List.drop_left, hq, show q.length + cur.length - q.length = cur.length by omega, List.take_left]
   refine ev_succ ?_
   simp only [spec_l2Parts.l0, size_ofL, List.length_map, e1, w1, ex]
   clear e1 w1 ex
   refine ev_pos (by omega) (ev_pos (by omega) ?_)
   by_cases c1 : (c.toNat : Int) = 32
   ·
    have hc := h32.mp c1
    have := ih [] (q ++ cur ++ [c]) (acc ++ [cur]) (by rw [h]; simp) (by simp) (by simp; omega)
    rw [hc, spl_cut cur r h2]
    have e5 : ((q ++ cur ++ [c]) ++ []).length = (q ++ cur).length + 1 := by simp; omega
    have e6 : (q ++ cur ++ [c]).length = (q ++ cur).length + 1 := by simp; omega
    rw [e5, e6, List.map_append (l₁ := acc), List.map_singleton] at this
    exact ev_pos (by decide) (ev_pos (by omega) (ev_pos (by omega) (ev_pos (by omega) (ev_pos (by omega) (ev_eq this (by simp))))))
   ·
    have := ih (cur ++ [c]) q acc (by rw [h]; simp) (fun d hd => by
     rcases List.mem_append.mp hd with hd | hd
     ·
      exact h2 d hd
     ·
      rw [List.mem_singleton.mp hd]; exact fun hh => c1 (h32.mpr hh)) h3
    have e5 : (q ++ (cur ++ [c])).length = (q ++ cur).length + 1 := by simp; omega
    rw [e5] at this
    exact ev_neg c1 (ev_eq this (by simp))
 unfold spec_l2Parts.f
 have := key s [] [] [] rfl (by simp) (by simp)
 simpa using this
def fit (o : Str) : Option Str := if o.length > 120 then none else some o
theorem rcw_len {x b : Str} (h : rcw x = some b) : b.length ≤ 40 := by
 rcases rcw_ex x with ⟨b', hb, hr⟩ | ⟨_, hr⟩
 ·
  rw [hr] at h
  cases h
  exact (cwO_some hb).2.2.1
 ·
  rw [hr] at h; cases h
theorem dgo_cons (x : Str) (r : List Str) (later coded : Bool) (out : Str) : dgo (x :: r) later coded out = dgo r true (rcw x).isSome (out ++ (if later = true ∧ ¬ (coded = true ∧ (rcw x).isSome = true) then [32] else []) ++ (rcw x).getD x) := rfl
theorem impl_DecodeName_loop (xs : List Str) (hx : xs.length ≤ 1000) (hm : ∀ x ∈ xs, x.length ≤ 600) : ∀ (r p : List Str) (coded : Bool) (out : Str), xs = p ++ r → out.length ≤ 700 * p.length → Ev (fun k => impl_DecodeName.l0 k (ofL out) coded (xs.map ofL) (xs.length : Int) (p.length : Int)) (cwres (fit (dgo r (decide (0 < p.length)) coded out))) := by
 intro r
 induction r with
 | nil =>
  intro p coded out h ho
  rw [List.append_nil] at h
  subst h
  refine ev_succ ?_
  simp only [impl_DecodeName.l0, size_ofL]
  refine ev_neg (by omega) ?_
  unfold fit dgo
  by_cases hl : out.length > 120
  ·
   rw [if_pos hl]; exact ev_pos (by omega) (ev_eq (ev_some _) rfl)
  ·
   rw [if_neg hl]; exact ev_neg (by omega) (ev_eq (ev_some _) rfl)
 | cons x r ih =>
  intro p coded out h ho
  have hz := len_mid h
  have e1 := rdOf_ofL h
  have hxl := hm x (by rw [h]; simp)
  have w1 : wrap64 ((p.length : Int) + 1) = ((p ++ [x]).length : Int) := (wrap_id (by omega) (by omega)).trans (by simp)
  have i1 := impl_ReadCodeWord_ev x (by omega)
  have e32 : (⟨#[32]⟩ : ByteArray) = ofL [32] := rfl
  have hlen : ∀ y : Str, y.length ≤ 600 → ∀ sp : Str, sp.length ≤ 1 → (out ++ sp ++ y).length ≤ 700 * (p ++ [x]).length := by
   intro y hy sp hsp
   simp only [List.length_append, List.length_cons, List.length_nil]; omega
  have hpos : decide (0 < (p ++ [x]).length) = true := by simp
  rw [dgo_cons]
  have tail : ∀ (sp : Bool), Ev (fun k => impl_DecodeName.j1 k (ofL out) (ofL x) (cwres (rcw x)).1 (cwres (rcw x)).2 (xs.map ofL) (xs.length : Int) (p.length : Int) sp) (cwres (fit (dgo r true (rcw x).isSome (out ++ (if sp = true then [32] else []) ++ (rcw x).getD x)))) := by
   intro sp
   have hh : ∀ (y : Str) (b : Bool), y.length ≤ 600 → Ev (fun k => impl_DecodeName.l0 k (ofL (out ++ (if sp = true then [32] else []) ++ y)) b (xs.map ofL) (xs.length : Int) ((p ++ [x]).length : Int)) (cwres (fit (dgo r true b (out ++ (if sp = true then [32] else []) ++ y)))) := by
    intro y b hy
    have := ih (p ++ [x]) b (out ++ (if sp = true then [32] else []) ++ y) (by rw [h]; simp) (hlen y hy _ (by split <;> simp))
    rwa [hpos] at this
   refine ev_succ ?_
   simp only [impl_DecodeName.j1, w1, e32, size_ofL, ofL_append]
   clear w1 e1
   cases e : rcw x with
   | none =>
    have := hh x false hxl
    cases sp <;> simp only [cwres, if_true, Bool.false_eq_true, if_false, List.append_nil] at this ⊢
    ·
     exact ev_pos (by omega) this
    ·
     exact ev_pos (by omega) (ev_pos (by rw [List.length_append]; simp only [List.length_cons, List.length_nil]; omega) this)
   | some b =>
    have hbl := rcw_len e
    have := hh b true (by omega)
    cases sp <;> simp only [cwres, if_true, Bool.false_eq_true, if_false, List.append_nil, size_ofL, ofL_append] at this ⊢
    ·
     exact ev_pos (by omega) this
    ·
     exact ev_pos (by omega) (ev_pos (by rw [List.length_append]; simp only [List.length_cons, List.length_nil]; omega) this)
  refine ev_succ ?_
  simp only [impl_DecodeName.l0, e1, List.length_map]
  clear e1 w1
  refine ev_pos (by omega) (ev_pos (by omega) (ev_pos (by omega) (ev_bind i1 ?_)))
  by_cases hp : 0 < p.length
  ·
   refine ev_pos (by omega) ?_
   cases coded with
   | true =>
    refine ev_pos rfl (ev_eq (tail _) ?_)
    cases rcw x <;> simp [cwres, hp]
   | false =>
    refine ev_neg (by simp) (ev_eq (tail _) ?_)
    simp [hp]
  ·
   refine ev_neg (by omega) (ev_eq (tail _) ?_)
   simp [hp]
theorem spec_DecodeName_loop (xs : List Str) (hx : xs.length ≤ 1000) (hm : ∀ x ∈ xs, x.length ≤ 600) : ∀ (r p : List Str) (coded : Bool) (out : Str), xs = p ++ r → out.length ≤ 700 * p.length → Ev (fun k => spec_DecodeName.l0 k (xs.map ofL) (ofL out) coded (p.length : Int)) (cwres (fit (dgo r (decide (0 < p.length)) coded out))) := by
 intro r
 induction r with
 | nil =>
  intro p coded out h ho
  rw [List.append_nil] at h
  subst h
  refine ev_succ ?_
  simp only [spec_DecodeName.l0, size_ofL, List.length_map]
  refine ev_neg (by omega) ?_
  unfold fit dgo
  by_cases hl : out.length > 120
  ·
   rw [if_pos hl]; exact ev_pos (by omega) (ev_eq (ev_some _) rfl)
  ·
   rw [if_neg hl]; exact ev_neg (by omega) (ev_eq (ev_some _) rfl)
 | cons x r ih =>
  intro p coded out h ho
  have hz := len_mid h
  have e1 := rdOf_ofL h
  have hxl := hm x (by rw [h]; simp)
  have w1 : wrap64 ((p.length : Int) + 1) = ((p ++ [x]).length : Int) := (wrap_id (by omega) (by omega)).trans (by simp)
  have i1 := spec_ReadCodeWord_ev x (by omega)
  have e32 : (⟨#[32]⟩ : ByteArray) = ofL [32] := rfl
  have hpos : decide (0 < (p ++ [x]).length) = true := by simp
  rw [dgo_cons]
  have hh : ∀ (y sp : Str) (b : Bool), y.length ≤ 600 → sp.length ≤ 1 → Ev (fun k => spec_DecodeName.l0 k (xs.map ofL) (ofL (out ++ sp ++ y)) b ((p ++ [x]).length : Int)) (cwres (fit (dgo r true b (out ++ sp ++ y)))) := by
   intro y sp b hy hsp
   have := ih (p ++ [x]) b (out ++ sp ++ y) (by rw [h]; simp) (by simp only [List.length_append, List.length_cons, List.length_nil]; omega)
   rwa [hpos] at this
  refine ev_succ ?_
  simp only [spec_DecodeName.l0, e1, List.length_map, w1, e32, size_ofL, ofL_append]
  clear e1 w1
  refine ev_pos (by omega) (ev_pos (by omega) (ev_bind i1 ?_))
  cases e : rcw x with
  | none =>
   refine ev_neg (by simp [cwres]) ?_
   by_cases hp : 0 < p.length
   ·
    have := hh x [32] false hxl (by simp)
    refine ev_pos (by omega) (ev_pos (by omega) (ev_pos (by rw [List.length_append]; simp; omega) (ev_eq this ?_)))
    simp [hp]
   ·
    have := hh x [] false hxl (by simp)
    refine ev_neg (by omega) (ev_pos (by omega) (ev_eq (by rw [List.append_nil] at this; exact this) ?_))
    simp [hp]
  | some b =>
   have hbl := rcw_len e
   simp only [cwres, size_ofL, ofL_append]
   refine ev_pos trivial ?_
   by_cases hp : 0 < p.length
   ·
    refine ev_pos (by omega) ?_
    cases coded with
    | true =>
     have := hh b [] true (by omega) (by simp)
     refine ev_pos rfl (ev_pos (by omega) (ev_eq (by simpa using this) ?_))
     simp [cwres]
    | false =>
     have := hh b [32] true (by omega) (by simp)
     refine ev_neg (by simp) (ev_pos (by omega) (ev_pos (by rw [List.length_append]; simp; omega) (ev_eq (by simpa using this) ?_)))
     simp [hp, cwres]
   ·
    have := hh b [] true (by omega) (by simp)
    refine ev_neg (by omega) (ev_pos (by omega) (ev_eq (by simpa using this) ?_))
    simp [hp, cwres]
theorem dn_eq (s : Str) : dn s = if s.length > 600 then none else fit (dgo (spl s) false false []) := rfl
theorem impl_DecodeName_ev (s : Str) (hs : s.length ≤ 1048576) : Ev (fun k => impl_DecodeName.f k (ofL s)) (cwres (dn s)) := by
 unfold impl_DecodeName.f
 rw [size_ofL, dn_eq]
 by_cases h : s.length > 600
 ·
  rw [if_pos h]; exact ev_pos (by omega) (ev_eq (ev_some _) rfl)
 ·
  rw [if_neg h]
  have := impl_DecodeName_loop (spl s) (by have := spl_len s; omega) (fun x hx => by have := (spl_mem s x hx).1; omega) (spl s) [] false [] rfl (by simp)
  have e0 : (⟨#[]⟩ : ByteArray) = ofL [] := rfl
  refine ev_neg (by omega) (ev_bind0 (strings_Split_eq s hs) ?_)
  rw [List.length_map, e0]
  simpa using this
theorem spec_DecodeName_ev (s : Str) (hs : s.length ≤ 1048576) : Ev (fun k => spec_DecodeName.f k (ofL s)) (cwres (dn s)) := by
 unfold spec_DecodeName.f
 rw [size_ofL, dn_eq]
 by_cases h : s.length > 600
 ·
  rw [if_pos h]; exact ev_pos (by omega) (ev_eq (ev_some _) rfl)
 ·
  rw [if_neg h]
  have := spec_DecodeName_loop (spl s) (by have := spl_len s; omega) (fun x hx => by have := (spl_mem s x hx).1; omega) (spl s) [] false [] rfl (by simp)
  have e0 : (⟨#[]⟩ : ByteArray) = ofL [] := rfl
  refine ev_neg (by omega) (ev_bind (spec_l2Parts_ev s hs) ?_)
  rw [e0]
  simpa using this

/-! Names written, and read again. -/
def trim (l : Str) : Str := Lib.trimB l 32
theorem impl_NeedsCode_ev (s : Str) (hs : s.length ≤ 1048576) : ∃ nc : Bool, Ev (fun k => impl_NeedsCode.f k (ofL s)) nc ∧ (nc = false → Lib.contains s [61, 63] = false ∧ s.length ≤ 120) := by
 unfold impl_NeedsCode.f
 cases h1 : tvalid s with
 | false => exact ⟨true, ev_bind (impl_TextValid_ev s (by omega)) (ev_neg (by simp [h1]) (ev_some _)), fun h => by cases h⟩
 | true =>
  have ht : strings_Trim.f (ofL s) ⟨#[32]⟩ = some (ofL (trim s)) := by
   unfold strings_Trim.f
   rw [if_pos rfl, if_pos (by rw [size_ofL]; omega)]
   rfl
  have hc : strings_Contains.f (ofL s) ⟨#[61, 63]⟩ = some (Lib.contains s [61, 63]) := by
   unfold strings_Contains.f
   rw [if_pos (by rw [size_ofL]; omega)]
   rfl
  by_cases h2 : (ofL (trim s)).toList = (ofL s).toList
  ·
   cases h3 : Lib.contains s [61, 63] with
   | true => exact ⟨true, ev_bind (impl_TextValid_ev s (by omega)) (ev_pos h1 (ev_bind0 ht (ev_pos h2 (ev_bind0 hc (ev_pos h3 (ev_some _)))))), fun h => by cases h⟩
   | false =>
    refine ⟨decide (((ofL s).size : Int) > 120), ev_bind (impl_TextValid_ev s (by omega)) (ev_pos h1 (ev_bind0 ht (ev_pos h2 (ev_bind0 hc (ev_neg (by simp [h3]) (ev_some _)))))), fun h => ⟨rfl, ?_⟩⟩
    have := of_decide_eq_false h
    rw [size_ofL] at this
    omega
  ·
   exact ⟨true, ev_bind (impl_TextValid_ev s (by omega)) (ev_pos h1 (ev_bind0 ht (ev_neg h2 (ev_some _)))), fun h => by cases h⟩
/-- One word more: as many bytes as can be. -/
def joinS (ls : List Str) : Str := Lib.join ls [32]
theorem strings_Join_eq (ls : List Str) (hl : ls.length ≤ 1000000) (hj : (joinS ls).length ≤ 140737488355328) : strings_Join.f (ls.map ofL) ⟨#[32]⟩ = some (ofL (joinS ls)) := by
 have e : (ls.map ofL).map (·.data.toList) = ls := by
  rw [List.map_map]
  exact (List.map_congr_left (fun x _ => rfl)).trans (List.map_id ls)
 unfold strings_Join.f
 rw [List.length_map, if_pos (by omega), e]
 have e2 : (⟨#[32]⟩ : ByteArray).data.toList = ([32] : Str) := rfl
 rw [e2, if_pos (show (Lib.join ls [32]).length ≤ 140737488355328 from hj)]
 rfl
theorem join_one (x : Str) : joinS [x] = x := by simp [joinS, Lib.join]
theorem join_more (x y : Str) (r : List Str) : joinS (x :: y :: r) = x ++ 32 :: joinS (y :: r) := by simp [joinS, Lib.join]
theorem join_len (ls : List Str) (h : ∀ x ∈ ls, x.length ≤ 40) : (joinS ls).length ≤ 41 * ls.length := by
 induction ls with
 | nil => simp [joinS, Lib.join]
 | cons x r ih =>
  have hx := h x (by simp)
  cases r with
  | nil => rw [join_one]; simp only [List.length_cons, List.length_nil]; omega
  | cons y r =>
   have := ih (fun z hz => h z (by simp [List.mem_cons.mp hz]))
   rw [join_more]
   simp only [List.length_append, List.length_cons] at this ⊢
   omega
/-- The words of a name. -/
def good (chunks : List Str) : Prop := ∀ c ∈ chunks, c ≠ [] ∧ (cw c).length ≤ 40
theorem encode_ev : ∀ (m : Nat) (b : Str) (acc : List Str), b.length ≤ m → b.length ≤ 120 → acc.length + b.length ≤ 1000 → (∀ x ∈ acc, x.length ≤ 40) →
  ∃ chunks : List Str, Ev (fun k => impl_EncodeName.l0 k (ofL b) (acc.map ofL)) (ofL (joinS (acc ++ chunks.map cw)), true) ∧ chunks.flatten = b ∧ good chunks ∧ 9 * chunks.length ≤ b.length + 8 := by
 intro m
 induction m with
 | zero =>
  intro b acc h h2 h3 h4
  have : b = [] := List.length_eq_zero_iff.mp (by omega)
  subst this
  have hj := join_len acc h4
  refine ⟨[], ev_succ ?_, rfl, fun c hc => (by cases hc), by simp⟩
  simp only [impl_EncodeName.l0, size_ofL]
  refine ev_neg (by simp) (ev_bind0 (strings_Join_eq acc (by omega) (by omega)) (ev_eq (ev_some _) (by simp)))
 | succ m ih =>
  intro b acc h h2 h3 h4
  by_cases hne : b = []
  ·
   subst hne
   have hj := join_len acc h4
   refine ⟨[], ev_succ ?_, rfl, fun c hc => (by cases hc), by simp⟩
   simp only [impl_EncodeName.l0, size_ofL]
   refine ev_neg (by simp) (ev_bind0 (strings_Join_eq acc (by omega) (by omega)) (ev_eq (ev_some _) (by simp)))
  ·
   have hpos : 0 < b.length := List.length_pos_iff.mpr hne
   /- the size of the first word -/
   have h1 : (cw (b.take 1)).length ≤ 40 := by
    have l1 := cw_len (b.take 1)
    have l2 := (cd_len (b.take 1)).2
    rw [List.length_take] at l2
    omega
   have big : ∃ n : Nat, 1 ≤ n ∧ n ≤ b.length ∧ (cw (b.take n)).length ≤ 40 ∧ (n = b.length ∨ 9 ≤ n) ∧ ∀ v, Ev (fun k => impl_EncodeName.l0 k (ofL (b.drop n)) ((acc ++ [cw (b.take n)]).map ofL)) v → Ev (fun k => impl_EncodeName.l1 k (ofL b) (acc.map ofL) 1) v := by
    have walk : ∀ (d n : Nat), b.length - n = d → 1 ≤ n → n ≤ b.length → (cw (b.take n)).length ≤ 40 → ∃ n' : Nat, 1 ≤ n' ∧ n' ≤ b.length ∧ (cw (b.take n')).length ≤ 40 ∧ (n' = b.length ∨ 9 ≤ n') ∧ ∀ v, Ev (fun k => impl_EncodeName.l0 k (ofL (b.drop n')) ((acc ++ [cw (b.take n')]).map ofL)) v → Ev (fun k => impl_EncodeName.l1 k (ofL b) (acc.map ofL) (n : Int)) v := by
     have cut : ∀ n : Nat, (ofL b).extract 0 n = ofL (b.take n) := fun n => by rw [extract_ofL, List.drop_zero, Nat.sub_zero]
     have rest : ∀ n : Nat, (ofL b).extract n b.length = ofL (b.drop n) := fun n => by rw [extract_ofL, List.take_of_length_le (by simp)]
     intro d
     induction d with
     | zero =>
      intro n hm q1 q2 q3
      refine ⟨n, q1, q2, q3, Or.inl (by omega), fun v hnx => ev_succ ?_⟩
      rw [List.map_append, List.map_singleton] at hnx
      simp only [impl_EncodeName.l1, size_ofL, Int.toNat_natCast, cut, rest, List.length_map]
      exact ev_neg (by omega) (ev_pos (by omega) (ev_pos (by omega) (ev_bind (impl_codeWord_ev _ (by rw [List.length_take]; omega)) (ev_pos (by omega) hnx))))
     | succ d ihd =>
      intro n hm q1 q2 q3
      have w1 : wrap64 ((n : Int) + 1) = ((n + 1 : Nat) : Int) := (wrap_id (by omega) (by omega)).trans (by omega)
      by_cases h4 : (cw (b.take (n + 1))).length ≤ 40
      ·
       obtain ⟨n', p1, p2, p3, p4, p5⟩ := ihd (n + 1) (by omega) (by omega) (by omega) h4
       refine ⟨n', p1, p2, p3, p4, fun v hv => ev_succ ?_⟩
       simp only [impl_EncodeName.l1, size_ofL, w1, Int.toNat_natCast, cut, rest, List.length_map]
       clear w1
       refine ev_pos (by omega) (ev_pos (by omega) (ev_pos (by omega) (ev_bind (impl_codeWord_ev _ (by rw [List.length_take]; omega)) ?_)))
       rw [size_ofL]
       exact ev_pos (by omega) (p5 v hv)
      ·
       have h9 : 9 ≤ n := by
        have l1 := cw_len (b.take (n + 1))
        have l2 := (cd_len (b.take (n + 1))).2
        rw [List.length_take] at l2
        omega
       refine ⟨n, q1, q2, q3, Or.inr h9, fun v hnx => ev_succ ?_⟩
       rw [List.map_append, List.map_singleton] at hnx
       simp only [impl_EncodeName.l1, size_ofL, w1, Int.toNat_natCast, cut, rest, List.length_map]
       clear w1
       refine ev_pos (by omega) (ev_pos (by omega) (ev_pos (by omega) (ev_bind (impl_codeWord_ev _ (by rw [List.length_take]; omega)) ?_)))
       rw [size_ofL]
       exact ev_neg (by omega) (ev_pos (by omega) (ev_pos (by omega) (ev_bind (impl_codeWord_ev _ (by rw [List.length_take]; omega)) (ev_pos (by omega) hnx))))
    obtain ⟨n', p1, p2, p3, p4, p5⟩ := walk (b.length - 1) 1 rfl (by omega) (by omega) h1
    exact ⟨n', p1, p2, p3, p4, fun v hv => p5 v hv⟩
   obtain ⟨n, n1, n2, n3, n4, n5⟩ := big
   obtain ⟨chunks, i1, i2, i3, i4⟩ := ih (b.drop n) (acc ++ [cw (b.take n)]) (by rw [List.length_drop]; omega) (by rw [List.length_drop]; omega) (by rw [List.length_drop, List.length_append]; simp only [List.length_cons, List.length_nil]; omega) (fun x hx => by
    rcases List.mem_append.mp hx with hx | hx
    ·
     exact h4 x hx
    ·
     rw [List.mem_singleton.mp hx]; exact n3)
   rw [List.length_drop] at i4
   refine ⟨b.take n :: chunks, ev_succ ?_, by rw [List.flatten_cons, i2, List.take_append_drop], fun c hc => ?_, ?_⟩
   ·
    simp only [impl_EncodeName.l0, size_ofL]
    refine ev_pos (by omega) (n5 _ (ev_eq i1 ?_))
    simp
   ·
    rcases List.mem_cons.mp hc with rfl | hc
    ·
     exact ⟨fun e => by have := congrArg List.length e; rw [List.length_take, List.length_nil] at this; omega, n3⟩
    ·
     exact i3 c hc
   ·
    rcases n4 with n4 | n4
    ·
     have : chunks = [] := by
      have h0 : chunks.flatten = [] := by rw [i2, n4, List.drop_length]
      cases chunks with
      | nil => rfl
      | cons c r =>
       have := (i3 c (by simp)).1
       rw [List.flatten_cons] at h0
       exact absurd (List.append_eq_nil_iff.mp h0).1 this
     subst this
     simp only [List.length_cons, List.length_nil]; omega
    ·
     simp only [List.length_cons]; omega
theorem good_cwO {c : Str} (h : c ≠ [] ∧ (cw c).length ≤ 40) : cwO c = some (cw c) := by
 have l1 := cw_len c
 have l2 := (cd_len c).1
 unfold cwO
 rw [if_neg (fun hh => hh.elim h.1 (fun hh => hh.elim (fun hh => by omega) (fun hh => by omega)))]
/-- Words that are joined are divided again. -/
theorem spl_join (ws : List Str) (hne : ws ≠ []) (h : ∀ w ∈ ws, ∀ c ∈ w, c ≠ 32) : spl (joinS ws) = ws := by
 induction ws with
 | nil => exact absurd rfl hne
 | cons x r ih =>
  cases r with
  | nil => rw [join_one]; exact spl_free x (h x (by simp))
  | cons y r => rw [join_more, spl_cut x _ (h x (by simp)), ih (by simp) (fun w hw => h w (by simp [List.mem_cons.mp hw]))]
theorem dgo_words (chunks : List Str) (hg : good chunks) : ∀ (later : Bool) (out : Str), dgo (chunks.map cw) later true out = out ++ chunks.flatten := by
 induction chunks with
 | nil => intro later out; simp [dgo]
 | cons c r ih =>
  intro later out
  have hc := rcw_some (good_cwO (hg c (by simp)))
  rw [List.map_cons, dgo_cons, hc, Option.isSome_some, ih (fun d hd => hg d (by simp [hd]))]
  simp
theorem dgo_words0 (chunks : List Str) (hg : good chunks) : dgo (chunks.map cw) false false [] = chunks.flatten := by
 cases chunks with
 | nil => rfl
 | cons c r =>
  have hc := rcw_some (good_cwO (hg c (by simp)))
  rw [List.map_cons, dgo_cons, hc, Option.isSome_some, dgo_words r (fun d hd => hg d (by simp [hd]))]
  simp
/-- A part of a text is a piece of it. -/
theorem spl_piece (s : Str) : ∀ x ∈ spl s, ∃ p t, s = p ++ x ++ t := by
 induction s with
 | nil => intro x hx; simp only [spl, List.mem_singleton] at hx; subst hx; exact ⟨[], [], rfl⟩
 | cons c r ih =>
  have first : ∀ (y : Str) (l : List Str), spl r = y :: l → ∃ t, r = y ++ t := by
   have key : ∀ (r : Str) (y : Str) (l : List Str), spl r = y :: l → ∃ t, r = y ++ t := by
    intro r
    induction r with
    | nil => intro y l h; simp only [spl, List.cons.injEq] at h; rw [← h.1]; exact ⟨[], rfl⟩
    | cons d r ihr =>
     intro y l h
     rw [spl] at h
     split at h
     ·
      simp only [List.cons.injEq] at h; rw [← h.1]; exact ⟨d :: r, rfl⟩
     ·
      cases e : spl r with
      | nil => exact absurd e (spl_ne r)
      | cons z l' =>
       rw [e, hd1] at h
       simp only [List.cons.injEq] at h
       obtain ⟨t, ht⟩ := ihr z l' e
       rw [← h.1, ht]
       exact ⟨t, rfl⟩
   exact key r
  intro x hx
  rw [spl] at hx
  split at hx
  ·
   rcases List.mem_cons.mp hx with rfl | hx
   ·
    exact ⟨[], c :: r, rfl⟩
   ·
    obtain ⟨p, t, h⟩ := ih x hx
    exact ⟨c :: p, t, by rw [h]; rfl⟩
  ·
   cases e : spl r with
   | nil => exact absurd e (spl_ne r)
   | cons y l =>
    rw [e, hd1] at hx
    rcases List.mem_cons.mp hx with rfl | hx
    ·
     obtain ⟨t, ht⟩ := first y l e
     exact ⟨[], t, by rw [ht]; rfl⟩
    ·
     obtain ⟨p, t, h⟩ := ih x (by rw [e]; exact List.mem_cons_of_mem _ hx)
     exact ⟨c :: p, t, by rw [h]; rfl⟩
theorem contains_mid (p t : Str) : Lib.contains (p ++ [61, 63] ++ t) [61, 63] = true := by
 have key : 0 ≤ Lib.index (p ++ [61, 63] ++ t) [61, 63] := by
  induction p with
  | nil =>
   show 0 ≤ Lib.index (61 :: 63 :: t) [61, 63]
   rw [Lib.index, if_pos (by simp [List.isPrefixOf])]
   omega
  | cons c p ih =>
   rw [List.cons_append, List.cons_append, Lib.index]
   split
   ·
    omega
   ·
    split
    ·
     rename_i h
     have : Lib.index (p ++ [61, 63] ++ t) [61, 63] = -1 := by simpa using h
     omega
    ·
     omega
 unfold Lib.contains
 exact decide_eq_true key
theorem plain_none {s : Str} (h : Lib.contains s [61, 63] = false) : ∀ x ∈ spl s, rcw x = none := by
 intro x hx
 refine rcw_none (fun b hb => ?_)
 obtain ⟨p, t, hs⟩ := spl_piece s x hx
 obtain ⟨h1, _⟩ := cwO_some hb
 have : s = p ++ [61, 63] ++ (cb.drop 2 ++ cd b ++ ce ++ t) := by rw [hs, h1]; simp [cw, cb]
 rw [this, contains_mid] at h
 cases h
theorem dgo_plain (ls : List Str) (h : ∀ x ∈ ls, rcw x = none) : ∀ (coded : Bool) (out : Str), dgo ls true coded out = out ++ (ls.map (32 :: ·)).flatten := by
 induction ls with
 | nil => intro coded out; simp [dgo]
 | cons x r ih =>
  intro coded out
  rw [dgo_cons, h x (by simp), ih (fun y hy => h y (by simp [hy]))]
  simp
theorem spl_whole (s : Str) : ∀ y l, spl s = y :: l → s = y ++ (l.map (32 :: ·)).flatten := by
 induction s with
 | nil => intro y l h; simp only [spl, List.cons.injEq] at h; obtain ⟨rfl, rfl⟩ := h; rfl
 | cons c r ih =>
  intro y l h
  cases e : spl r with
  | nil => exact absurd e (spl_ne r)
  | cons z l' =>
   have hr := ih z l' e
   rw [spl] at h
   split at h
   ·
    rename_i hc
    rw [e] at h
    simp only [List.cons.injEq] at h
    obtain ⟨rfl, rfl⟩ := h
    rw [hc, hr]; simp
   ·
    rw [e, hd1] at h
    simp only [List.cons.injEq] at h
    obtain ⟨rfl, rfl⟩ := h
    rw [hr]; rfl
theorem dn_plain {s : Str} (h : Lib.contains s [61, 63] = false) (hl : s.length ≤ 120) : dn s = some s := by
 have hp := plain_none h
 rw [dn_eq, if_neg (by omega)]
 cases e : spl s with
 | nil => exact absurd e (spl_ne s)
 | cons y l =>
  have hw := spl_whole s y l e
  rw [e] at hp
  rw [dgo_cons, hp y (by simp), dgo_plain l (fun x hx => hp x (by simp [hx]))]
  have e2 : ([] ++ (if false = true ∧ ¬ (false = true ∧ (none : Option Str).isSome = true) then [32] else []) ++ (none : Option Str).getD y ++ (l.map (32 :: ·)).flatten) = s := by simpa using hw.symm
  unfold fit
  rw [e2, if_neg (by omega)]
theorem dn_words {b : Str} {chunks : List Str} (h1 : chunks.flatten = b) (h2 : good chunks) (h3 : 9 * chunks.length ≤ b.length + 8) (hl : b.length ≤ 120) : dn (joinS (chunks.map cw)) = some b := by
 have hj := join_len (chunks.map cw) (fun x hx => by
  obtain ⟨c, hc, rfl⟩ := List.mem_map.mp hx
  exact (h2 c hc).2)
 rw [List.length_map] at hj
 cases chunks with
 | nil =>
  rw [← h1]
  exact dn_plain (s := []) (by decide) (by simp)
 | cons c r =>
  rw [dn_eq, if_neg (by omega)]
  rw [spl_join _ (by simp) (fun w hw => by
   obtain ⟨d, hd, rfl⟩ := List.mem_map.mp hw
   exact cw_no32 d), dgo_words0 _ h2, h1]
  unfold fit
  rw [if_neg (by omega)]

/-! Spaces trimmed by the reference. -/
theorem dropWhile_suf (p : UInt8 → Bool) (l : Str) : ∃ m, l = m ++ l.dropWhile p ∧ ∀ c ∈ m, p c = true := by
 induction l with
 | nil => exact ⟨[], rfl, by simp⟩
 | cons c r ih =>
  cases e : p c with
  | true =>
   obtain ⟨m, h1, h2⟩ := ih
   refine ⟨c :: m, by simp [List.dropWhile, e]; exact h1, fun d hd => ?_⟩
   rcases List.mem_cons.mp hd with rfl | hd
   ·
    exact e
   ·
    exact h2 d hd
  | false => exact ⟨[], by simp [List.dropWhile, e], by simp⟩
theorem trim_cons (l : Str) : trim (32 :: l) = trim l := by
 unfold trim Lib.trimB Lib.trimLeftB Lib.trimRightB
 rw [List.reverse_cons, List.dropWhile_append]
 split
 ·
  rename_i h
  have : l.reverse.dropWhile (· == 32) = [] := by simpa using h
  rw [this]; rfl
 ·
  rw [List.reverse_append]; simp
def trimR (l : Str) : Str := (l.reverse.dropWhile (· == 32)).reverse
theorem trimR_snoc (l : Str) (c : UInt8) : trimR (l ++ [c]) = if c = 32 then trimR l else l ++ [c] := by
 unfold trimR
 rw [List.reverse_append, List.reverse_singleton, List.singleton_append, List.dropWhile]
 by_cases h : c = 32
 ·
  simp [h]
 ·
  rw [show (c == 32) = false by simp [h]]; simp [h]
theorem spec_l2Trim_right : ∀ (n : Nat) (s : Str), s.length ≤ n → s.length ≤ 1048576 → Ev (fun k => spec_l2Trim.l1 k (ofL s)) (ofL (trimR s)) := by
 intro n
 induction n with
 | zero =>
  intro s h _
  have : s = [] := List.length_eq_zero_iff.mp (by omega)
  subst this
  refine ev_succ ?_
  simp only [spec_l2Trim.l1, size_ofL]
  exact ev_neg (by simp) (ev_eq (ev_some _) rfl)
 | succ n ih =>
  intro s h hl
  rcases List.eq_nil_or_concat s with rfl | ⟨p, c, rfl⟩
  ·
   refine ev_succ ?_
   simp only [spec_l2Trim.l1, size_ofL]
   exact ev_neg (by simp) (ev_eq (ev_some _) rfl)
  ·
   rw [List.concat_eq_append] at *
   simp only [List.length_append, List.length_cons, List.length_nil] at h hl
   have hz : (p ++ [c]).length = p.length + 1 := by simp
   have e1 := bt_ofL_mid (l := p ++ [c]) (p := p) (c := c) (r := []) rfl
   have w1 : wrap64 (((p ++ [c]).length : Int) - 1) = ((p.length : Nat) : Int) := (wrap_id (by omega) (by omega)).trans (by omega)
   have h32 : (c.toNat : Int) = 32 ↔ c = 32 := u8_eq c 32 (by omega)
   have x1 : ((p ++ [c]).drop 0).take (p.length - 0) = p := by rw [List.drop_zero, Nat.sub_zero, List.take_left]
   refine ev_succ ?_
   simp only [spec_l2Trim.l1, size_ofL, w1, e1, Int.toNat_natCast, extract_ofL, x1]
   clear e1 w1 x1
   rw [trimR_snoc]
   refine ev_pos (by omega) (ev_pos (by omega) (ev_pos (by omega) ?_))
   by_cases c1 : (c.toNat : Int) = 32
   ·
    rw [if_pos (h32.mp c1)]
    exact ev_pos c1 (ev_pos (by omega) (ih p (by omega) (by omega)))
   ·
    rw [if_neg (fun hh => c1 (h32.mpr hh))]
    exact ev_neg c1 (ev_some _)
theorem trim_cons_ne (c : UInt8) (r : Str) (h : c ≠ 32) : trim (c :: r) = trimR (c :: r) := by
 unfold trim Lib.trimB Lib.trimLeftB Lib.trimRightB trimR
 obtain ⟨m, h1, h2⟩ := dropWhile_suf (· == 32) (c :: r).reverse
 have h3 := congrArg List.reverse h1
 rw [List.reverse_reverse, List.reverse_append] at h3
 cases e : ((c :: r).reverse.dropWhile (· == 32)).reverse with
 | nil =>
  rw [e, List.nil_append] at h3
  have : c ∈ m := by
   have : c ∈ m.reverse := by rw [← h3]; simp
   exact List.mem_reverse.mp this
  exact absurd (by simpa using h2 c this) h
 | cons d u =>
  rw [e] at h3
  injection h3 with h4 h5
  subst h4
  rw [List.dropWhile, show (c == 32) = false by simp [h]]
theorem spec_l2Trim_ev (s : Str) (hl : s.length ≤ 1048576) : Ev (fun k => spec_l2Trim.f k (ofL s)) (ofL (trim s)) := by
 unfold spec_l2Trim.f
 induction s with
 | nil =>
  refine ev_succ ?_
  simp only [spec_l2Trim.l0, size_ofL]
  refine ev_neg (by simp) (ev_succ ?_)
  simp only [spec_l2Trim.j1]
  exact spec_l2Trim_right 0 [] (by simp) (by simp)
 | cons c r ih =>
  simp only [List.length_cons] at hl
  have hz : (c :: r).length = r.length + 1 := rfl
  have h32 : (c.toNat : Int) = 32 ↔ c = 32 := u8_eq c 32 (by omega)
  have x1 : ((c :: r).drop 1).take ((c :: r).length - 1) = r := by rw [List.drop_one, List.tail_cons, hz, List.take_of_length_le (by omega)]
  refine ev_succ ?_
  simp only [spec_l2Trim.l0, size_ofL, bt_zero, extract_ofL, x1]
  clear x1
  refine ev_pos (by omega) (ev_pos (by omega) ?_)
  by_cases c1 : (c.toNat : Int) = 32
  ·
   rw [h32.mp c1, trim_cons]
   exact ev_pos (by decide) (ev_pos (by simp; omega) (ih (by omega)))
  ·
   rw [trim_cons_ne c r (fun hh => c1 (h32.mpr hh))]
   refine ev_neg c1 (ev_succ ?_)
   simp only [spec_l2Trim.j1]
   exact spec_l2Trim_right (r.length + 1) (c :: r) (by simp) (by simp; omega)

/-! Names that are drawn. -/
theorem spec_NeedsCode_ev (s : Str) (hs : s.length ≤ 1048576) : ∃ nc : Bool, Ev (fun k => spec_NeedsCode.f k (ofL s)) nc := by
 have key : ∀ (d i : Nat), s.length - i = d → i ≤ s.length → ∃ nc : Bool, Ev (fun k => spec_NeedsCode.l0 k (ofL s) (i : Int)) nc := by
  have fin : ∃ nc : Bool, Ev (fun k => (spec_TextValid.f k (ofL s)).bind fun t104 => (if t104 = true then ((spec_l2Trim.f k (ofL s)).bind fun t105 => (if t105.toList = (ofL s).toList then (some (decide (((ofL s).size : Int) > 120))) else (some true))) else (some true))) nc := by
   cases h1 : tvalid s with
   | false => exact ⟨true, ev_bind (spec_TextValid_ev s (by omega)) (ev_neg (by simp [h1]) (ev_some _))⟩
   | true =>
    by_cases h2 : (ofL (trim s)).toList = (ofL s).toList
    ·
     exact ⟨_, ev_bind (spec_TextValid_ev s (by omega)) (ev_pos h1 (ev_bind (spec_l2Trim_ev s hs) (ev_pos h2 (ev_some _))))⟩
    ·
     exact ⟨true, ev_bind (spec_TextValid_ev s (by omega)) (ev_pos h1 (ev_bind (spec_l2Trim_ev s hs) (ev_neg h2 (ev_some _))))⟩
  intro d
  induction d with
  | zero =>
   intro i hd hi
   obtain ⟨nc, hn⟩ := fin
   refine ⟨nc, ev_succ ?_⟩
   simp only [spec_NeedsCode.l0]
   have w1 : wrap64 ((i : Int) + 1) = (i : Int) + 1 := wrap_id (by omega) (by omega)
   rw [w1]
   exact ev_neg (by rw [size_ofL]; omega) hn
  | succ d ih =>
   intro i hd hi
   have w1 : wrap64 ((i : Int) + 1) = ((i + 1 : Nat) : Int) := (wrap_id (by omega) (by omega)).trans (by omega)
   by_cases h1 : i + 1 < s.length
   ·
    obtain ⟨nc, hn⟩ := ih (i + 1) (by omega) (by omega)
    by_cases h2 : (bt (ofL s) (i : Int)) = 61
    ·
     by_cases h3 : (bt (ofL s) ((i + 1 : Nat) : Int)) = 63
     ·
      refine ⟨true, ev_succ ?_⟩
      simp only [spec_NeedsCode.l0, w1, size_ofL]
      exact ev_pos (by omega) (ev_pos (by omega) (ev_pos (by omega) (ev_pos h2 (ev_pos (by omega) (ev_pos h3 (ev_some _))))))
     ·
      refine ⟨nc, ev_succ ?_⟩
      simp only [spec_NeedsCode.l0, w1, size_ofL]
      exact ev_pos (by omega) (ev_pos (by omega) (ev_pos (by omega) (ev_pos h2 (ev_pos (by omega) (ev_neg h3 hn)))))
    ·
     refine ⟨nc, ev_succ ?_⟩
     simp only [spec_NeedsCode.l0, w1, size_ofL]
     exact ev_pos (by omega) (ev_pos (by omega) (ev_pos (by omega) (ev_neg h2 hn)))
   ·
    obtain ⟨nc, hn⟩ := fin
    refine ⟨nc, ev_succ ?_⟩
    simp only [spec_NeedsCode.l0, w1]
    exact ev_neg (by rw [size_ofL]; omega) hn
 unfold spec_NeedsCode.f
 exact key s.length 0 rfl (by omega)
theorem cwres_len (b : Str) : ∃ u : Str, (cwres (cwO b)).1 = ofL u ∧ u.length ≤ 40 := by
 cases e : cwO b with
 | none => exact ⟨[], rfl, by simp⟩
 | some s => exact ⟨s, rfl, (cwO_some e).2.2.2⟩
theorem spec_EncodeName_ev (b : Str) (hb : b.length ≤ 1048576) : ∃ (s : Str) (ok : Bool), Ev (fun k => spec_EncodeName.f k (ofL b)) (ofL s, ok) ∧ s.length ≤ 100000 := by
 unfold spec_EncodeName.f
 rw [size_ofL]
 by_cases h : b.length > 120
 ·
  exact ⟨[], false, ev_pos (by omega) (ev_eq (ev_some _) rfl), by simp⟩
 ·
  obtain ⟨nc, hn⟩ := spec_NeedsCode_ev b hb
  cases nc with
  | false => exact ⟨b, true, ev_neg (by omega) (ev_bind hn (ev_neg (by simp) (ev_some _))), by omega⟩
  | true =>
   have ext : ∀ i j : Nat, (ofL b).extract i j = ofL ((b.drop i).take (j - i)) := fun i j => extract_ofL b i j
   have key : ∀ (m i : Nat) (out : Str), b.length - i ≤ m → i ≤ b.length → out.length ≤ 50 * i → ∃ s : Str, Ev (fun k => spec_EncodeName.l0 k (ofL b) (ofL out) (i : Int)) (ofL s, true) ∧ s.length ≤ 100000 := by
    intro m
    induction m with
    | zero =>
     intro i out hm hi ho
     refine ⟨out, ev_succ ?_, by omega⟩
     simp only [spec_EncodeName.l0, size_ofL]
     exact ev_neg (by omega) (ev_some _)
    | succ m ih =>
     intro i out hm hi ho
     by_cases hlt : i < b.length
     ·
      have inner : ∀ (d j : Nat), b.length - j = d → i < j → j ≤ b.length → ∃ s : Str, Ev (fun k => spec_EncodeName.l1 k (ofL b) (ofL out) (i : Int) (j : Int)) (ofL s, true) ∧ s.length ≤ 100000 := by
       have e32 : (⟨#[32]⟩ : ByteArray) = ofL [32] := rfl
       have put : ∀ j : Nat, i < j → j ≤ b.length → ∃ s : Str, Ev (fun k => (spec_CodeWord.f k (ofL ((b.drop i).take (j - i)))).bind fun bt => (if (i : Int) > 0 then (if (ofL out).size + 1 ≤ 9223372036854775807 then (if ((ofL out) ++ (⟨#[32]⟩ : ByteArray)).size + bt.1.size ≤ 9223372036854775807 then (spec_EncodeName.l0 k (ofL b) (((ofL out) ++ (⟨#[32]⟩ : ByteArray)) ++ bt.1) (j : Int)) else (none)) else (none)) else (if (ofL out).size + bt.1.size ≤ 9223372036854775807 then (spec_EncodeName.l0 k (ofL b) ((ofL out) ++ bt.1) (j : Int)) else (none)))) (ofL s, true) ∧ s.length ≤ 100000 := by
        intro j h1 h2
        have hcw := spec_CodeWord_ev ((b.drop i).take (j - i)) (by rw [List.length_take, List.length_drop]; omega)
        obtain ⟨u, hu, hul⟩ := cwres_len ((b.drop i).take (j - i))
        by_cases h0 : 0 < i
        ·
         obtain ⟨s, hs, hsl⟩ := ih j (out ++ [32] ++ u) (by omega) h2 (by simp only [List.length_append, List.length_cons, List.length_nil]; omega)
         refine ⟨s, ev_bind hcw (ev_pos (by omega) ?_), hsl⟩
         simp only [hu, e32, size_ofL, ofL_append]
         exact ev_pos (by omega) (ev_pos (by simp only [List.length_append, List.length_cons, List.length_nil]; omega) hs)
        ·
         obtain ⟨s, hs, hsl⟩ := ih j (out ++ u) (by omega) h2 (by simp only [List.length_append]; omega)
         refine ⟨s, ev_bind hcw (ev_neg (by omega) ?_), hsl⟩
         simp only [hu, size_ofL, ofL_append]
         exact ev_pos (by omega) hs
       intro d
       induction d with
       | zero =>
        intro j hd h1 h2
        obtain ⟨s, hs, hsl⟩ := put j h1 h2
        refine ⟨s, ev_succ ?_, hsl⟩
        simp only [spec_EncodeName.l1, Int.toNat_natCast, ext]
        exact ev_neg (by rw [size_ofL]; omega) (ev_pos (by omega) (ev_pos (by omega) (ev_pos (by rw [size_ofL]; omega) hs)))
       | succ d ihd =>
        intro j hd h1 h2
        have w1 : wrap64 ((j : Int) + 1) = ((j + 1 : Nat) : Int) := (wrap_id (by omega) (by omega)).trans (by omega)
        have hcd := spec_l6Code_ev ((b.drop i).take (j + 1 - i)) (by rw [List.length_take, List.length_drop]; omega)
        by_cases h4 : (cd ((b.drop i).take (j + 1 - i))).length ≤ 28
        ·
         obtain ⟨s, hs, hsl⟩ := ihd (j + 1) (by omega) (by omega) (by omega)
         refine ⟨s, ev_succ ?_, hsl⟩
         simp only [spec_EncodeName.l1, Int.toNat_natCast, ext, w1]
         clear w1
         exact ev_pos (by rw [size_ofL]; omega) (ev_pos (by omega) (ev_pos (by omega) (ev_pos (by rw [size_ofL]; omega) (ev_bind hcd (ev_pos (by rw [size_ofL]; omega) hs)))))
        ·
         obtain ⟨s, hs, hsl⟩ := put j h1 h2
         refine ⟨s, ev_succ ?_, hsl⟩
         simp only [spec_EncodeName.l1, Int.toNat_natCast, ext, w1]
         clear w1
         exact ev_pos (by rw [size_ofL]; omega) (ev_pos (by omega) (ev_pos (by omega) (ev_pos (by rw [size_ofL]; omega) (ev_bind hcd (ev_neg (by rw [size_ofL]; omega) (ev_pos (by omega) (ev_pos (by rw [size_ofL]; omega) hs)))))))
      have w1 : wrap64 ((i : Int) + 1) = ((i + 1 : Nat) : Int) := (wrap_id (by omega) (by omega)).trans (by omega)
      obtain ⟨s, hs, hsl⟩ := inner _ (i + 1) rfl (by omega) (by omega)
      refine ⟨s, ev_succ ?_, hsl⟩
      simp only [spec_EncodeName.l0, size_ofL, w1]
      clear w1
      exact ev_pos (by omega) hs
     ·
      refine ⟨out, ev_succ ?_, by omega⟩
      simp only [spec_EncodeName.l0, size_ofL]
      exact ev_neg (by omega) (ev_some _)
   obtain ⟨s, hs, hsl⟩ := key b.length 0 [] (by omega) (by omega) (by simp)
   exact ⟨s, true, ev_neg (by omega) (ev_bind hn (ev_pos rfl hs)), hsl⟩
theorem l6Draw_ev (l : List Int) (hl : IsB l) (p : Int) (h0 : 0 ≤ p) (h1 : p ≤ 1000) : ∃ (s : Str) (q : Int), Ev (fun k => spec_l6Draw.f k l p) (ofL s, q) ∧ s.length ≤ 1000 ∧ 0 ≤ q ∧ q ≤ p + 8 := by
 obtain ⟨n, hvn, hnm⟩ := num_ev l p [2, 1, 3, 0, 6] hl (by omega) (by omega) (by simp) (by simp)
 obtain ⟨m, rfl, hm⟩ := small_nat hnm 6 (by decide)
 have key : ∀ (m : Nat) (s : Str) (q : Int), m ≤ 6 → 0 ≤ q → q + m ≤ 100000 → s.length + 100 * m ≤ 1000 → ∃ (s' : Str) (q' : Int), Ev (fun k => spec_l6Draw.l0 k (ofL s) (m : Int) l q) (ofL s', q') ∧ s'.length ≤ 1000 ∧ 0 ≤ q' ∧ q' ≤ q + m := by
  intro m
  induction m with
  | zero =>
   intro s q h1 h2 h3 h4
   refine ⟨s, q, ev_succ ?_, by omega, h2, by omega⟩
   simp only [spec_l6Draw.l0]
   exact ev_neg (by omega) (ev_some _)
  | succ m ih =>
   intro s q h1 h2 h3 h4
   obtain ⟨v, hv, hmem⟩ := of_ev l q [(⟨#[90, 111, 195, 171]⟩ : ByteArray), (⟨#[32]⟩ : ByteArray), (⟨#[65, 110, 110, 32, 76, 101, 101]⟩ : ByteArray), (⟨#[61, 63]⟩ : ByteArray), (⟨#[97]⟩ : ByteArray), (⟨#[95]⟩ : ByteArray), (⟨#[97, 32, 108, 111, 110, 103, 101, 114, 32, 110, 97, 109, 101, 32, 111, 102, 32, 109, 97, 110, 121, 32, 119, 111, 114, 100, 115]⟩ : ByteArray), (⟨#[255]⟩ : ByteArray), (⟨#[61, 63, 117, 116, 102, 45, 56, 63, 113, 63, 120, 63, 61]⟩ : ByteArray), (⟨#[32, 32]⟩ : ByteArray)] hl h2 (by omega) (by simp) (by simp)
   have hvl : v.size ≤ 100 := by
    have : ∀ y ∈ [(⟨#[90, 111, 195, 171]⟩ : ByteArray), (⟨#[32]⟩ : ByteArray), (⟨#[65, 110, 110, 32, 76, 101, 101]⟩ : ByteArray), (⟨#[61, 63]⟩ : ByteArray), (⟨#[97]⟩ : ByteArray), (⟨#[95]⟩ : ByteArray), (⟨#[97, 32, 108, 111, 110, 103, 101, 114, 32, 110, 97, 109, 101, 32, 111, 102, 32, 109, 97, 110, 121, 32, 119, 111, 114, 100, 115]⟩ : ByteArray), (⟨#[255]⟩ : ByteArray), (⟨#[61, 63, 117, 116, 102, 45, 56, 63, 113, 63, 120, 63, 61]⟩ : ByteArray), (⟨#[32, 32]⟩ : ByteArray)], y.size ≤ 100 := by decide
    exact this v hmem
   obtain ⟨u, rfl⟩ : ∃ u, v = ofL u := ⟨L v, (ofL_L v).symm⟩
   rw [size_ofL] at hvl
   obtain ⟨s', q', i1, i2, i3, i4⟩ := ih (s ++ u) (q + 1) (by omega) (by omega) (by omega) (by rw [List.length_append]; omega)
   have w1 : wrap64 (((m + 1 : Nat) : Int) - 1) = (m : Int) := (wrap_id (by omega) (by omega)).trans (by omega)
   refine ⟨s', q', ev_succ ?_, i2, i3, by omega⟩
   simp only [spec_l6Draw.l0, w1]
   clear w1
   refine ev_pos (by omega) (ev_bind hv ?_)
   simp only [size_ofL, ofL_append]
   exact ev_pos (by omega) i1
 obtain ⟨s, q, i1, i2, i3, i4⟩ := key m [] (p + 1) hm (by omega) (by omega) (by simp; omega)
 refine ⟨s, q, ?_, i2, i3, by omega⟩
 unfold spec_l6Draw.f
 exact ev_bind hvn i1

theorem l1Bend_ev (l : List Int) (p : Int) (s : Str) (ws : List ByteArray) (hl : IsB l) (h0 : 0 ≤ p) (h1 : p ≤ 900000000) (hs : s.length ≤ 900000000) (hw : 1 ≤ ws.length) (hw2 : ws.length ≤ 1000000) (hx : ∀ x ∈ ws, (L x).length ≤ 1000) :
  ∃ (t : Str) (q : Int), Ev (fun k => spec_l1Bend.f k l p (ofL s) ws) (ofL t, q) ∧ t.length ≤ s.length + 1000 ∧ p ≤ q ∧ q ≤ p + 4 := by
 have key : ∀ (q : Int), p ≤ q → q ≤ p + 1 → 1 ≤ s.length → ∃ (t : Str) (q' : Int), Ev (fun k => spec_l1Bend.j0 k (ofL s) ws false l q) (ofL t, q') ∧ t.length ≤ s.length + 1000 ∧ p ≤ q' ∧ q' ≤ p + 4 := by
  intro q hq1 hq2 hs1
  obtain ⟨v, hv, v0, v1⟩ := pick_ev l q s.length hl (by omega) (by omega) (by omega) (by omega)
  obtain ⟨w, hw', hm⟩ := of_ev l (q + 1) ws hl (by omega) (by omega) hw hw2
  obtain ⟨u, hu, u0, u1⟩ := pick_ev l (q + 1 + 1) 2 hl (by omega) (by omega) (by omega) (by omega)
  have hwl := hx w hm
  obtain ⟨a, rfl⟩ : ∃ a, w = ofL a := ⟨L w, (ofL_L w).symm⟩
  rw [L_ofL] at hwl
  have w1 : wrap64 (v + u) = v + u := wrap_id (by omega) (by omega)
  have l1 : (List.take (v.toNat - 0) (List.drop 0 s)).length ≤ s.length := by simp; omega
  have l2 : (List.take (s.length - (v + u).toNat) (List.drop (v + u).toNat s)).length + v.toNat ≤ s.length := by simp; omega
  have l3 : (List.take (v.toNat - 0) (List.drop 0 s)).length ≤ v.toNat := by simp; omega
  refine ⟨List.take (v.toNat - 0) (List.drop 0 s) ++ a ++ List.take (s.length - (v + u).toNat) (List.drop (v + u).toNat s), q + 1 + 1 + 1, ev_succ ?_, ?_, by omega, by omega⟩
  ·
   simp only [spec_l1Bend.j0, size_ofL]
   refine ev_neg (by simp) (ev_bind hv ?_)
   simp only [extract_ofL, size_ofL]
   refine ev_pos v0 (ev_pos (by omega) (ev_bind hw' ?_))
   simp only [ofL_append, size_ofL]
   refine ev_pos (by omega) (ev_bind hu ?_)
   simp only [w1, ofL_append, size_ofL]
   clear w1
   exact ev_pos (by omega) (ev_pos (by omega) (ev_pos (by rw [List.length_append]; omega) (ev_some _)))
  ·
   rw [List.length_append, List.length_append]; omega
 have stay : ∀ (q : Int), p ≤ q → q ≤ p + 1 → ∃ (t : Str) (q' : Int), Ev (fun k => spec_l1Bend.j0 k (ofL s) ws true l q) (ofL t, q') ∧ t.length ≤ s.length + 1000 ∧ p ≤ q' ∧ q' ≤ p + 4 := by
  intro q hq1 hq2
  refine ⟨s, q, ev_succ ?_, by omega, by omega, by omega⟩
  simp only [spec_l1Bend.j0]
  exact ev_pos trivial (ev_some _)
 unfold spec_l1Bend.f
 by_cases hz : ((ofL s).size : Int) = 0
 ·
  obtain ⟨t, q, ht, h2⟩ := stay p (by omega) (by omega)
  exact ⟨t, q, ev_pos hz ht, h2⟩
 ·
  have hz2 : 1 ≤ s.length := by rw [size_ofL] at hz; omega
  obtain ⟨v, hv, v0, v1⟩ := pick_ev l p 2 hl h0 (by omega) (by omega) (by omega)
  by_cases hb : v = 0
  ·
   obtain ⟨t, q, ht, h2⟩ := stay (p + 1) (by omega) (by omega)
   refine ⟨t, q, ev_neg hz (ev_bind hv ?_), h2⟩
   rw [hb]; exact ht
  ·
   obtain ⟨t, q, ht, h2⟩ := key (p + 1) (by omega) (by omega) hz2
   refine ⟨t, q, ev_neg hz (ev_bind hv ?_), h2⟩
   have : (v == 0) = false := by simpa using hb
   rw [this]; exact ht

theorem dn_len {s b : Str} (h : dn s = some b) : b.length ≤ 120 := by
 rw [dn_eq] at h
 split at h
 ·
  cases h
 ·
  unfold fit at h
  split at h
  ·
   cases h
  ·
   cases h; omega
theorem DrawDecodeName_ev (l : List Int) (h : ∀ x ∈ l, (Lit.int .u8 x).wf = true) : ∃ s : Str, Ev (fun k => spec_DrawDecodeName.f k l) (ofL s) ∧ s.length ≤ 200000 := by
 obtain ⟨l', ho, hb⟩ := open_ev l h
 obtain ⟨s0, q, h1, h2, h3, h4⟩ := l6Draw_ev l' hb 0 (by omega) (by omega)
 obtain ⟨s1, ok, h5, h6⟩ := spec_EncodeName_ev s0 (by omega)
 obtain ⟨t, q2, h7, h8, _⟩ := l1Bend_ev l' q s1 [(⟨#[]⟩ : ByteArray), (⟨#[32]⟩ : ByteArray), (⟨#[120]⟩ : ByteArray), (⟨#[61]⟩ : ByteArray), (⟨#[63]⟩ : ByteArray)] hb h3 (by omega) (by omega) (by simp) (by simp) (by decide)
 refine ⟨t, ?_, by omega⟩
 unfold spec_DrawDecodeName.f
 exact ev_bind0 ho (ev_bind h1 (ev_bind h5 (ev_bind h7 (ev_some _))))
theorem FnDecodeName : laws_FnDecodeName.Pure := by
 intro l hlen hlen2 h
 apply ev_rounds
 unfold laws_FnDecodeName.f
 by_cases hc : (l.length : Int) > 1048576
 ·
  exact ev_pos hc (ev_some _)
 ·
  obtain ⟨s, hd, hs⟩ := DrawDecodeName_ev l h
  have i1 := impl_DecodeName_ev s (by omega)
  have i2 := spec_DecodeName_ev s (by omega)
  refine ev_neg hc (ev_bind hd (ev_bind i1 (ev_bind i2 (ev_pos rfl (ev_neg (by simp) (ev_succ ?_))))))
  cases e : dn s with
  | none =>
   simp only [cwres, laws_FnDecodeName.j0]
   exact ev_pos rfl (ev_pos trivial (ev_pos rfl (ev_eq (ev_some _) (by simp [toList_ofL]))))
  | some b =>
   have hb := dn_len e
   obtain ⟨nc, n1, n2⟩ := impl_NeedsCode_ev b (by omega)
   simp only [cwres, laws_FnDecodeName.j0]
   refine ev_neg (by simp) ?_
   cases nc with
   | false =>
    have i3 := impl_DecodeName_ev b (by omega)
    rw [dn_plain (n2 rfl).1 (n2 rfl).2] at i3
    have he : Ev (fun k => impl_EncodeName.f k (ofL b)) (ofL b, true) := by
     unfold impl_EncodeName.f
     rw [size_ofL]
     exact ev_neg (by omega) (ev_bind n1 (ev_neg (by simp) (ev_some _)))
    exact ev_bind he (ev_bind i3 (ev_pos rfl (ev_pos rfl (ev_eq (ev_some _) (by simp [cwres])))))
   | true =>
    obtain ⟨chunks, c1, c2, c3, c4⟩ := encode_ev b.length b [] (Nat.le_refl _) hb (by simp; omega) (by simp)
    rw [List.nil_append] at c1
    have hj := join_len (chunks.map cw) (fun x hx => by
     obtain ⟨c, hc, rfl⟩ := List.mem_map.mp hx
     exact (c3 c hc).2)
    rw [List.length_map] at hj
    have i3 := impl_DecodeName_ev (joinS (chunks.map cw)) (by omega)
    rw [dn_words c2 c3 c4 hb] at i3
    have he : Ev (fun k => impl_EncodeName.f k (ofL b)) (ofL (joinS (chunks.map cw)), true) := by
     unfold impl_EncodeName.f
     rw [size_ofL]
     exact ev_neg (by omega) (ev_bind n1 (ev_pos rfl c1))
    exact ev_bind he (ev_bind i3 (ev_pos rfl (ev_pos rfl (ev_eq (ev_some _) (by simp [cwres])))))

end Go.Proofs.YtncdadcmghglkaaDoor.Pure
