/- Proved here: the pure form of the law FnPartSame (equality of parts is structural) returns true for all arguments; conditions: none beyond those that the printed statement bears. -/
import Derived.Test.YtncdadcmghglkaaGreatDoorPFnPartSamex28
import Derived.Test.YtncdadcmghglkaaGreatDoorVFnPartSameZbt
import Derived.Test.YtncdadcmghglkaaGreatDoorVFnPartSameMore
import Derived.Lib.TrimByte
import Derived.Lib.CutLaws
import Derived.Lib.ReplaceLaws
import Derived.Lib.Join
import Derived.Lib.JoinLaws
import Derived.Lib.Split
import Derived.Lib.CountLaws
-- dense
namespace Go.Proofs.YtncdadcmghglkaaGreatDoor.Pure
open Go.Proofs.YtncdadcmghglkaaGreatDoorW.PrintMore Go.RowKit Go.Proofs.YtncdadcmghglkaaGreatDoor.X Go.Proofs.YtncdadcmghglkaaGreatDoor.PFnPartSame Go.Proofs.YtncdadcmghglkaaGreatDoorW.PrintWords Go.Proofs.YtncdadcmghglkaaGreatDoorW.PrintLast Go.Proofs.YtncdadcmghglkaaGreatDoor.Z
set_option linter.unusedVariables false
set_option linter.unusedSimpArgs false
/-! Several answers from one number of rounds on. -/
def Evp (p : Nat → Prop) : Prop := ∃ K, ∀ k, K ≤ k → p k
theorem evp_of {α : Type} {g : Nat → Option α} {r : α} (h : Ev g r) : Evp (fun k => g k = some r) := h
theorem evp_and {p q : Nat → Prop} (h : Evp p) (h2 : Evp q) : Evp (fun k => p k ∧ q k) := by
 obtain ⟨K, h⟩ := h
 obtain ⟨M, h2⟩ := h2
 exact ⟨K + M, fun k hk => ⟨h k (by omega), h2 k (by omega)⟩⟩
theorem evp_some {p : Nat → Prop} (h : Evp p) : ∃ k, p k := by
 obtain ⟨K, h⟩ := h
 exact ⟨K, h K (Nat.le_refl _)⟩
def stp {α : Type} [DecidableEq α] (r : List α) (c : α) : Bool ⊕ List α := match r with
 | [] => .inl false
 | d :: r => if c = d then .inr r else .inl false
theorem same_run {α : Type} [DecidableEq α] (a b : List α) (hl : a.length = b.length) : run stp (fun _ => true) a b = decide (a = b) := by
 induction a generalizing b with
 | nil => cases b with
  | nil => rfl
  | cons d b => simp at hl
 | cons c a ih => cases b with
  | nil => simp at hl
  | cons d b =>
   unfold run
   by_cases e : c = d
   ·
    simp only [stp, if_pos e]; rw [ih b (by simpa using hl)]; simp [e]
   ·
    simp only [stp, if_neg e]; simp [e]
/-! Texts that came in: their size, a copy, and the same again. -/
def szs : List Str → Nat
 | [] => 0
 | c :: r => c.length + szs r
theorem szs_append (a b : List Str) : szs (a ++ b) = szs a + szs b := by
 induction a with
 | nil => simp [szs]
 | cons c a ih => simp only [List.cons_append, szs, ih]; omega
theorem szs_mem {a : List Str} {c : Str} (h : c ∈ a) : c.length ≤ szs a := by
 induction a with
 | nil => cases h
 | cons d a ih =>
  simp only [szs]
  rcases List.mem_cons.mp h with rfl | h
  ·
   omega
  ·
   have := ih h; omega
/-! Fields that came in: pairs of texts. -/
def e76 (p : Str × Str) : S69 := ⟨ofL p.1, ofL p.2⟩
def szp : List (Str × Str) → Nat
 | [] => 0
 | c :: r => c.1.length + c.2.length + szp r
theorem szp_mem {a : List (Str × Str)} {c : Str × Str} (h : c ∈ a) : c.1.length + c.2.length ≤ szp a := by
 induction a with
 | nil => cases h
 | cons d a ih =>
  simp only [szp]
  rcases List.mem_cons.mp h with rfl | h
  ·
   omega
  ·
   have := ih h; omega
theorem rd76_mid {ls p r : List (Str × Str)} {c : Str × Str} (h : ls = p ++ c :: r) : rd_T69 (ls.map e76) (p.length : Int) = e76 c := by
 unfold rd_T69
 rw [List.getD_eq_getElem?_getD, h]
 simp
def sane (ls : List (Str × Str)) : Prop := ∀ x ∈ ls, x.1.length ≤ 9223372036854775807 ∧ x.2.length ≤ 9223372036854775807
/-! Parts: rows of texts, and parts within parts. -/
inductive Pt where
 | mk (f : List (Str × Str)) (b : List Str) (k : List Pt)
mutual
def e32 : Pt → S28
 | .mk f b k => ⟨f.map e76, b.map ofL, e32s k⟩
def e32s : List Pt → List S28
 | [] => []
 | p :: r => e32 p :: e32s r
end
theorem e32s_map (k : List Pt) : e32s k = k.map e32 := by
 induction k with
 | nil => rfl
 | cons p r ih => rw [e32s, ih]; rfl
theorem e32_mk (f : List (Str × Str)) (b : List Str) (k : List Pt) : e32 (.mk f b k) = ⟨f.map e76, b.map ofL, k.map e32⟩ := by rw [e32, e32s_map]
theorem rd32_mid {ls p r : List Pt} {c : Pt} (h : ls = p ++ c :: r) : rd_T28 (ls.map e32) (p.length : Int) = e32 c := by
 unfold rd_T28
 rw [List.getD_eq_getElem?_getD, h]
 simp
mutual
def szt : Pt → Nat
 | .mk f b k => f.length + szp f + b.length + szs b + k.length + szts k
def szts : List Pt → Nat
 | [] => 0
 | p :: r => szt p + szts r
end
theorem szts_mem {k : List Pt} {p : Pt} (h : p ∈ k) : szt p ≤ szts k := by
 induction k with
 | nil => cases h
 | cons d a ih =>
  rw [szts]
  rcases List.mem_cons.mp h with rfl | h
  ·
   omega
  ·
   have := ih h; omega
mutual
def smt : Pt → Pt → Bool
 | .mk f b k, .mk g c l => decide (f = g) && (decide (b = c) && (decide (k.length = l.length) && smts k l))
def smts : List Pt → List Pt → Bool
 | [], _ => true
 | _ :: _, [] => false
 | p :: r, q :: s => smt p q && smts r s
end
/-- What holds of a part if it holds of it where it holds of all its parts. -/
theorem pt_ind {P : Pt → Prop} (h : ∀ f b k, (∀ p ∈ k, P p) → P (.mk f b k)) (p : Pt) : P p := by
 have key : ∀ (n : Nat) (p : Pt), SizeOf.sizeOf p < n → P p := by
  intro n
  induction n with
  | zero => intro p hp; omega
  | succ n ih =>
   intro p hp
   cases p with
   | mk f b k =>
    refine h f b k fun q hq => ih q ?_
    have := List.sizeOf_lt_of_mem hq
    simp only [Pt.mk.sizeOf_spec] at hp
    omega
 exact key _ p (Nat.lt_succ_self _)
/-! The reader of draws. -/
theorem xor_nonneg (a b : Nat) (ha : a < 9223372036854775808) (hb : b < 9223372036854775808) : Go.bits .xor .i64 (a : Int) (b : Int) = ((a ^^^ b : Nat) : Int) := by
 have hx : a ^^^ b < 2 ^ 63 := Nat.xor_lt_two_pow (by omega) (by omega)
 have h1 : (BitVec.ofInt 64 (a : Int)).toNat = a := by
  rw [BitVec.ofInt_natCast, BitVec.toNat_ofNat]; exact Nat.mod_eq_of_lt (by omega)
 have h2 : (BitVec.ofInt 64 (b : Int)).toNat = b := by
  rw [BitVec.ofInt_natCast, BitVec.toNat_ofNat]; exact Nat.mod_eq_of_lt (by omega)
 show IntKind.i64.wrap ((BitVec.ofInt 64 (a : Int) ^^^ BitVec.ofInt 64 (b : Int)).toNat : Int) = _
 rw [BitVec.toNat_xor, h1, h2]
 rw [i64_w]
 exact wrap_id (by omega) (by omega)
theorem tmod_in {a b : Int} (ha : 0 ≤ a) (hb : 1 ≤ b) : 0 ≤ Int.tmod a b ∧ Int.tmod a b < b := by
 rw [Int.tmod_eq_emod_of_nonneg ha]
 exact ⟨Int.emod_nonneg _ (by omega), Int.emod_lt_of_pos _ (by omega)⟩
/-- What is known of the bytes that are drawn from. -/
def IsB (l : List Int) : Prop := l.length ≤ 2000 ∧ ∀ x ∈ l, 0 ≤ x ∧ x ≤ 255
theorem rd_in {l : List Int} (h : IsB l) (i : Int) : 0 ≤ rd l i ∧ rd l i ≤ 255 := by
 unfold rd
 rw [List.getD_eq_getElem?_getD]
 cases e : l[i.toNat]? with
 | none => simp
 | some x => exact h.2 x (List.mem_of_getElem? e)
theorem pick_ev (l : List Int) (p n : Int) (hl : IsB l) (h0 : 0 ≤ p) (h1 : p ≤ 1000000000) (hn : 1 ≤ n) (hn2 : n ≤ 1000000000) :
  ∃ v, Ev (fun k => spec_l13Rd_pick.f k l p n) (v, p + 1) ∧ 0 ≤ v ∧ v < n := by
 have hw : wrap64 (p + 1) = p + 1 := wrap_id (by omega) (by omega)
 have hw2 : wrap64 (p + 1 - 1) = p := by rw [wrap_id (by omega) (by omega)]; omega
 have hlen := hl.1
 unfold spec_l13Rd_pick.f
 rw [hw]
 by_cases he : (l.length : Int) = 0
 ·
  refine ⟨0, vn (by omega) (vc ?_), by omega, by omega⟩
  simp only [spec_l13Rd_pick.j0]
  refine vp ?_ (vs _)
  rw [he]; rfl
 have hb : ((l.length : Int) == 0) = false := by simp at he ⊢; exact he
 rw [hb]
 by_cases hlt : p < (l.length : Int)
 ·
  have hv := tmod_in (rd_in hl p).1 hn
  have hr : wrap64 (rd l p) = rd l p := by have := rd_in hl p; exact wrap_id (by omega) (by omega)
  refine ⟨Int.tmod (rd l p) n, vn (by omega) (vc ?_), hv.1, hv.2⟩
  simp only [spec_l13Rd_pick.j0, hw2, hr]
  exact vn (by simp) (vp hlt (vp h0 (vn (by omega) (vs _))))
 ·
  have hq := tmod_in h0 (b := (l.length : Int)) (by omega)
  have hm : wrap64 (wrap64 (p * 7) + 3) = p * 7 + 3 := by rw [wrap_id (x := p * 7) (by omega) (by omega), wrap_id (by omega) (by omega)]
  have hq2 := tmod_in (a := p * 7 + 3) (by omega) (b := (l.length : Int)) (by omega)
  have r1 := rd_in hl (Int.tmod p l.length)
  have r2 := rd_in hl (Int.tmod (p * 7 + 3) l.length)
  generalize hA : rd l (Int.tmod p l.length) = A at r1
  generalize hB : rd l (Int.tmod (p * 7 + 3) l.length) = B at r2
  have hd : 0 ≤ Int.tdiv p l.length ∧ Int.tdiv p l.length ≤ p := by
   rw [Int.tdiv_eq_ediv_of_nonneg h0]
   refine ⟨Int.ediv_nonneg h0 (by omega), Int.ediv_le_self _ h0⟩
  generalize hD : Int.tdiv p l.length = D at hd
  have w1 : wrap64 A = A := wrap_id (by omega) (by omega)
  have w2 : wrap64 B = B := wrap_id (by omega) (by omega)
  have w3 : wrap64 (A * 131) = A * 131 := wrap_id (by omega) (by omega)
  have w4 : wrap64 (B * 1117) = B * 1117 := wrap_id (by omega) (by omega)
  have w5 : wrap64 (A * 131 + B * 1117) = A * 131 + B * 1117 := wrap_id (by omega) (by omega)
  have w6 : wrap64 (p * 29) = p * 29 := wrap_id (by omega) (by omega)
  have w7 : wrap64 (A * 131 + B * 1117 + p * 29) = A * 131 + B * 1117 + p * 29 := wrap_id (by omega) (by omega)
  have w8 : wrap64 D = D := wrap_id (by omega) (by omega)
  have w9 : wrap64 (D * 53) = D * 53 := wrap_id (by omega) (by omega)
  have w10 : wrap64 (A * 131 + B * 1117 + p * 29 + D * 53) = A * 131 + B * 1117 + p * 29 + D * 53 := wrap_id (by omega) (by omega)
  have hX : 0 ≤ A * 131 + B * 1117 + p * 29 + D * 53 ∧ A * 131 + B * 1117 + p * 29 + D * 53 < 9223372036854775808 := by omega
  generalize hXX : A * 131 + B * 1117 + p * 29 + D * 53 = X at hX w10
  have hX2 : 0 ≤ Int.tdiv X 64 ∧ Int.tdiv X 64 ≤ X := by
   rw [Int.tdiv_eq_ediv_of_nonneg hX.1]
   refine ⟨Int.ediv_nonneg hX.1 (by omega), Int.ediv_le_self _ hX.1⟩
  have w11 : wrap64 (Int.tdiv X 64) = Int.tdiv X 64 := wrap_id (by omega) (by omega)
  have hxor : 0 ≤ Go.bits .xor .i64 X (Int.tdiv X 64) := by
   obtain ⟨a, ha⟩ := Int.eq_ofNat_of_zero_le hX.1
   obtain ⟨b, hb⟩ := Int.eq_ofNat_of_zero_le hX2.1
   rw [hb, ha, xor_nonneg _ _ (by omega) (by omega)]
   omega
  have hv := tmod_in hxor hn
  refine ⟨Int.tmod (Go.bits .xor .i64 X (Int.tdiv X 64)) n, vn (by omega) (vc ?_), hv.1, hv.2⟩
  simp only [spec_l13Rd_pick.j0, hw2, hm, hA, hB, hD, w1, w2, w3, w4, w5, w6, w7, w8, w9, hXX, w10, w11]
  exact vn (by simp) (vn hlt (vn he (vp hq.1 (vp hq.2 (vp hq2.1 (vp hq2.2 (vn (by omega) (vs _))))))))
theorem isB_take {l : List Int} (h : ∀ x ∈ l, (Lit.int .u8 x).wf = true) (n : Nat) (hn : (l.take n).length ≤ 2000) : IsB (l.take n) := by
 refine ⟨hn, fun x hx => ?_⟩
 have := h x (List.mem_of_mem_take hx)
 simp [Lit.wf, IntKind.min, IntKind.max, IntKind.bits, IntKind.signed] at this
 omega
theorem of_ev (l : List Int) (p : Int) (ws : List ByteArray) (hl : IsB l) (h0 : 0 ≤ p) (h1 : p ≤ 1000000000) (hn : 1 ≤ ws.length) (hn2 : ws.length ≤ 1000000) :
  ∃ v, Ev (fun k => spec_l13Rd_of.f k l p ws) (v, p + 1) ∧ v ∈ ws := by
 obtain ⟨i, hi, i0, i1⟩ := pick_ev l p ws.length hl h0 h1 (by omega) (by omega)
 have hlt : i.toNat < ws.length := by omega
 refine ⟨rdOf ByteArray.empty ws i, ?_, ?_⟩
 ·
  unfold spec_l13Rd_of.f
  exact vb hi (vp i0 (vp i1 (vs _)))
 ·
  unfold rdOf
  rw [List.getD_eq_getElem?_getD, List.getElem?_eq_getElem hlt]
  exact List.getElem_mem hlt
theorem num_ev (l : List Int) (p : Int) (ws : List Int) (hl : IsB l) (h0 : 0 ≤ p) (h1 : p ≤ 1000000000) (hn : 1 ≤ ws.length) (hn2 : ws.length ≤ 1000000) :
  ∃ v, Ev (fun k => spec_l13Rd_num.f k l p ws) (v, p + 1) ∧ v ∈ ws := by
 obtain ⟨i, hi, i0, i1⟩ := pick_ev l p ws.length hl h0 h1 (by omega) (by omega)
 have hlt : i.toNat < ws.length := by omega
 refine ⟨rd ws i, ?_, ?_⟩
 ·
  unfold spec_l13Rd_num.f
  exact vb hi (vp i0 (vp i1 (vs _)))
 ·
  unfold rd
  rw [List.getD_eq_getElem?_getD, List.getElem?_eq_getElem hlt]
  exact List.getElem_mem hlt
theorem open_ev (l : List Int) (h : ∀ x ∈ l, (Lit.int .u8 x).wf = true) : ∃ l', spec_l13Open.f l = some (l', 0) ∧ IsB l' := by
 unfold spec_l13Open.f
 by_cases hc : (l.length : Int) > 2000
 ·
  refine ⟨l.take 2000, ?_, isB_take h 2000 (by rw [List.length_take]; omega)⟩
  rw [if_pos hc, if_pos (by omega)]
 ·
  refine ⟨l, by rw [if_neg hc], ?_⟩
  have := isB_take h l.length (by rw [List.take_length]; omega)
  rwa [List.take_length] at this
theorem small_nat {n : Int} {ws : List Int} (h : n ∈ ws) (m : Nat) (hm : ∀ x ∈ ws, 0 ≤ x ∧ x ≤ (m : Int)) : ∃ k : Nat, n = (k : Int) ∧ k ≤ m := by
 have := hm n h
 exact ⟨n.toNat, by omega, by omega⟩
theorem rdLL_mid {ps p r : List (List Str)} {c : List Str} (h : ps = p ++ c :: r) : rd_L3 (ps.map (List.map ofL)) (p.length : Int) = c.map ofL := by
 unfold rd_L3
 rw [List.getD_eq_getElem?_getD, h]
 simp
/-- How many lines there are, one more counted for each part. -/
def tl : List (List Str) → Nat
 | [] => 0
 | c :: r => c.length + 1 + tl r
theorem tl_append (a b : List (List Str)) : tl (a ++ b) = tl a + tl b := by
 induction a with
 | nil => simp [tl]
 | cons c a ih => simp only [List.cons_append, tl, ih]; omega
theorem tl_len (a : List (List Str)) : a.length ≤ tl a := by
 induction a with
 | nil => simp [tl]
 | cons c a ih => simp only [List.length_cons, tl]; omega
theorem tl_mem {a : List (List Str)} {c : List Str} (h : c ∈ a) : c.length ≤ tl a := by
 induction a with
 | nil => cases h
 | cons d a ih =>
  simp only [tl]
  rcases List.mem_cons.mp h with rfl | h
  ·
   omega
  ·
   have := ih h; omega
/-! Letters and digits, boundaries: the model. -/
def letB (c : UInt8) : Bool := decide (97 ≤ (c.toNat : Int) ∧ (c.toNat : Int) ≤ 122) || decide (65 ≤ (c.toNat : Int) ∧ (c.toNat : Int) ≤ 90)
def digB (c : UInt8) : Bool := decide (48 ≤ (c.toNat : Int) ∧ (c.toNat : Int) ≤ 57)
def alnB (c : UInt8) : Bool := letB c || digB c
def isBd (l : Str) : Bool := decide (1 ≤ l.length) && decide (l.length ≤ 20) && l.all alnB
theorem isBd_len {l : Str} (h : isBd l = true) : l.length ≤ 20 := by
 unfold isBd at h; simp at h; exact h.1.2
theorem impl_isLetter_eq (c : UInt8) : impl_isLetter.f (c.toNat : Int) = some (letB c) := by
 unfold impl_isLetter.f letB
 by_cases h1 : 97 ≤ (c.toNat : Int) <;> by_cases h2 : (c.toNat : Int) ≤ 122 <;> by_cases h3 : 65 ≤ (c.toNat : Int) <;> by_cases h4 : (c.toNat : Int) ≤ 90 <;> simp [h1, h2, h3, h4]
theorem impl_isDigit_eq (c : UInt8) : impl_isDigit.f (c.toNat : Int) = some (digB c) := by
 unfold impl_isDigit.f digB
 by_cases h1 : 48 ≤ (c.toNat : Int) <;> by_cases h2 : (c.toNat : Int) ≤ 57 <;> simp [h1, h2]
theorem spec_l1Letter_eq (c : UInt8) : spec_l1Letter.f (c.toNat : Int) = some (alnB c) := by
 unfold spec_l1Letter.f alnB letB digB
 by_cases h1 : 97 ≤ (c.toNat : Int) <;> by_cases h2 : (c.toNat : Int) ≤ 122 <;> by_cases h3 : 65 ≤ (c.toNat : Int) <;> by_cases h4 : (c.toNat : Int) ≤ 90 <;> by_cases h5 : 48 ≤ (c.toNat : Int) <;> by_cases h6 : (c.toNat : Int) ≤ 57 <;> simp [h1, h2, h3, h4, h5, h6]
/-! Atoms: the model. -/
def atList : Str := [33, 35, 36, 37, 38, 39, 42, 43, 45, 47, 61, 63, 94, 95, 96, 123, 124, 125, 126]
def atB (c : UInt8) : Bool := alnB c || decide (c ∈ atList)
def atomV (l : Str) : Bool := decide (1 ≤ l.length) && decide (l.length ≤ 40) && l.all atB
theorem u8_all {p : UInt8 → Prop} (h : ∀ n : Nat, n < 256 → p (UInt8.ofNat n)) (c : UInt8) : p c := by
 have := h c.toNat c.toNat_lt
 rwa [UInt8.ofNat_toNat] at this
theorem impl_isAtomByte_eq (c : UInt8) : impl_isAtomByte.f (c.toNat : Int) = some (atB c) := by
 revert c
 exact u8_all (by decide +kernel)
theorem impl_allBytes_isAtomByte_ev (l : Str) (hl : l.length ≤ 1000000000000000) : Ev (fun k => impl_allBytes_isAtomByte.f k (ofL l)) (l.all atB) := by
 unfold impl_allBytes_isAtomByte.f
 rw [size_ofL]
 refine vq (run_start (xs := l) (F := fun k (_ : Unit) i => impl_allBytes_isAtomByte.l0 k (ofL l) (l.length : Int) i) (st := fun _ c => if atB c = true then .inr () else .inl false) (fin := fun _ => true) (s := ()) (fun _ _ => True) trivial ?_ ?_) ?_
 ·
  intro p c r s h _
  have hz := len_mid h
  have e1 := bt_ofL_mid h
  have w1 : wrap64 ((p.length : Int) + 1) = (p.length : Int) + 1 := wrap_id (by omega) (by omega)
  simp only [impl_allBytes_isAtomByte.l0, e1, w1, size_ofL]
  clear w1 e1
  cases e : atB c with
  | true =>
   simp only [if_true]
   refine ⟨(fun v hv => by cases hv), fun s' hs => ⟨trivial, fun v hv => ?_⟩⟩
   refine vp (by omega) (vp (by omega) (vp (by omega) (ev_bind0 (impl_isAtomByte_eq c) (vp e hv))))
  | false =>
   refine ⟨(fun v hv => ?_), fun s' hs => by simp at hs⟩
   simp only [Bool.false_eq_true, if_false, Sum.inl.injEq] at hv
   subst hv
   refine vp (by omega) (vp (by omega) (vp (by omega) (ev_bind0 (impl_isAtomByte_eq c) (vn (by rw [e]; simp) (vs _)))))
 ·
  intro s _
  simp only [impl_allBytes_isAtomByte.l0]
  exact vn (by omega) (vs _)
 ·
  clear hl
  induction l with
  | nil => rfl
  | cons c r ih =>
   unfold run
   cases e : atB c with
   | true => simp [e, ih]
   | false => simp [e]
theorem impl_AtomValid_ev (l : Str) (hl : l.length ≤ 1000000000000000) : Ev (fun k => impl_AtomValid.f k (ofL l)) (atomV l) := by
 unfold impl_AtomValid.f atomV
 rw [size_ofL]
 by_cases h1 : 1 ≤ l.length
 ·
  rw [decide_eq_true h1]
  refine vp (by omega) ?_
  by_cases h2 : l.length ≤ 40
  ·
   rw [decide_eq_true h2]
   exact vp (by omega) (vb (impl_allBytes_isAtomByte_ev l hl) (vs _))
  ·
   rw [decide_eq_false h2]
   exact vn (by omega) (vs _)
 ·
  rw [decide_eq_false h1]
  exact vn (by omega) (vs _)
/-! Names, small letters: the model. -/
def nmB (c : UInt8) : Bool := alnB c || decide (c = 45)
def isNm (l : Str) : Bool := decide (l.length ≤ 30) && (match l with
 | [] => false
 | c :: _ => letB c) && l.all nmB
def lowB (c : UInt8) : UInt8 := if 65 ≤ c ∧ c ≤ 90 then c + 32 else c
def low (l : Str) : Str := l.map lowB
def isSmall (l : Str) : Bool := isNm l && decide (low l = l)
theorem isNm_len {l : Str} (h : isNm l = true) : l.length ≤ 30 := by
 unfold isNm at h; simp at h; exact h.1.1
theorem beq_dec (a b : Str) : (a == b) = decide (a = b) := by
 rw [Bool.eq_iff_iff]; simp
theorem lowB_num (c : UInt8) : lowI (c.toNat : Int) = ((lowB c).toNat : Int) := by
 revert c
 exact u8_all (by decide +kernel)
theorem zn_low (l : Str) : (zn l).map lowI = zn (low l) := by
 unfold zn low
 rw [List.map_map, List.map_map]
 exact List.map_congr_left (fun c _ => lowB_num c)
theorem low_len (l : Str) : (low l).length = l.length := by unfold low; simp
theorem impl_LowerText_eq (l : Str) (hl : l.length ≤ 140737488355328) : impl_LowerText.f (ofL l) = some (ofL (low l)) := by
 unfold impl_LowerText.f
 rw [size_ofL, if_pos hl, bytesOf_ofL, zn_low, strOfNums_zn]
theorem impl_SameText_eq (a b : Str) (ha : a.length ≤ 140737488355328) (hb : b.length ≤ 140737488355328) : impl_SameText.f (ofL a) (ofL b) = some (decide (low a = low b)) := by
 unfold impl_SameText.f
 rw [impl_LowerText_eq a ha, impl_LowerText_eq b hb]
 simp only [Option.bind_some, toList_ofL, beq_dec]
theorem impl_isName_1_eq (c : UInt8) : impl_isName_1.f (c.toNat : Int) = some (nmB c) := by
 unfold impl_isName_1.f nmB alnB
 rw [impl_isLetter_eq, impl_isDigit_eq]
 have := u8_eq c 45 (by omega)
 by_cases e : c = 45
 ·
  have h2 := this.mpr e
  cases letB c <;> cases digB c <;> simp [e, h2]
 ·
  have h2 : ¬ (c.toNat : Int) = 45 := fun hh => e (this.mp hh)
  cases letB c <;> cases digB c <;> simp [e, h2]
theorem impl_allBytes_isName_1_ev (l : Str) (hl : l.length ≤ 1000000000000000) : Ev (fun k => impl_allBytes_isName_1.f k (ofL l)) (l.all nmB) := by
 unfold impl_allBytes_isName_1.f
 rw [size_ofL]
 refine vq (run_start (xs := l) (F := fun k (_ : Unit) i => impl_allBytes_isName_1.l0 k (ofL l) (l.length : Int) i) (st := fun _ c => if nmB c = true then .inr () else .inl false) (fin := fun _ => true) (s := ()) (fun _ _ => True) trivial ?_ ?_) ?_
 ·
  intro p c r s h _
  have hz := len_mid h
  have e1 := bt_ofL_mid h
  have w1 : wrap64 ((p.length : Int) + 1) = (p.length : Int) + 1 := wrap_id (by omega) (by omega)
  simp only [impl_allBytes_isName_1.l0, e1, w1, size_ofL]
  clear w1 e1
  cases e : nmB c with
  | true =>
   simp only [if_true]
   refine ⟨(fun v hv => by cases hv), fun s' hs => ⟨trivial, fun v hv => ?_⟩⟩
   refine vp (by omega) (vp (by omega) (vp (by omega) (ev_bind0 (impl_isName_1_eq c) (vp e hv))))
  | false =>
   refine ⟨(fun v hv => ?_), fun s' hs => by simp at hs⟩
   simp only [Bool.false_eq_true, if_false, Sum.inl.injEq] at hv
   subst hv
   refine vp (by omega) (vp (by omega) (vp (by omega) (ev_bind0 (impl_isName_1_eq c) (vn (by rw [e]; simp) (vs _)))))
 ·
  intro s _
  simp only [impl_allBytes_isName_1.l0]
  exact vn (by omega) (vs _)
 ·
  clear hl
  induction l with
  | nil => rfl
  | cons c r ih =>
   unfold run
   cases e : nmB c with
   | true => simp [e, ih]
   | false => simp [e]
theorem impl_isName_ev (l : Str) (hl : l.length ≤ 1000000000000000) : Ev (fun k => impl_isName.f k (ofL l)) (isNm l) := by
 unfold impl_isName.f isNm
 rw [size_ofL]
 cases l with
 | nil => exact vn (by simp) (vs _)
 | cons c r =>
  simp only [bt_zero]
  refine vp (by simp only [List.length_cons]; omega) ?_
  by_cases h2 : (c :: r).length ≤ 30
  ·
   rw [decide_eq_true h2]
   refine vp (by omega) (vp (by simp) (ev_bind0 (impl_isLetter_eq c) ?_))
   cases e : letB c with
   | true => exact vp rfl (vb (impl_allBytes_isName_1_ev (c :: r) hl) (vs _))
   | false => exact vn (by simp) (vs _)
  ·
   rw [decide_eq_false h2]
   exact vn (by omega) (vs _)
theorem impl_isSmallName_ev (l : Str) (hl : l.length ≤ 140737488355328) : Ev (fun k => impl_isSmallName.f k (ofL l)) (isSmall l) := by
 unfold impl_isSmallName.f isSmall
 refine vb (impl_isName_ev l (by omega)) ?_
 cases e : isNm l with
 | true =>
  refine vp rfl (ev_bind0 (impl_LowerText_eq l hl) (vq (vs _) ?_))
  simp only [toList_ofL, beq_dec, Bool.true_and]
 | false => exact vn (by simp) (vs _)
theorem spec_l3Name_ev (l : Str) (hl : l.length ≤ 1000000000000000) : Ev (fun k => spec_l3Name.f k (ofL l)) (isNm l) := by
 unfold spec_l3Name.f
 have hj' : ∀ i : Int, Ev (fun k => spec_l3Name.j1 k (ofL l) i false) (decide (1 ≤ l.length) && decide (l.length ≤ 30)) := by
  intro i
  refine vc ?_
  simp only [spec_l3Name.j1, size_ofL]
  by_cases h1 : 1 ≤ l.length
  ·
   rw [decide_eq_true h1]
   refine vn (by simp) (vp (by omega) (vq (vs _) ?_))
   rw [Bool.true_and]
   by_cases h2 : l.length ≤ 30
   ·
    rw [decide_eq_true h2]; exact decide_eq_true (by omega)
   ·
    rw [decide_eq_false h2]; exact decide_eq_false (by omega)
  ·
   rw [decide_eq_false h1]
   exact vn (by simp) (vn (by omega) (vs _))
 refine vq (run_start (xs := l) (F := fun k (_ : Nat) i => spec_l3Name.l0 k (ofL l) i) (st := fun n c => if n ≤ 30 then (if nmB c = true then (if n = 0 then (if letB c = true then .inr (n + 1) else .inl false) else .inr (n + 1)) else .inl false) else .inl (decide (1 ≤ l.length) && decide (l.length ≤ 30))) (fin := fun _ => decide (1 ≤ l.length) && decide (l.length ≤ 30)) (s := 0) (fun p n => n = p.length) rfl ?_ ?_) ?_
 ·
  intro p c r n h hn
  subst hn
  have hz := len_mid h
  have e1 := bt_ofL_mid h
  have w1 : wrap64 ((p.length : Int) + 1) = (p.length : Int) + 1 := wrap_id (by omega) (by omega)
  by_cases h20 : p.length ≤ 30
  ·
   simp only [if_pos h20]
   have hd : decide ((p.length : Int) ≤ 30) = true := decide_eq_true (by omega)
   simp only [spec_l3Name.l0, hd, size_ofL]
   have h45 := u8_eq c 45 (by omega)
   have hlet : nmB c = true → (letB c = true ↔ ¬ (c.toNat : Int) ≤ 57) := u8_all (p := fun c => nmB c = true → (letB c = true ↔ ¬ (c.toNat : Int) ≤ 57)) (by decide +kernel) c
   cases e : nmB c with
   | true =>
    have hlt := hlet e
    have go : ∀ v, Ev (fun k => if (p.length : Int) = 0 then (if (c.toNat : Int) ≤ 57 then some false else spec_l3Name.l0 k (ofL l) ((p.length : Int) + 1)) else spec_l3Name.l0 k (ofL l) ((p.length : Int) + 1)) v → Ev (fun k => if (p.length : Int) < (l.length : Int) then spec_l3Name.j1 (k + 0) (ofL l) (p.length : Int) true else spec_l3Name.j1 (k + 0) (ofL l) (p.length : Int) false) v := by
     intro v hv
     refine vp (by omega) (vc ?_)
     simp only [spec_l3Name.j1, e1, w1, size_ofL]
     clear w1 e1
     refine vp trivial (vp (by omega) (vp (by omega) (ev_bind0 (spec_l1Letter_eq c) ?_)))
     cases ea : alnB c with
     | true => exact vp rfl hv
     | false =>
      have : c = 45 := by
       unfold nmB at e
       rw [ea, Bool.false_or] at e
       exact of_decide_eq_true e
      exact vn (by simp) (vp (h45.mpr this) hv)
    simp only [if_true]
    by_cases h0 : p.length = 0
    ·
     simp only [if_pos h0]
     by_cases hL : letB c = true
     ·
      simp only [if_pos hL]
      refine ⟨(fun v hv => by cases hv), fun s' hs => ⟨?_, fun v hv => ?_⟩⟩
      ·
       cases hs; simp
      ·
       exact go v (vp (by omega) (vn (hlt.mp hL) hv))
     ·
      simp only [if_neg hL]
      refine ⟨(fun v hv => ?_), fun s' hs => by cases hs⟩
      cases hv
      exact go false (vp (by omega) (vp (Decidable.not_not.mp (fun hh => hL (hlt.mpr hh))) (vs _)))
    ·
     simp only [if_neg h0]
     refine ⟨(fun v hv => by cases hv), fun s' hs => ⟨?_, fun v hv => ?_⟩⟩
     ·
      cases hs; simp
     ·
      exact go v (vn (by omega) hv)
   | false =>
    refine ⟨(fun v hv => ?_), fun s' hs => by simp at hs⟩
    simp only [Bool.false_eq_true, if_false, Sum.inl.injEq] at hv
    subst hv
    refine vp (by omega) (vc ?_)
    simp only [spec_l3Name.j1, e1, w1, size_ofL]
    clear w1 e1
    unfold nmB at e
    rw [Bool.or_eq_false_iff] at e
    exact vp trivial (vp (by omega) (vp (by omega) (ev_bind0 (spec_l1Letter_eq c) (vn (by rw [e.1]; simp) (vn (fun hh => (of_decide_eq_false e.2) (h45.mp hh)) (vs _))))))
  ·
   simp only [if_neg h20]
   have hd : decide ((p.length : Int) ≤ 30) = false := decide_eq_false (by omega)
   refine ⟨(fun v hv => ?_), fun s' hs => by cases hs⟩
   cases hv
   simp only [spec_l3Name.l0, hd, size_ofL]
   clear w1 e1
   exact vp (by omega) (hj' _)
 ·
  intro s hs
  subst hs
  simp only [spec_l3Name.l0, size_ofL]
  exact vn (by omega) (hj' _)
 ·
  have key : ∀ (r : Str) (n : Nat), 1 ≤ n → n + r.length = l.length → run (fun n c => if n ≤ 30 then (if nmB c = true then (if n = 0 then (if letB c = true then .inr (n + 1) else .inl false) else .inr (n + 1)) else .inl false) else .inl (decide (1 ≤ l.length) && decide (l.length ≤ 30))) (fun _ => decide (1 ≤ l.length) && decide (l.length ≤ 30)) r n = (decide (l.length ≤ 30) && r.all nmB) := by
   intro r
   induction r with
   | nil => intro n h1 h2; have : decide (1 ≤ l.length) = true := decide_eq_true (by simp at h2; omega); simp only [run, this]; simp
   | cons c r ih =>
    intro n h1 hn
    simp only [List.length_cons] at hn
    unfold run
    have h1l : decide (1 ≤ l.length) = true := decide_eq_true (by omega)
    by_cases h20 : n ≤ 30
    ·
     simp only [if_pos h20, if_neg (show ¬ n = 0 by omega)]
     cases e : nmB c with
     | true => simp [e, ih (n + 1) (by omega) (by omega)]
     | false => simp [e]
    ·
     simp only [if_neg h20]
     have : decide (l.length ≤ 30) = false := decide_eq_false (by omega)
     simp [this]
  cases l with
  | nil => simp [run, isNm]
  | cons c r =>
   unfold run isNm
   have hc := key r 1 (by omega) (by simp; omega)
   simp only [if_pos (show (0 : Nat) ≤ 30 by omega), if_true]
   cases e : nmB c with
   | true =>
    cases e2 : letB c with
    | true => simp only [if_true]; rw [hc]; simp [e]
    | false => simp
   | false => simp [e]
/-! The place of a name. -/
def fidx (n : Str) : List (Str × Str) → Nat → Int
 | [], _ => -1
 | c :: r, i => if low c.1 = low n then (i : Int) else fidx n r (i + 1)
def small (ls : List (Str × Str)) : Prop := ∀ x ∈ ls, x.1.length ≤ 1048576 ∧ x.2.length ≤ 1048576
theorem small_of {ls : List (Str × Str)} (h : szp ls ≤ 1048576) : small ls := fun x hx => by
 have := szp_mem hx
 exact ⟨by omega, by omega⟩
theorem fidx_range (n : Str) (r : List (Str × Str)) : ∀ i : Nat, fidx n r i = -1 ∨ ((i : Int) ≤ fidx n r i ∧ fidx n r i < i + r.length) := by
 induction r with
 | nil => intro i; exact Or.inl rfl
 | cons c r ih =>
  intro i
  unfold fidx
  split
  ·
   right; simp only [List.length_cons]; omega
  ·
   rcases ih (i + 1) with h | ⟨h1, h2⟩
   ·
    exact Or.inl h
   ·
    right; simp only [List.length_cons]; omega
theorem fidx_run (n : Str) (r : List (Str × Str)) : ∀ i : Nat, run (fun (i : Nat) (c : Str × Str) => if low c.1 = low n then .inl (i : Int) else .inr (i + 1)) (fun _ => (-1 : Int)) r i = fidx n r i := by
 induction r with
 | nil => intro i; rfl
 | cons c r ih =>
  intro i
  unfold run fidx
  by_cases e : low c.1 = low n
  ·
   simp only [if_pos e]
  ·
   simp only [if_neg e, ih]
theorem impl_fieldPlace_ev (ls : List (Str × Str)) (n : Str) (hs : small ls) (hn : n.length ≤ 1048576) (hl : ls.length ≤ 1048576) : Ev (fun k => impl_fieldPlace.f k (ls.map e76) (ofL n)) (fidx n ls 0) := by
 unfold impl_fieldPlace.f impl_Field_fieldPlace_1.f
 refine vb ?_ (vs _)
 rw [List.length_map]
 refine vq (run_start (xs := ls) (F := fun k (_ : Nat) i => impl_Field_fieldPlace_1.l0 k (ls.map e76) (ls.length : Int) i (ofL n)) (st := fun i c => if low c.1 = low n then .inl (i : Int) else .inr (i + 1)) (fin := fun _ => (-1 : Int)) (s := 0) (fun p i => i = p.length) rfl ?_ ?_) (fidx_run n ls 0)
 ·
  intro p c r i h hi
  subst hi
  have hz := len_mid h
  have e1 := rd76_mid h
  have hc := hs c (by rw [h]; simp)
  have w1 : wrap64 ((p.length : Int) + 1) = (p.length : Int) + 1 := wrap_id (by omega) (by omega)
  have hq := impl_SameText_eq c.1 n (by omega) (by omega)
  simp only [impl_Field_fieldPlace_1.l0, impl_fieldPlace_1.f, e1, w1, List.length_map, e76, hq, Option.bind_some]
  clear w1 e1
  by_cases e : low c.1 = low n
  ·
   simp only [if_pos e]
   refine ⟨(fun v hv => ?_), fun s' hs => by cases hs⟩
   cases hv
   exact vp (by omega) (vp (by omega) (vp (by omega) (vp (decide_eq_true e) (vs _))))
  ·
   simp only [if_neg e]
   refine ⟨(fun v hv => by cases hv), fun s' hs => ⟨?_, fun v hv => ?_⟩⟩
   ·
    cases hs; simp
   ·
    exact vp (by omega) (vp (by omega) (vp (by omega) (vn (by simp [e]) hv)))
 ·
  intro s _
  simp only [impl_Field_fieldPlace_1.l0]
  exact vn (by omega) (vs _)
/-! Texts: the model. -/
def okB (c : UInt8) : Bool := 32 ≤ c && c ≤ 126
def tvalid (l : Str) : Bool := l.all okB && decide (l.length ≤ 200)
theorem okB_lo (c : UInt8) (h : (c.toNat : Int) < 32) : okB c = false := by
 have : c < 32 := (u8_lt c 32 (by omega)).mp h
 unfold okB
 simp [UInt8.le_iff_toNat_le, UInt8.lt_iff_toNat_lt] at this ⊢
 omega
theorem okB_hi (c : UInt8) (h : (c.toNat : Int) > 126) : okB c = false := by
 unfold okB
 simp [UInt8.le_iff_toNat_le, UInt8.lt_iff_toNat_lt]
 omega
theorem okB_mid (c : UInt8) (h : ¬ (c.toNat : Int) < 32) (h2 : ¬ (c.toNat : Int) > 126) : okB c = true := by
 unfold okB
 simp [UInt8.le_iff_toNat_le, UInt8.lt_iff_toNat_lt]
 omega
theorem tvalid_len {l : Str} (h : tvalid l = true) : l.length ≤ 200 := by
 unfold tvalid at h; simp at h; exact h.2
theorem impl_TextValid_loop (l : Str) (hl : l.length ≤ 1000000000000000) (r : Str) : ∀ (p : Str), l = p ++ r → Ev (fun k => impl_TextValid.l0 k (ofL l) (l.length : Int) (p.length : Int)) (r.all okB && decide (l.length ≤ 200)) := by
 induction r with
 | nil =>
  intro p h
  have hz : l.length = p.length := by rw [h, List.append_nil]
  refine vc ?_
  simp only [impl_TextValid.l0, size_ofL]
  repeat (first | refine vp (by first | assumption | omega | decide) ?_ | refine vn (by first | assumption | omega | decide) ?_)
  exact vq (vs _) (by simp; omega)
 | cons c r ih =>
  intro p h
  have hz : l.length = p.length + (r.length + 1) := by rw [h]; simp
  have e1 : bt (ofL l) (p.length : Int) = (c.toNat : Int) := by rw [h]; exact bt_mid p r c
  have := ih (p ++ [c]) (by rw [h]; simp)
  rw [len_snoc] at this
  refine vc ?_
  simp (disch := omega) only [impl_TextValid.l0, size_ofL, e1, wrap_id]
  by_cases h1 : (c.toNat : Int) < 32
  ·
   repeat (first | refine vp (by first | assumption | omega | decide) ?_ | refine vn (by first | assumption | omega | decide) ?_)
   exact vq (vs _) (by simp [okB_lo c h1])
  ·
   by_cases h2 : (c.toNat : Int) > 126
   ·
    repeat (first | refine vp (by first | assumption | omega | decide) ?_ | refine vn (by first | assumption | omega | decide) ?_)
    exact vq (vs _) (by simp [okB_hi c h2])
   ·
    repeat (first | refine vp (by first | assumption | omega | decide) ?_ | refine vn (by first | assumption | omega | decide) ?_)
    exact vq this (by simp [okB_mid c h1 h2])
theorem impl_TextValid_ev (l : Str) (hl : l.length ≤ 1000000000000000) : Ev (fun k => impl_TextValid.f k (ofL l)) (tvalid l) := by
 unfold impl_TextValid.f
 rw [size_ofL]
 exact impl_TextValid_loop l hl l [] rfl
theorem spec_TextValid_loop (l : Str) (hl : l.length ≤ 1000000000000000) (r : Str) : ∀ (p : Str), l = p ++ r → Ev (fun k => spec_TextValid.l0 k (ofL l) (p.length : Int)) (r.all okB && decide (l.length ≤ 200)) := by
 induction r with
 | nil =>
  intro p h
  have hz : l.length = p.length := by rw [h, List.append_nil]
  refine vc ?_
  simp only [spec_TextValid.l0, size_ofL]
  repeat (first | refine vp (by first | assumption | omega | decide) ?_ | refine vn (by first | assumption | omega | decide) ?_)
  refine vc ?_
  simp only [spec_TextValid.j1, size_ofL]
  repeat (first | refine vp (by first | assumption | omega | decide) ?_ | refine vn (by first | assumption | omega | decide) ?_)
  exact vq (vs _) (by simp; omega)
 | cons c r ih =>
  intro p h
  have hz : l.length = p.length + (r.length + 1) := by rw [h]; simp
  have e1 : bt (ofL l) (p.length : Int) = (c.toNat : Int) := by rw [h]; exact bt_mid p r c
  have := ih (p ++ [c]) (by rw [h]; simp)
  rw [len_snoc] at this
  by_cases h0 : (p.length : Int) ≤ 200
  ·
   refine vc ?_
   simp only [spec_TextValid.l0, size_ofL]
   repeat (first | refine vp (by first | assumption | omega | decide) ?_ | refine vn (by first | assumption | omega | decide) ?_)
   refine vc ?_
   simp (disch := omega) only [spec_TextValid.j1, size_ofL, e1, wrap_id, decide_eq_true h0]
   by_cases h1 : (c.toNat : Int) < 32
   ·
    repeat (first | refine vp (by first | assumption | omega | decide) ?_ | refine vn (by first | assumption | omega | decide) ?_)
    exact vq (vs _) (by simp [okB_lo c h1])
   ·
    by_cases h2 : (c.toNat : Int) > 126
    ·
     repeat (first | refine vp (by first | assumption | omega | decide) ?_ | refine vn (by first | assumption | omega | decide) ?_)
     exact vq (vs _) (by simp [okB_hi c h2])
    ·
     repeat (first | refine vp (by first | assumption | omega | decide) ?_ | refine vn (by first | assumption | omega | decide) ?_)
     exact vq this (by simp [okB_mid c h1 h2])
  ·
   refine vc ?_
   simp only [spec_TextValid.l0, size_ofL]
   repeat (first | refine vp (by first | assumption | omega | decide) ?_ | refine vn (by first | assumption | omega | decide) ?_)
   refine vc ?_
   simp only [spec_TextValid.j1, size_ofL, decide_eq_false h0]
   repeat (first | refine vp (by first | assumption | omega | decide) ?_ | refine vn (by first | assumption | omega | decide) ?_)
   have d1 : decide ((l.length : Int) ≤ 200) = false := decide_eq_false (by omega)
   have d2 : decide (l.length ≤ 200) = false := decide_eq_false (by omega)
   exact vq (vs _) (by rw [d1, d2, Bool.and_false])
theorem spec_TextValid_ev (l : Str) (hl : l.length ≤ 1000000000000000) : Ev (fun k => spec_TextValid.f k (ofL l)) (tvalid l) := by
 unfold spec_TextValid.f
 exact spec_TextValid_loop l hl l [] rfl
/-! Words quoted. -/
def escB (c : UInt8) : Str := if c = 34 ∨ c = 92 then [92, c] else [c]
def esc : Str → Str
 | [] => []
 | c :: r => escB c ++ esc r
def quote (l : Str) : Str := 34 :: (esc l ++ [34])
def qw (l : Str) : Str := if tvalid l = true then (if atomV l = true then l else quote l) else []
theorem esc_append (a b : Str) : esc (a ++ b) = esc a ++ esc b := by
 induction a with
 | nil => rfl
 | cons c a ih => simp only [List.cons_append, esc, ih, List.append_assoc]
theorem escB_len (c : UInt8) : (escB c).length ≤ 2 := by unfold escB; split <;> simp
theorem esc_len (l : Str) : (esc l).length ≤ 2 * l.length := by
 induction l with
 | nil => simp [esc]
 | cons c r ih => have := escB_len c; simp only [esc, List.length_append, List.length_cons]; omega
theorem qw_len (l : Str) : (qw l).length ≤ 2 * l.length + 2 := by
 unfold qw quote
 have := esc_len l
 split
 ·
  split
  ·
   omega
  ·
   simp only [List.length_cons, List.length_append, List.length_nil]; omega
 ·
  simp
theorem impl_QuoteWord_ev (l : Str) (hl : l.length ≤ 1048576) : Ev (fun k => impl_QuoteWord.f k (ofL l)) (ofL (qw l)) := by
 have key : ∀ (r p : Str), l = p ++ r → Ev (fun k => impl_QuoteWord.l0 k (ofL l) (zn (34 :: esc p)) (l.length : Int) (p.length : Int)) (ofL (quote l)) := by
  intro r
  induction r with
  | nil =>
   intro p h
   rw [List.append_nil] at h
   subst h
   have h1 := esc_len l
   refine vc ?_
   simp only [impl_QuoteWord.l0, zn_length]
   refine vn (by omega) (vp (by simp only [List.length_cons]; omega) (vq (vs _) ?_))
   rw [show ([34] : List Int) = zn [34] from rfl, ← zn_append, strOfNums_zn]
   rfl
  | cons c r ih =>
   intro p h
   have hz := len_mid h
   have e1 := bt_ofL_mid h
   have h1 := esc_len p
   have hh := ih (p ++ [c]) (by rw [h]; simp)
   rw [len_snoc, esc_append] at hh
   have w1 : wrap64 ((p.length : Int) + 1) = (p.length : Int) + 1 := wrap_id (by omega) (by omega)
   have h34 := u8_eq c 34 (by omega)
   have h92 := u8_eq c 92 (by omega)
   have b1 : (34 :: esc p : Str).length < 140737488355328 := by simp only [List.length_cons]; omega
   have b2 : (34 :: esc p ++ [92] : Str).length < 140737488355328 := by simp only [List.length_cons, List.length_append, List.length_nil]; omega
   refine vc ?_
   have e92 : ([92] : List Int) = zn [92] := rfl
   have ec : ([(c.toNat : Int)] : List Int) = zn [c] := rfl
   simp only [impl_QuoteWord.l0, e1, w1, size_ofL, zn_length, Option.bind_some, e92, ec, ← zn_append]
   clear w1 e1
   refine vp (by omega) (vp (by omega) (vp (by omega) ?_))
   have two : escB c = [92, c] → (34 :: esc p ++ [92]) ++ [c] = 34 :: (esc p ++ (esc [c])) := fun h => by simp [esc, h]
   have one : escB c = [c] → (34 :: esc p) ++ [c] = 34 :: (esc p ++ (esc [c])) := fun h => by simp [esc, h]
   by_cases c1 : (c.toNat : Int) = 34
   ·
    have hc : c = 34 := h34.mp c1
    refine vp c1 (vp b1 (vp b2 ?_))
    rw [two (by unfold escB; rw [if_pos (Or.inl hc)])]
    exact hh
   ·
    have hc : ¬ c = 34 := fun h => c1 (h34.mpr h)
    by_cases c2 : (c.toNat : Int) = 92
    ·
     have hc2 : c = 92 := h92.mp c2
     refine vn c1 (vp c2 (vp b1 (vp b2 ?_)))
     rw [two (by unfold escB; rw [if_pos (Or.inr hc2)])]
     exact hh
    ·
     have hc2 : ¬ c = 92 := fun h => c2 (h92.mpr h)
     refine vn c1 (vn c2 (vp b1 ?_))
     rw [one (by unfold escB; rw [if_neg (by simp [hc, hc2])])]
     exact hh
 unfold impl_QuoteWord.f qw
 refine vb (impl_TextValid_ev l (by omega)) ?_
 cases e1 : tvalid l with
 | false => exact vn (by simp) (vq (vs _) rfl)
 | true =>
  refine vp rfl (vb (impl_AtomValid_ev l (by omega)) ?_)
  cases e2 : atomV l with
  | true => exact vp rfl (vs _)
  | false =>
   have := key l [] rfl
   simp only [size_ofL]
   exact vn (by simp) this
/-! Kinds as texts, valid kinds. -/
def kpart (p : Str × Str) : Str := [59, 32] ++ p.1 ++ [61] ++ qw p.2
def ktail : List (Str × Str) → Str
 | [] => []
 | c :: r => kpart c ++ ktail r
def ktext (a b : Str) (ps : List (Str × Str)) : Str := (a ++ [47] ++ b) ++ ktail ps
def kfl (q : List (Str × Str)) : List (Str × Str) → Bool
 | [] => true
 | c :: r => isSmall c.1 && (tvalid c.2 && decide (c.2.length ≤ 40)) && decide (¬ (fidx c.1 q 0 ≥ 0)) && kfl (q ++ [c]) r
def kvalid (a b : Str) (ps : List (Str × Str)) : Bool := isSmall a && isSmall b && decide (¬ (ps.length > 4)) && kfl [] ps && decide ((ktext a b ps).length ≤ 150)
theorem kpart_len (p : Str × Str) : (kpart p).length = 3 + p.1.length + (qw p.2).length := by
 unfold kpart; simp only [List.length_append, List.length_cons, List.length_nil]
 omega
theorem ktail_append (a b : List (Str × Str)) : ktail (a ++ b) = ktail a ++ ktail b := by
 induction a with
 | nil => rfl
 | cons c a ih => simp only [List.cons_append, ktail, ih, List.append_assoc]
theorem ktail_len (ps : List (Str × Str)) : (ktail ps).length ≤ 2 * szp ps + 5 * ps.length := by
 induction ps with
 | nil => simp [ktail]
 | cons c r ih =>
  have h1 := kpart_len c
  have h2 := qw_len c.2
  simp only [ktail, szp, List.length_append, List.length_cons]
  omega
theorem szp_append (a b : List (Str × Str)) : szp (a ++ b) = szp a + szp b := by
 induction a with
 | nil => simp [szp]
 | cons c a ih => simp only [List.cons_append, szp, ih]; omega
theorem small_take {ls p r : List (Str × Str)} (h : ls = p ++ r) (hs : small ls) : small p := fun x hx => hs x (by rw [h]; exact List.mem_append_left _ hx)
theorem take_map_mid {ls p r : List (Str × Str)} (h : ls = p ++ r) : (ls.map e76).take p.length = p.map e76 := by
 rw [h, List.map_append]
 exact List.take_left' (by simp)
theorem impl_kindText_ev (a b : Str) (ps : List (Str × Str)) (ha : a.length ≤ 1048576) (hb : b.length ≤ 1048576) (hz : szp ps ≤ 1048576) (hn : ps.length ≤ 1048576) : Ev (fun k => impl_kindText.f k (ofL a) (ofL b) (ps.map e76)) (ofL (ktext a b ps)) := by
 have hs := small_of hz
 unfold impl_kindText.f
 have e47 : (⟨#[47]⟩ : ByteArray) = ofL [47] := rfl
 simp only [e47, ofL_append, size_ofL, List.length_map]
 refine vp (by omega) (vp (by first | omega | (simp only [List.length_append, List.length_cons, List.length_nil]; omega)) ?_)
 have key : ∀ (r p : List (Str × Str)), ps = p ++ r → Ev (fun k => impl_kindText.l0 k (ofL (a ++ [47] ++ b ++ ktail p)) (ps.map e76) (ps.length : Int) (p.length : Int)) (ofL (ktext a b ps)) := by
  intro r
  induction r with
  | nil =>
   intro p h
   rw [List.append_nil] at h
   subst h
   refine vc ?_
   simp only [impl_kindText.l0]
   exact vn (by omega) (vs _)
  | cons c r ih =>
   intro p h
   have hz2 := len_mid h
   have e1 := rd76_mid h
   have hc := hs c (by rw [h]; simp)
   have hh := ih (p ++ [c]) (by rw [h]; simp)
   rw [len_snoc, ktail_append] at hh
   have hq := qw_len c.2
   have hp : (ktail p).length ≤ 20000000 := by
    have h1 := ktail_len p
    have h2 : szp p ≤ szp ps := by rw [h, szp_append]; omega
    omega
   have hi := impl_QuoteWord_ev c.2 (by omega)
   have w1 : wrap64 ((p.length : Int) + 1) = (p.length : Int) + 1 := wrap_id (by omega) (by omega)
   have e59 : (⟨#[59, 32]⟩ : ByteArray) = ofL [59, 32] := rfl
   have e61 : (⟨#[61]⟩ : ByteArray) = ofL [61] := rfl
   refine vc ?_
   simp only [impl_kindText.l0, e1, w1, e76, e59, e61, size_ofL, ofL_append, List.length_map]
   clear w1 e1
   refine vp (by omega) (vp (by omega) (vp (by omega) (vp (by first | omega | (simp only [List.length_cons, List.length_nil]; omega)) (vp (by first | omega | (simp only [List.length_append, List.length_cons, List.length_nil]; omega)) (vb hi ?_)))))
   simp only [size_ofL, ofL_append]
   refine vp (by first | omega | (simp only [List.length_append, List.length_cons, List.length_nil]; omega)) (vp (by first | omega | (simp only [List.length_append, List.length_cons, List.length_nil]; omega)) ?_)
   have e : a ++ [47] ++ b ++ ktail p ++ ([59, 32] ++ c.1 ++ [61] ++ qw c.2) = a ++ [47] ++ b ++ (ktail p ++ ktail [c]) := by
    simp [ktail, kpart]
   rw [e]
   exact hh
 have := key ps [] rfl
 simpa [ktail] using this
theorem impl_KindValid_ev (a b : Str) (ps : List (Str × Str)) (ha : a.length ≤ 1048576) (hb : b.length ≤ 1048576) (hz : szp ps ≤ 1048576) (hn : ps.length ≤ 1048576) : Ev (fun k => impl_KindValid.f k (ofL a) (ofL b) (ps.map e76)) (kvalid a b ps) := by
 have hs := small_of hz
 have ht := impl_kindText_ev a b ps ha hb hz hn
 have hbad : Ev (fun k => impl_KindValid.j0 k true (ofL a) (ofL b) (ps.map e76)) false := by
  refine vc ?_
  simp only [impl_KindValid.j0]
  exact vp trivial (vs _)
 have key : ∀ (r p : List (Str × Str)), ps = p ++ r → Ev (fun k => impl_KindValid.l0 k (ps.map e76) (ps.length : Int) (p.length : Int) (ofL a) (ofL b) (ps.map e76)) (kfl p r && decide ((ktext a b ps).length ≤ 150)) := by
  intro r
  induction r with
  | nil =>
   intro p h
   rw [List.append_nil] at h
   subst h
   refine vc ?_
   simp only [impl_KindValid.l0, kfl, Bool.true_and]
   refine vn (by omega) (vb ht (vq (vs _) ?_))
   rw [size_ofL]
   by_cases h1 : (ktext a b ps).length ≤ 150
   ·
    rw [decide_eq_true h1]; exact decide_eq_true (by omega)
   ·
    rw [decide_eq_false h1]; exact decide_eq_false (by omega)
  | cons c r ih =>
   intro p h
   have hz2 := len_mid h
   have e1 := rd76_mid h
   have hc := hs c (by rw [h]; simp)
   have hh := ih (p ++ [c]) (by rw [h]; simp)
   rw [len_snoc] at hh
   have w1 : wrap64 ((p.length : Int) + 1) = (p.length : Int) + 1 := wrap_id (by omega) (by omega)
   have i1 := impl_isSmallName_ev c.1 (by omega)
   have i2 := impl_TextValid_ev c.2 (by omega)
   have i3 := impl_fieldPlace_ev p c.1 (small_take h hs) hc.1 (by omega)
   have e3 := take_map_mid h
   refine vc ?_
   simp only [impl_KindValid.l0, kfl, e1, w1, e76, size_ofL, List.length_map, Int.toNat_natCast]
   clear w1 e1
   refine vp (by omega) (vp (by omega) (vp (by omega) (vb i1 ?_)))
   cases q1 : isSmall c.1 with
   | false => exact vn (by simp) (vs _)
   | true =>
    refine vp rfl (vb i2 ?_)
    cases q2 : tvalid c.2 with
    | false => exact vn (by simp) (vs _)
    | true =>
     refine vp rfl ?_
     by_cases q3 : c.2.length ≤ 40
     ·
      rw [decide_eq_true q3]
      refine vn (by omega) (vp (by omega) ?_)
      rw [e3]
      refine vb i3 ?_
      by_cases q4 : fidx c.1 p 0 ≥ 0
      ·
       refine vp q4 (vq (vs _) ?_)
       rw [decide_eq_false (fun hn => hn q4)]; rfl
      ·
       refine vn q4 ?_
       rw [decide_eq_true q4]
       simpa using hh
     ·
      rw [decide_eq_false q3]
      exact vp (by omega) (vs _)
 unfold impl_KindValid.f kvalid
 refine vb (impl_isSmallName_ev a (by omega)) ?_
 cases q1 : isSmall a with
 | false => exact vn (by simp) hbad
 | true =>
  refine vp rfl (vb (impl_isSmallName_ev b (by omega)) ?_)
  cases q2 : isSmall b with
  | false => exact vn (by simp) hbad
  | true =>
   refine vp rfl (vc ?_)
   simp only [impl_KindValid.j0, List.length_map]
   by_cases q3 : ps.length > 4
   ·
    refine vp (decide_eq_true (by omega)) (vq (vs _) ?_)
    rw [decide_eq_false (fun hn => hn q3)]; rfl
   ·
    refine vn (by simp; omega) ?_
    rw [decide_eq_true q3]
    have := key ps [] rfl
    simpa using this
theorem impl_isBoundary_1_eq (c : UInt8) : impl_isBoundary_1.f (c.toNat : Int) = some (alnB c) := by
 unfold impl_isBoundary_1.f alnB
 rw [impl_isLetter_eq, impl_isDigit_eq]
 cases letB c <;> simp
theorem impl_allBytes_isBoundary_1_ev (l : Str) (hl : l.length ≤ 1000000000000000) : Ev (fun k => impl_allBytes_isBoundary_1.f k (ofL l)) (l.all alnB) := by
 unfold impl_allBytes_isBoundary_1.f
 rw [size_ofL]
 refine vq (run_start (xs := l) (F := fun k (_ : Unit) i => impl_allBytes_isBoundary_1.l0 k (ofL l) (l.length : Int) i) (st := fun _ c => if alnB c = true then .inr () else .inl false) (fin := fun _ => true) (s := ()) (fun _ _ => True) trivial ?_ ?_) ?_
 ·
  intro p c r s h _
  have hz := len_mid h
  have e1 := bt_ofL_mid h
  have w1 : wrap64 ((p.length : Int) + 1) = (p.length : Int) + 1 := wrap_id (by omega) (by omega)
  simp only [impl_allBytes_isBoundary_1.l0, e1, w1, size_ofL]
  clear w1 e1
  cases e : alnB c with
  | true =>
   simp only [if_true]
   refine ⟨(fun v hv => by cases hv), fun s' hs => ⟨trivial, fun v hv => ?_⟩⟩
   refine vp (by omega) (vp (by omega) (vp (by omega) (ev_bind0 (impl_isBoundary_1_eq c) (vp e hv))))
  | false =>
   refine ⟨(fun v hv => ?_), fun s' hs => by simp at hs⟩
   simp only [Bool.false_eq_true, if_false, Sum.inl.injEq] at hv
   subst hv
   refine vp (by omega) (vp (by omega) (vp (by omega) (ev_bind0 (impl_isBoundary_1_eq c) (vn (by rw [e]; simp) (vs _)))))
 ·
  intro s _
  simp only [impl_allBytes_isBoundary_1.l0]
  exact vn (by omega) (vs _)
 ·
  clear hl
  induction l with
  | nil => rfl
  | cons c r ih =>
   unfold run
   cases e : alnB c with
   | true => simp [e, ih]
   | false => simp [e]
theorem impl_isBoundary_ev (l : Str) (hl : l.length ≤ 1000000000000000) : Ev (fun k => impl_isBoundary.f k (ofL l)) (isBd l) := by
 unfold impl_isBoundary.f isBd
 rw [size_ofL]
 by_cases h1 : 1 ≤ l.length
 ·
  rw [decide_eq_true h1]
  refine vp (by omega) ?_
  by_cases h2 : l.length ≤ 20
  ·
   rw [decide_eq_true h2]
   exact vp (by omega) (vb (impl_allBytes_isBoundary_1_ev l hl) (vs _))
  ·
   rw [decide_eq_false h2]
   exact vn (by omega) (vs _)
 ·
  rw [decide_eq_false h1]
  exact vn (by omega) (vs _)
/-! The boundary of a kind. -/
def getF (ps : List (Str × Str)) (n : Str) : Str × Bool := if fidx n ps 0 < 0 then ([], false) else ((ps.getD (fidx n ps 0).toNat ([], [])).2, true)
def multi : Str := [109, 117, 108, 116, 105, 112, 97, 114, 116]
def bnd : Str := [98, 111, 117, 110, 100, 97, 114, 121]
def bOf (a b : Str) (ps : List (Str × Str)) : Str × Bool := if kvalid a b ps = true ∧ a = multi ∧ isBd (getF ps bnd).1 = true then ((getF ps bnd).1, true) else ([], false)
theorem getF_small (ps : List (Str × Str)) (n : Str) (hs : small ps) : (getF ps n).1.length ≤ 1048576 := by
 unfold getF
 split
 ·
  simp
 ·
  rw [List.getD_eq_getElem?_getD]
  cases e : ps[(fidx n ps 0).toNat]? with
  | none => simp
  | some x => exact (hs x (List.mem_of_getElem? e)).2
theorem rd76_getD (ps : List (Str × Str)) (i : Int) : (rd_T69 (ps.map e76) i).f1 = ofL ((ps.getD i.toNat ([], [])).2) := by
 unfold rd_T69
 rw [List.getD_eq_getElem?_getD, List.getD_eq_getElem?_getD, List.getElem?_map]
 cases ps[i.toNat]? with
 | none => rfl
 | some x => rfl
theorem impl_GetField_ev (ps : List (Str × Str)) (n : Str) (hs : small ps) (hn : n.length ≤ 1048576) (hl : ps.length ≤ 1048576) : Ev (fun k => impl_GetField.f k (ps.map e76) (ofL n)) (ofL (getF ps n).1, (getF ps n).2) := by
 unfold impl_GetField.f getF
 refine vb (impl_fieldPlace_ev ps n hs hn hl) ?_
 have hr := fidx_range n ps 0
 by_cases h : fidx n ps 0 < 0
 ·
  simp only [if_pos h]; exact vq (vs _) rfl
 ·
  simp only [if_neg h, List.length_map, rd76_getD]
  exact vp (by omega) (vp (by omega) (vs _))
theorem bnd_lit : (⟨#[98, 111, 117, 110, 100, 97, 114, 121]⟩ : ByteArray) = ofL bnd := rfl
theorem impl_BoundaryOf_ev (a b : Str) (ps : List (Str × Str)) (ha : a.length ≤ 1048576) (hb : b.length ≤ 1048576) (hz : szp ps ≤ 1048576) (hn : ps.length ≤ 1048576) : Ev (fun k => impl_BoundaryOf.f k (ofL a) (ofL b) (ps.map e76)) (ofL (bOf a b ps).1, (bOf a b ps).2) := by
 have hs := small_of hz
 have hg := getF_small ps bnd hs
 unfold impl_BoundaryOf.f
 refine vb (impl_KindValid_ev a b ps ha hb hz hn) ?_
 simp only [toList_ofL]
 have hbad : bOf a b ps = ([], false) → Ev (fun k => impl_BoundaryOf.j0 k true (ofL a) (ofL b) (ps.map e76)) (ofL (bOf a b ps).1, (bOf a b ps).2) := by
  intro e
  rw [e]
  refine vc ?_
  simp only [impl_BoundaryOf.j0]
  exact vp trivial (vq (vs _) rfl)
 cases e : kvalid a b ps with
 | false => exact vn (by simp) (hbad (by unfold bOf; rw [if_neg (by simp [e])]))
 | true =>
  refine vp rfl ?_
  by_cases hm : a = multi
  ·
   have e2 : (a != ([109, 117, 108, 116, 105, 112, 97, 114, 116] : List UInt8)) = false := by rw [hm]; decide
   rw [e2]
   refine vc ?_
   simp only [impl_BoundaryOf.j0, bnd_lit]
   refine vn (by simp) (vb (impl_GetField_ev ps bnd hs (by decide) (by omega)) (vb (impl_isBoundary_ev (getF ps bnd).1 (by omega)) ?_))
   cases e3 : isBd (getF ps bnd).1 with
   | true =>
    have hv : bOf a b ps = ((getF ps bnd).1, true) := by unfold bOf; rw [if_pos ⟨e, hm, e3⟩]
    rw [hv]; exact vp rfl (vs _)
   | false =>
    have hv : bOf a b ps = ([], false) := by unfold bOf; rw [if_neg (by rw [e3]; simp)]
    rw [hv]; exact vn (by simp) (vq (vs _) rfl)
  ·
   have e2 : (a != ([109, 117, 108, 116, 105, 112, 97, 114, 116] : List UInt8)) = true := by simpa [multi] using hm
   rw [e2]
   exact hbad (by unfold bOf; rw [if_neg (by simp [hm])])
/-! Kinds parsed: the model. -/
def rdq : Str → Option (Str × Str)
 | [] => none
 | c :: r => if c = 34 then some ([], r) else if c = 92 then (match r with
   | [] => none
   | d :: t => (rdq t).map fun q => (d :: q.1, q.2)) else (rdq r).map fun q => (c :: q.1, q.2)
theorem rdq_cons (c : UInt8) (r : Str) : rdq (c :: r) = if c = 34 then some ([], r) else if c = 92 then (match r with
   | [] => none
   | d :: t => (rdq t).map fun q => (d :: q.1, q.2)) else (rdq r).map fun q => (c :: q.1, q.2) := by rw [rdq.eq_def]; rfl
def nq (q : Nat) (c : UInt8) : Nat := if q = 2 then 1 else if q = 1 then (if c = 34 then 0 else if c = 92 then 2 else 1) else (if c = 34 then 1 else 0)
def cut0 (b : UInt8) : Nat → Str → Option (Str × Str)
 | _, [] => none
 | q, c :: r => if q = 0 ∧ c = b then some ([], r) else (cut0 b (nq q c) r).map fun x => (c :: x.1, x.2)
def hd1 (c : UInt8) : List Str → List Str
 | [] => [[c]]
 | x :: r => (c :: x) :: r
def parts (b : UInt8) : Nat → Str → List Str
 | _, [] => [[]]
 | q, c :: r => if q = 0 ∧ c = b then [] :: parts b 0 r else hd1 c (parts b (nq q c) r)
theorem rdq_suf (b : UInt8) : ∀ (n : Nat) (r w t : Str), r.length ≤ n → rdq r = some (w, t) → ∃ m, r = m ++ t ∧ w.length < m.length ∧ cut0 b 1 r = (cut0 b 0 t).map fun x => (m ++ x.1, x.2) := by
 intro n
 induction n with
 | zero => intro r w t h h2; cases r with
  | nil => cases h2
  | cons c r => simp at h
 | succ n ih =>
  intro r w t h h2
  cases r with
  | nil => cases h2
  | cons c r =>
   simp only [List.length_cons] at h
   rw [rdq_cons] at h2
   by_cases c1 : c = 34
   ·
    rw [if_pos c1] at h2
    cases h2
    refine ⟨[c], rfl, by simp, ?_⟩
    rw [cut0, if_neg (by simp), c1]
    rfl
   ·
    rw [if_neg c1] at h2
    by_cases c2 : c = 92
    ·
     rw [if_pos c2] at h2
     cases r with
     | nil => cases h2
     | cons d r =>
      simp only [List.length_cons] at h
      simp only [Option.map_eq_some_iff] at h2
      obtain ⟨⟨w1, t1⟩, e1, e2⟩ := h2
      cases e2
      obtain ⟨m, e3, e4, e5⟩ := ih r w1 t1 (by omega) e1
      refine ⟨c :: d :: m, by rw [e3]; rfl, by simp only [List.length_cons]; omega, ?_⟩
      rw [cut0, if_neg (by simp), c2, cut0, if_neg (by simp [nq])]
      have : nq (nq 1 92) d = 1 := by simp [nq]
      rw [this, e5]
      cases cut0 b 0 t1 <;> rfl
    ·
     rw [if_neg c2] at h2
     simp only [Option.map_eq_some_iff] at h2
     obtain ⟨⟨w1, t1⟩, e1, e2⟩ := h2
     cases e2
     obtain ⟨m, e3, e4, e5⟩ := ih r w1 t1 (by omega) e1
     refine ⟨c :: m, by rw [e3]; rfl, by simp only [List.length_cons]; omega, ?_⟩
     have : nq 1 c = 1 := by simp [nq, c1, c2]
     rw [cut0, if_neg (by simp), this, e5]
     cases cut0 b 0 t1 <;> rfl
theorem rdq_none (b : UInt8) : ∀ (n : Nat) (r : Str), r.length ≤ n → rdq r = none → cut0 b 1 r = none := by
 intro n
 induction n with
 | zero => intro r h h2; cases r with
  | nil => rfl
  | cons c r => simp at h
 | succ n ih =>
  intro r h h2
  cases r with
  | nil => rfl
  | cons c r =>
   simp only [List.length_cons] at h
   rw [rdq_cons] at h2
   by_cases c1 : c = 34
   ·
    rw [if_pos c1] at h2; cases h2
   ·
    rw [if_neg c1] at h2
    by_cases c2 : c = 92
    ·
     rw [if_pos c2] at h2
     cases r with
     | nil => rw [cut0, if_neg (by simp)]; rfl
     | cons d r =>
      simp only [List.length_cons] at h
      simp only [Option.map_eq_none_iff] at h2
      rw [cut0, if_neg (by simp), c2, cut0, if_neg (by simp [nq])]
      have : nq (nq 1 92) d = 1 := by simp [nq]
      rw [this, ih r (by omega) h2]; rfl
    ·
     rw [if_neg c2] at h2
     simp only [Option.map_eq_none_iff] at h2
     have : nq 1 c = 1 := by simp [nq, c1, c2]
     rw [cut0, if_neg (by simp), this, ih r (by omega) h2]; rfl
theorem cut0_eq (b : UInt8) (s : Str) : ∀ (q : Nat) (x t : Str), cut0 b q s = some (x, t) → s = x ++ b :: t := by
 induction s with
 | nil => intro q x t h; cases h
 | cons c r ih =>
  intro q x t h
  rw [cut0] at h
  split at h
  ·
   rename_i hc; cases h; rw [hc.2]; rfl
  ·
   simp only [Option.map_eq_some_iff] at h
   obtain ⟨⟨w1, t1⟩, e1, e2⟩ := h
   cases e2
   rw [ih _ _ _ e1]; rfl
theorem parts_cut (b : UInt8) (s : Str) : ∀ q : Nat, parts b q s = match cut0 b q s with
  | none => [s]
  | some x => x.1 :: parts b 0 x.2 := by
 induction s with
 | nil => intro q; rfl
 | cons c r ih =>
  intro q
  rw [parts, cut0]
  by_cases h : q = 0 ∧ c = b
  ·
   rw [if_pos h, if_pos h]
  ·
   rw [if_neg h, if_neg h, ih]
   cases cut0 b (nq q c) r <;> rfl
theorem parts_len (b : UInt8) (s : Str) : ∀ q : Nat, 1 ≤ (parts b q s).length ∧ (parts b q s).length ≤ s.length + 1 := by
 induction s with
 | nil => intro q; exact ⟨Nat.le_refl _, Nat.le_refl _⟩
 | cons c r ih =>
  intro q
  rw [parts]
  split
  ·
   have := ih 0; simp only [List.length_cons]; omega
  ·
   have := ih (nq q c)
   cases e : parts b (nq q c) r with
   | nil => rw [e] at this; simp at this
   | cons y l => rw [e] at this; simp only [hd1, List.length_cons] at this ⊢; omega
/-- Each part is a piece of the text. -/
theorem parts_mem (b : UInt8) (s : Str) : ∀ (q : Nat) (x : Str), x ∈ parts b q s → x.length ≤ s.length ∧ ∀ c ∈ x, c ∈ s := by
 induction s with
 | nil => intro q x h; simp only [parts, List.mem_singleton] at h; subst h; simp
 | cons c r ih =>
  intro q x h
  rw [parts] at h
  split at h
  ·
   rcases List.mem_cons.mp h with rfl | h
   ·
    simp
   ·
    obtain ⟨h1, h2⟩ := ih _ x h
    exact ⟨by simp only [List.length_cons]; omega, fun d hd => List.mem_cons_of_mem _ (h2 d hd)⟩
  ·
   cases e : parts b (nq q c) r with
   | nil => have := parts_len b r (nq q c); rw [e] at this; simp at this
   | cons y l =>
    rw [e, hd1] at h
    rcases List.mem_cons.mp h with rfl | h
    ·
     obtain ⟨h1, h2⟩ := ih (nq q c) y (by rw [e]; simp)
     refine ⟨by simp only [List.length_cons]; omega, fun d hd => ?_⟩
     rcases List.mem_cons.mp hd with rfl | hd
     ·
      simp
     ·
      exact List.mem_cons_of_mem _ (h2 d hd)
    ·
     obtain ⟨h1, h2⟩ := ih (nq q c) x (by rw [e]; exact List.mem_cons_of_mem _ h)
     exact ⟨by simp only [List.length_cons]; omega, fun d hd => List.mem_cons_of_mem _ (h2 d hd)⟩
/-! Words. -/
def wds : Nat → Bool → Str → Option (List Str)
 | 0, _, _ => none
 | _ + 1, _, [] => some []
 | n + 1, a, c :: r => if c = 32 then wds n true r else if a = false then none else if c = 34 then (match rdq r with
   | none => none
   | some q => (wds n false q.2).map (q.1 :: ·)) else if (c :: r).takeWhile atB = [] then none else (wds n false ((c :: r).dropWhile atB)).map ((c :: r).takeWhile atB :: ·)
def words (s : Str) : Option (List Str) := wds (s.length + 1) true s
/-! Cut at a byte. -/
def cutB (b : UInt8) : Str → Option (Str × Str)
 | [] => none
 | c :: r => if c = b then some ([], r) else (cutB b r).map fun x => (c :: x.1, x.2)
theorem cutB_eq (b : UInt8) (s : Str) : ∀ (x t : Str), cutB b s = some (x, t) → s = x ++ b :: t := by
 induction s with
 | nil => intro x t h; cases h
 | cons c r ih =>
  intro x t h
  rw [cutB] at h
  split at h
  ·
   rename_i hc; cases h; rw [hc]; rfl
  ·
   simp only [Option.map_eq_some_iff] at h
   obtain ⟨⟨w1, t1⟩, e1, e2⟩ := h
   cases e2
   rw [ih _ _ e1]; rfl
theorem index_B (b : UInt8) (s : Str) : Lib.index s [b] = match cutB b s with
  | none => -1
  | some x => (x.1.length : Int) := by
 induction s with
 | nil => rfl
 | cons c r ih =>
  rw [Lib.index, cutB]
  by_cases h : c = b
  ·
   rw [if_pos (by simp [List.isPrefixOf, h]), if_pos h]; rfl
  ·
   rw [if_neg (by simp only [List.isPrefixOf, Bool.and_true, beq_iff_eq]; exact fun e => h e.symm), if_neg h, ih]
   cases e : cutB b r with
   | none => rfl
   | some q =>
    simp only [Option.map_some, List.length_cons]
    rw [if_neg (by simp)]
    rfl
theorem cut_B (b : UInt8) (s : Str) : Lib.cut s [b] = match cutB b s with
  | none => (s, [], false)
  | some x => (x.1, x.2, true) := by
 unfold Lib.cut
 rw [index_B]
 cases e : cutB b s with
 | none => rfl
 | some q =>
  obtain ⟨x, t⟩ := q
  have := cutB_eq b s x t e
  simp only
  rw [if_pos (by omega)]
  subst this
  simp
def trim (l : Str) : Str := Lib.trimB l 32
theorem dropWhile_suf (p : UInt8 → Bool) (l : Str) : ∃ m, l = m ++ l.dropWhile p ∧ ∀ c ∈ m, p c = true := by
 induction l with
 | nil => exact ⟨[], rfl, by simp⟩
 | cons c r ih =>
  cases e : p c with
  | true =>
   obtain ⟨m, h1, h2⟩ := ih
   refine ⟨c :: m, by simp [List.dropWhile, e]; exact h1, fun d hd => ?_⟩
   rcases List.mem_cons.mp hd with rfl | hd
   ·
    exact e
   ·
    exact h2 d hd
  | false => exact ⟨[], by simp [List.dropWhile, e], by simp⟩
/-- What is trimmed: spaces ahead and behind. -/
theorem trim_split (l : Str) : ∃ i j, l = List.replicate i 32 ++ trim l ++ List.replicate j 32 := by
 unfold trim Lib.trimB Lib.trimLeftB Lib.trimRightB
 have rep : ∀ m : Str, (∀ c ∈ m, (c == 32) = true) → m = List.replicate m.length 32 := fun m h => List.eq_replicate_iff.mpr ⟨rfl, fun c hc => by simpa using h c hc⟩
 obtain ⟨m, h1, h2⟩ := dropWhile_suf (· == 32) l.reverse
 obtain ⟨m2, h3, h4⟩ := dropWhile_suf (· == 32) (l.reverse.dropWhile (· == 32)).reverse
 refine ⟨m2.length, m.length, ?_⟩
 rw [← rep m2 h4, ← h3]
 have e : m.reverse = List.replicate m.length 32 := by
  have := rep m.reverse (fun c hc => h2 c (List.mem_reverse.mp hc))
  rwa [List.length_reverse] at this
 rw [← e, ← List.reverse_append, ← h1, List.reverse_reverse]
theorem trim_len (l : Str) : (trim l).length ≤ l.length := by
 obtain ⟨i, j, h⟩ := trim_split l
 have := congrArg List.length h
 simp only [List.length_append] at this
 omega
theorem trim_cons (l : Str) : trim (32 :: l) = trim l := by
 unfold trim Lib.trimB Lib.trimLeftB Lib.trimRightB
 rw [List.reverse_cons, List.dropWhile_append]
 split
 ·
  rename_i h
  have : l.reverse.dropWhile (· == 32) = [] := by simpa using h
  rw [this]; rfl
 ·
  rw [List.reverse_append]; simp
/-- One parameter; all of them; a kind. -/
def par1 (s : Str) : Option (Str × Str) := match cutB 61 s with
 | none => none
 | some x => match words x.2 with
  | some [w] => some (low (trim x.1), w)
  | _ => none
def pars : List Str → Option (List (Str × Str))
 | [] => some []
 | s :: r => match par1 s with
  | none => none
  | some x => (pars r).map (x :: ·)
def pkO (o : Option (Str × Str)) (ps : Option (List (Str × Str))) : Option (Str × Str × List (Str × Str)) := match o, ps with
 | some x, some ps => if kvalid (low x.1) (low x.2) ps = true then some (low x.1, low x.2, ps) else none
 | _, _ => none
def pk (s : Str) : Option (Str × Str × List (Str × Str)) := if tvalid s = true then pkO (cutB 47 (trim ((parts 59 0 s).headD []))) (pars ((parts 59 0 s).drop 1)) else none
/-! Kinds parsed: the program. -/
theorem u8_inj (c b : UInt8) : ((c.toNat : Int) = (b.toNat : Int)) ↔ c = b := by
 constructor
 ·
  intro e; exact UInt8.toNat_inj.mp (by omega)
 ·
  intro e; rw [e]
def qres (L : Nat) (acc : Str) : Option (Str × Str) → ByteArray × Int × Bool
 | none => (ofL [], 0, false)
 | some q => (ofL (acc ++ q.1), ((L - q.2.length : Nat) : Int), true)
theorem impl_quoted_loop (l : Str) (hl : l.length ≤ 1048576) : ∀ (n : Nat) (r p acc : Str), r.length ≤ n → l = p ++ r → acc.length ≤ p.length → Ev (fun k => impl_quoted.l0 k (ofL l) (zn acc) (p.length : Int)) (qres l.length acc (rdq r)) := by
 intro n
 induction n with
 | zero =>
  intro r p acc h h2 h3
  have : r = [] := List.length_eq_zero_iff.mp (by omega)
  subst this
  rw [List.append_nil] at h2
  subst h2
  refine vc ?_
  simp only [impl_quoted.l0, size_ofL]
  exact vn (by omega) (vq (vs _) rfl)
 | succ n ih =>
  intro r p acc h h2 h3
  cases r with
  | nil =>
   rw [List.append_nil] at h2
   subst h2
   refine vc ?_
   simp only [impl_quoted.l0, size_ofL]
   exact vn (by omega) (vq (vs _) rfl)
  | cons c r =>
   simp only [List.length_cons] at h
   have hz := len_mid h2
   have e1 := bt_ofL_mid h2
   have w1 : wrap64 ((p.length : Int) + 1) = ((p.length + 1 : Nat) : Int) := (wrap_id (by omega) (by omega)).trans (by omega)
   have h34 : (c.toNat : Int) = 34 ↔ c = 34 := u8_eq c 34 (by omega)
   have h92 : (c.toNat : Int) = 92 ↔ c = 92 := u8_eq c 92 (by omega)
   refine vc ?_
   simp only [impl_quoted.l0, e1, w1, size_ofL, zn_length]
   clear e1 w1
   rw [rdq_cons]
   refine vp (by omega) (vp (by omega) ?_)
   by_cases c1 : (c.toNat : Int) = 34
   ·
    refine vp c1 (vq (vs _) ?_)
    rw [if_pos (h34.mp c1), qres, strOfNums_zn, show l.length - r.length = p.length + 1 by omega]
    simp
   ·
    refine vn c1 ?_
    rw [if_neg (fun hh => c1 (h34.mpr hh))]
    by_cases c2 : (c.toNat : Int) = 92
    ·
     refine vp c2 ?_
     rw [if_pos (h92.mp c2)]
     cases r with
     | nil =>
      simp only [List.length_nil] at hz
      exact vp (by omega) (vq (vs _) rfl)
     | cons d r =>
      simp only [List.length_cons] at h hz
      have e2 : bt (ofL l) ((p.length + 1 : Nat) : Int) = (d.toNat : Int) := by
       have := bt_ofL_mid (l := l) (p := p ++ [c]) (c := d) (r := r) (by rw [h2]; simp)
       rwa [List.length_append] at this
      have w2 : wrap64 (((p.length + 1 : Nat) : Int) + 1) = ((p.length + 2 : Nat) : Int) := (wrap_id (by omega) (by omega)).trans (by omega)
      have := ih r (p ++ [c, d]) (acc ++ [d]) (by omega) (by rw [h2]; simp) (by simp; omega)
      rw [zn_append, List.length_append] at this
      have e3 : ([(d.toNat : Int)] : List Int) = zn [d] := rfl
      rw [e2, w2, e3]
      clear e2 w2
      refine vn (by omega) (vp (by omega) (vp (by omega) (vp (by omega) (vq this ?_))))
      show _ = qres l.length acc ((rdq r).map fun q => (d :: q.1, q.2))
      cases rdq r with
      | none => rfl
      | some q => simp [qres]
    ·
     refine vn c2 ?_
     rw [if_neg (fun hh => c2 (h92.mpr hh))]
     have := ih r (p ++ [c]) (acc ++ [c]) (by omega) (by rw [h2]; simp) (by simp; omega)
     rw [zn_append, List.length_append] at this
     have e3 : ([(c.toNat : Int)] : List Int) = zn [c] := rfl
     rw [e3]
     refine vp (by omega) (vq this ?_)
     cases rdq r with
     | none => rfl
     | some q => simp [qres]
theorem impl_quoted_ev (c : UInt8) (r : Str) (hl : r.length ≤ 1048575) : Ev (fun k => impl_quoted.f k (ofL (c :: r))) (qres (r.length + 1) [] (rdq r)) := impl_quoted_loop (c :: r) (by simp only [List.length_cons]; omega) r.length r [c] [] (Nat.le_refl _) rfl (by simp)
def ores (p : Nat) : Option (Str × Str) → Int
 | none => -1
 | some q => ((p + q.1.length : Nat) : Int)
theorem drop_mid {l p r : Str} (h : l = p ++ r) : l.drop p.length = r := by rw [h, List.drop_left]
theorem impl_outside_loop (l : Str) (b : UInt8) (hb : b ≠ 34) (hl : l.length ≤ 1048576) : ∀ (n : Nat) (r p : Str), r.length ≤ n → l = p ++ r → Ev (fun k => impl_outside.l0 k (ofL l) (b.toNat : Int) (p.length : Int)) (ores p.length (cut0 b 0 r)) := by
 intro n
 induction n with
 | zero =>
  intro r p h h2
  have : r = [] := List.length_eq_zero_iff.mp (by omega)
  subst this
  rw [List.append_nil] at h2
  subst h2
  refine vc ?_
  simp only [impl_outside.l0, size_ofL]
  exact vn (by omega) (vq (vs _) rfl)
 | succ n ih =>
  intro r p h h2
  cases r with
  | nil =>
   rw [List.append_nil] at h2
   subst h2
   refine vc ?_
   simp only [impl_outside.l0, size_ofL]
   exact vn (by omega) (vq (vs _) rfl)
  | cons c r =>
   simp only [List.length_cons] at h
   have hz := len_mid h2
   have e1 := bt_ofL_mid h2
   have w1 : wrap64 ((p.length : Int) + 1) = ((p.length + 1 : Nat) : Int) := (wrap_id (by omega) (by omega)).trans (by omega)
   have h34 : (c.toNat : Int) = 34 ↔ c = 34 := u8_eq c 34 (by omega)
   have hbb := u8_inj c b
   have ex : (ofL l).extract (p.length : Int).toNat l.length = ofL (c :: r) := by
    rw [Int.toNat_natCast, extract_ofL, drop_mid h2, List.take_of_length_le (by simp only [List.length_cons]; omega)]
   refine vc ?_
   simp only [impl_outside.l0, e1, w1, size_ofL, ex]
   clear e1 w1 ex
   rw [cut0]
   refine vp (by omega) (vp (by omega) ?_)
   by_cases c1 : (c.toNat : Int) = 34
   ·
    have hc := h34.mp c1
    refine vp c1 (vp (by omega) (vb (impl_quoted_ev c r (by omega)) ?_))
    rw [if_neg (by intro hh; exact hb (hh.2.symm.trans hc)), show nq 0 c = 1 by rw [hc]; rfl]
    cases e : rdq r with
    | none => rw [rdq_none b r.length r (Nat.le_refl _) e]; exact vn (by simp [qres]) (vq (vs _) rfl)
    | some q =>
     obtain ⟨w, t⟩ := q
     obtain ⟨m, h3, h4, h5⟩ := rdq_suf b r.length r w t (Nat.le_refl _) e
     have hm : r.length = m.length + t.length := by rw [h3, List.length_append]
     have := ih t (p ++ c :: m) (by omega) (by rw [h2, h3]; simp)
     refine vp rfl ?_
     simp only [qres]
     have w2 : wrap64 (((r.length + 1 - t.length : Nat) : Int) - 1) = (m.length : Int) := (wrap_id (by omega) (by omega)).trans (by omega)
     rw [w2]
     clear w2
     have w3 : wrap64 ((p.length : Int) + (m.length : Int)) = ((p.length + m.length : Nat) : Int) := (wrap_id (by omega) (by omega)).trans (by omega)
     rw [w3]
     clear w3
     have w4 : wrap64 (((p.length + m.length : Nat) : Int) + 1) = ((p ++ c :: m).length : Int) := (wrap_id (by omega) (by omega)).trans (by simp only [List.length_append, List.length_cons]; omega)
     rw [w4, h5]
     clear w4
     refine vq this ?_
     cases cut0 b 0 t with
     | none => rfl
     | some x => simp only [Option.map_some, ores, List.length_append, List.length_cons]; omega
   ·
    refine vn c1 ?_
    have hc : ¬ c = 34 := fun hh => c1 (h34.mpr hh)
    by_cases c2 : c = b
    ·
     rw [if_pos ⟨rfl, c2⟩]
     exact vp (hbb.mpr c2) (vq (vs _) (by simp [ores]))
    ·
     rw [if_neg (fun hh => c2 hh.2), show nq 0 c = 0 by simp [nq, hc]]
     have := ih r (p ++ [c]) (by omega) (by rw [h2]; simp)
     rw [List.length_append] at this
     refine vn (fun hh => c2 (hbb.mp hh)) (vq this ?_)
     cases cut0 b 0 r with
     | none => rfl
     | some x => simp only [Option.map_some, ores, List.length_append, List.length_cons, List.length_nil]; omega
theorem impl_outside_ev (l : Str) (b : UInt8) (hb : b ≠ 34) (hl : l.length ≤ 1048576) : Ev (fun k => impl_outside.f k (ofL l) (b.toNat : Int)) (ores 0 (cut0 b 0 l)) := impl_outside_loop l b hb hl l.length l [] (Nat.le_refl _) rfl
theorem impl_splitOutside_loop (b : UInt8) (hb : b ≠ 34) : ∀ (n : Nat) (s : Str) (acc : List Str), s.length ≤ n → s.length + acc.length ≤ 1048576 → Ev (fun k => impl_splitOutside.l0 k (ofL s) (b.toNat : Int) (acc.map ofL)) ((acc ++ parts b 0 s).map ofL) := by
 intro n
 induction n with
 | zero =>
  intro s acc h h2
  have : s = [] := List.length_eq_zero_iff.mp (by omega)
  subst this
  refine vc ?_
  simp only [impl_splitOutside.l0, List.length_map]
  refine vb (impl_outside_ev [] b hb (by simp)) (vp (by simp [cut0, ores]) (vp (by simp at h2; omega) (vq (vs _) ?_)))
  simp [parts]
 | succ n ih =>
  intro s acc h h2
  refine vc ?_
  simp only [impl_splitOutside.l0, List.length_map, size_ofL]
  refine vb (impl_outside_ev s b hb (by omega)) ?_
  rw [parts_cut]
  cases e : cut0 b 0 s with
  | none => exact vp (by simp [ores]) (vp (by omega) (vq (vs _) (by simp)))
  | some q =>
   obtain ⟨x, t⟩ := q
   have hs := cut0_eq b s 0 x t e
   have hz : s.length = x.length + (t.length + 1) := by rw [hs]; simp
   have := ih t (acc ++ [x]) (by omega) (by simp; omega)
   have w1 : wrap64 ((x.length : Int) + 1) = ((x.length + 1 : Nat) : Int) := (wrap_id (by omega) (by omega)).trans (by omega)
   simp only [ores, Nat.zero_add, w1, Int.toNat_natCast, extract_ofL, List.drop_zero, Nat.sub_zero]
   have e1 : s.take x.length = x := by rw [hs, List.take_left]
   have e2 : (s.drop (x.length + 1)).take (s.length - (x.length + 1)) = t := by
    rw [List.take_of_length_le (by simp), hs, ← List.drop_drop, List.drop_left]; rfl
   rw [e1, e2]
   clear w1
   refine vn (by omega) (vp (by omega) (vp (by omega) (vp (by omega) (vp (by omega) (vp (by omega) (vq (r := ((acc ++ [x] ++ parts b 0 t).map ofL)) ?_ (by simp)))))))
   simpa using this
theorem impl_splitOutside_ev (s : Str) (hs : s.length ≤ 1048576) : Ev (fun k => impl_splitOutside.f k (ofL s) 59) ((parts 59 0 s).map ofL) := by
 have := impl_splitOutside_loop 59 (by decide) s.length s [] (Nat.le_refl _) (by simpa using hs)
 unfold impl_splitOutside.f
 simpa using this
def wres (acc : List Str) : Option (List Str) → List ByteArray × Bool
 | none => ([], false)
 | some ws => ((acc ++ ws).map ofL, true)
/-- The run of an atom, from its begin. -/
theorem impl_SplitWords_run (l : Str) (acc : List Str) (hl : l.length ≤ 1048576) (ha : acc.length ≤ 1048576) (p : Str) (v : List ByteArray × Bool) : ∀ (r a : Str), l = p ++ (a ++ r) → a.all atB = true →
  (a ++ r.takeWhile atB = [] → v = ([], false)) →
  (a ++ r.takeWhile atB ≠ [] → Ev (fun k => impl_SplitWords.l0 k (ofL l) ((acc ++ [a ++ r.takeWhile atB]).map ofL) (((p ++ (a ++ r.takeWhile atB)).length : Nat) : Int) false) v) →
  Ev (fun k => impl_SplitWords.l1 k (ofL l) (acc.map ofL) (p.length : Int) (((p ++ a).length : Nat) : Int)) v := by
 intro r
 induction r with
 | nil =>
  intro a h h2 h3 h4
  have hz : l.length = p.length + a.length := by rw [h]; simp
  have hpa : (p ++ a).length = p.length + a.length := by simp
  simp only [List.takeWhile_nil, List.append_nil] at h3 h4
  refine vc ?_
  simp only [impl_SplitWords.l1, size_ofL, List.length_map]
  refine vn (by omega) ?_
  by_cases e : a = []
  ·
   rw [h3 e]; subst e; exact vp (by simp) (vs _)
  ·
   have hne : 0 < a.length := List.length_pos_iff.mpr e
   have ex : (ofL l).extract (p.length : Int).toNat (((p ++ a).length : Nat) : Int).toNat = ofL a := by
    rw [Int.toNat_natCast, Int.toNat_natCast, extract_ofL, drop_mid h, hpa, List.append_nil]
    rw [List.take_of_length_le (by omega)]
   rw [ex]
   have := h4 e
   rw [List.map_append, List.map_singleton] at this
   exact vn (by omega) (vp (by omega) (vp (by omega) (vp (by omega) (vp (by omega) this))))
 | cons c r ih =>
  intro a h h2 h3 h4
  have hz : l.length = p.length + (a.length + (r.length + 1)) := by rw [h]; simp
  have hpa : (p ++ a).length = p.length + a.length := by simp
  have e1 : bt (ofL l) (((p ++ a).length : Nat) : Int) = (c.toNat : Int) := bt_ofL_mid (l := l) (p := p ++ a) (c := c) (r := r) (by rw [h]; simp)
  have w1 : wrap64 ((((p ++ a).length : Nat) : Int) + 1) = ((p ++ (a ++ [c])).length : Int) := (wrap_id (by omega) (by omega)).trans (by simp only [List.length_append, List.length_cons, List.length_nil]; omega)
  refine vc ?_
  simp only [impl_SplitWords.l1, size_ofL, List.length_map, e1, w1]
  clear e1 w1
  refine vp (by omega) (vp (by omega) (ev_bind0 (impl_isAtomByte_eq c) ?_))
  cases e : atB c with
  | true =>
   refine vp rfl ?_
   have ec : a ++ (c :: r).takeWhile atB = a ++ [c] ++ r.takeWhile atB := by simp [List.takeWhile, e]
   refine ih (a ++ [c]) (by rw [h]; simp) (by simp [h2, e]) (fun hh => h3 (by rw [ec]; exact hh)) (fun hh => ?_)
   have := h4 (by rw [ec]; exact hh)
   rwa [ec] at this
  | false =>
   have et : (c :: r).takeWhile atB = [] := by simp [List.takeWhile, e]
   rw [et, List.append_nil] at h3 h4
   refine vn (by simp) ?_
   by_cases e : a = []
   ·
    rw [h3 e]; subst e; exact vp (by simp) (vs _)
   ·
    have hne : 0 < a.length := List.length_pos_iff.mpr e
    have ex : (ofL l).extract (p.length : Int).toNat (((p ++ a).length : Nat) : Int).toNat = ofL a := by
     rw [Int.toNat_natCast, Int.toNat_natCast, extract_ofL, drop_mid h, hpa, show p.length + a.length - p.length = a.length by omega, List.take_left]
    rw [ex]
    have := h4 e
    rw [List.map_append, List.map_singleton] at this
    exact vn (by omega) (vp (by omega) (vp (by omega) (vp (by omega) (vp (by omega) this))))
theorem split_while (p : UInt8 → Bool) (l : Str) : l.takeWhile p ++ l.dropWhile p = l := List.takeWhile_append_dropWhile
theorem impl_SplitWords_loop (l : Str) (hl : l.length ≤ 1048576) : ∀ (n : Nat) (r p : Str) (acc : List Str) (a : Bool), r.length < n → l = p ++ r → acc.length ≤ p.length → Ev (fun k => impl_SplitWords.l0 k (ofL l) (acc.map ofL) (p.length : Int) a) (wres acc (wds n a r)) := by
 intro n
 induction n with
 | zero => intro r p acc a h; omega
 | succ n ih =>
  intro r p acc a h h2 h3
  refine vc ?_
  cases r with
  | nil =>
   rw [List.append_nil] at h2
   subst h2
   simp only [impl_SplitWords.l0, size_ofL]
   exact vn (by omega) (vq (vs _) (by simp [wds, wres]))
  | cons c r =>
   simp only [List.length_cons] at h
   have hz := len_mid h2
   have e1 := bt_ofL_mid h2
   have w1 : wrap64 ((p.length : Int) + 1) = (((p ++ [c]).length : Nat) : Int) := (wrap_id (by omega) (by omega)).trans (by simp)
   have h32 : (c.toNat : Int) = 32 ↔ c = 32 := u8_eq c 32 (by omega)
   have h34 : (c.toNat : Int) = 34 ↔ c = 34 := u8_eq c 34 (by omega)
   have ex : (ofL l).extract (p.length : Int).toNat l.length = ofL (c :: r) := by
    rw [Int.toNat_natCast, extract_ofL, drop_mid h2, List.take_of_length_le (by simp only [List.length_cons]; omega)]
   simp only [impl_SplitWords.l0, e1, w1, size_ofL, ex, List.length_map]
   clear e1 w1 ex
   rw [wds]
   refine vp (by omega) (vp (by omega) ?_)
   by_cases c1 : (c.toNat : Int) = 32
   ·
    rw [if_pos (h32.mp c1)]
    exact vp c1 (ih r (p ++ [c]) acc true (by omega) (by rw [h2]; simp) (by simp; omega))
   ·
    rw [if_neg (fun hh => c1 (h32.mpr hh))]
    refine vn c1 ?_
    cases a with
    | false => exact vn (by simp) (vq (vs _) rfl)
    | true =>
     refine vp rfl ?_
     rw [if_neg (by simp)]
     by_cases c2 : (c.toNat : Int) = 34
     ·
      rw [if_pos (h34.mp c2)]
      refine vp c2 (vp (by omega) (vb (impl_quoted_ev c r (by omega)) ?_))
      cases e : rdq r with
      | none => exact vn (by simp [qres]) (vq (vs _) rfl)
      | some q =>
       obtain ⟨w, t⟩ := q
       obtain ⟨m, h4, h5, _⟩ := rdq_suf 0 r.length r w t (Nat.le_refl _) e
       have hm : r.length = m.length + t.length := by rw [h4, List.length_append]
       have := ih t (p ++ c :: m) (acc ++ [w]) false (by omega) (by rw [h2, h4]; simp) (by simp; omega)
       have w2 : wrap64 ((p.length : Int) + ((r.length + 1 - t.length : Nat) : Int)) = ((p ++ c :: m).length : Int) := (wrap_id (by omega) (by omega)).trans (by simp only [List.length_append, List.length_cons]; omega)
       simp only [qres, List.nil_append, w2]
       rw [List.map_append, List.map_singleton] at this
       refine vp trivial (vp (by omega) (vq this ?_))
       cases wds n false t with
       | none => rfl
       | some ws => simp [wres]
     ·
      rw [if_neg (fun hh => c2 (h34.mpr hh))]
      refine vn c2 ?_
      have hsw := split_while atB (c :: r)
      refine impl_SplitWords_run l acc hl (by omega) p _ (c :: r) [] h2 rfl (fun hh => ?_) (fun hh => ?_) |> fun hq => by simpa using hq
      ·
       rw [List.nil_append] at hh; rw [if_pos hh]; rfl
      ·
       rw [List.nil_append] at hh ⊢
       rw [if_neg hh]
       have hne : 0 < ((c :: r).takeWhile atB).length := List.length_pos_iff.mpr hh
       have hlen : ((c :: r).takeWhile atB).length + ((c :: r).dropWhile atB).length = r.length + 1 := by
        have := congrArg List.length hsw
        rwa [List.length_append, List.length_cons] at this
       have := ih ((c :: r).dropWhile atB) (p ++ (c :: r).takeWhile atB) (acc ++ [(c :: r).takeWhile atB]) false (by omega) (by rw [List.append_assoc, hsw]; exact h2) (by simp only [List.length_append, List.length_cons, List.length_nil]; omega)
       refine vq this ?_
       cases wds n false ((c :: r).dropWhile atB) with
       | none => rfl
       | some ws => simp [wres]
theorem impl_SplitWords_ev (l : Str) (hl : l.length ≤ 1048576) (ht : tvalid l = true) : Ev (fun k => impl_SplitWords.f k (ofL l)) (wres [] (words l)) := by
 unfold impl_SplitWords.f
 refine vb (impl_TextValid_ev l (by omega)) (vp ht ?_)
 exact impl_SplitWords_loop l hl (l.length + 1) l [] [] true (by omega) rfl (by simp)
/-! The program's ParseKind. -/
def kres : Option (Str × Str × List (Str × Str)) → ByteArray × ByteArray × List S69 × Bool
 | none => (ofL [], ofL [], [], false)
 | some x => (ofL x.1, ofL x.2.1, x.2.2.map e76, true)
theorem strings_Trim_eq (l : Str) (hl : l.length ≤ 1048576) : strings_Trim.f (ofL l) ⟨#[32]⟩ = some (ofL (trim l)) := by
 unfold strings_Trim.f
 rw [if_pos rfl, if_pos (by rw [size_ofL]; omega)]
 rfl
def cres (s : Str) : Option (Str × Str) → ByteArray × ByteArray × Bool
 | none => (ofL s, ofL [], false)
 | some x => (ofL x.1, ofL x.2, true)
theorem strings_Cut_eq (b : UInt8) (l : Str) (hl : l.length ≤ 1048576) : strings_Cut.f (ofL l) ⟨#[b]⟩ = some (cres l (cutB b l)) := by
 unfold strings_Cut.f
 rw [if_pos (by rw [size_ofL]; omega)]
 have e : Lib.cut (ofL l).data.toList (⟨#[b]⟩ : ByteArray).data.toList = Lib.cut l [b] := rfl
 rw [e, cut_B]
 cases cutB b l with
 | none => rfl
 | some x => rfl
theorem cutB_len {b : UInt8} {s x t : Str} (h : cutB b s = some (x, t)) : s.length = x.length + t.length + 1 := by
 rw [cutB_eq b s x t h]; simp; omega
theorem tvalid_sub {s t : Str} (h : tvalid s = true) (hl : t.length ≤ s.length) (hm : ∀ c ∈ t, c ∈ s) : tvalid t = true := by
 unfold tvalid at *
 simp only [Bool.and_eq_true, List.all_eq_true, decide_eq_true_iff] at *
 exact ⟨fun c hc => h.1 c (hm c hc), by omega⟩
theorem wds_len : ∀ (n : Nat) (a : Bool) (s : Str) (ws : List Str), wds n a s = some ws → ∀ w ∈ ws, w.length ≤ s.length := by
 intro n
 induction n with
 | zero => intro a s ws h; cases h
 | succ n ih =>
  intro a s ws h
  cases s with
  | nil => simp only [wds, Option.some.injEq] at h; subst h; simp
  | cons c r =>
   rw [wds] at h
   split at h
   ·
    intro w hw; have := ih _ _ _ h w hw; simp only [List.length_cons]; omega
   ·
    split at h
    ·
     cases h
    ·
     split at h
     ·
      cases e : rdq r with
      | none => rw [e] at h; cases h
      | some q =>
       obtain ⟨w1, t⟩ := q
       obtain ⟨m, h4, h5, _⟩ := rdq_suf 0 r.length r w1 t (Nat.le_refl _) e
       have hm : r.length = m.length + t.length := by rw [h4, List.length_append]
       rw [e] at h
       simp only [Option.map_eq_some_iff] at h
       obtain ⟨v, e1, rfl⟩ := h
       intro w hw
       simp only [List.length_cons]
       rcases List.mem_cons.mp hw with rfl | hw
       ·
        omega
       ·
        have := ih _ _ _ e1 w hw; omega
     ·
      split at h
      ·
       cases h
      ·
       simp only [Option.map_eq_some_iff] at h
       obtain ⟨v, e1, rfl⟩ := h
       have hlen := congrArg List.length (split_while atB (c :: r))
       rw [List.length_append] at hlen
       intro w hw
       rcases List.mem_cons.mp hw with rfl | hw
       ·
        omega
       ·
        have := ih _ _ _ e1 w hw; omega
theorem words_len {s : Str} {ws : List Str} (h : words s = some ws) : ∀ w ∈ ws, w.length ≤ s.length := wds_len _ _ _ _ h
/-- What is lacking: the kind is read out of the head and the parameters that are read. -/
def fin1 (ok : Bool) (m u : Str) (ps : List (Str × Str)) : Option (Str × Str × List (Str × Str)) := if ok = true ∧ kvalid m u ps = true then some (m, u, ps) else none
def fins (ok : Bool) (m u : Str) (q : List (Str × Str)) : Option (List (Str × Str)) → Option (Str × Str × List (Str × Str))
 | none => none
 | some ps => fin1 ok m u (q ++ ps)
theorem fins_cons (ok : Bool) (m u : Str) (q : List (Str × Str)) (x : Str × Str) (o : Option (List (Str × Str))) : fins ok m u q (o.map (x :: ·)) = fins ok m u (q ++ [x]) o := by
 cases o with
 | none => rfl
 | some ps => simp [fins]
theorem impl_ParseKind_end (ok : Bool) (m u : Str) (ps : List (Str × Str)) (hm : m.length ≤ 1048576) (hu : u.length ≤ 1048576) (hz : szp ps ≤ 1048576) (hn : ps.length ≤ 1048576) :
  Ev (fun k => if ok = true then ((impl_KindValid.f k (ofL m) (ofL u) (ps.map e76)).bind fun t => (if t = true then (some (ofL m, ofL u, ps.map e76, true)) else (some ((⟨#[]⟩ : ByteArray), (⟨#[]⟩ : ByteArray), ([] : List S69), false)))) else (some ((⟨#[]⟩ : ByteArray), (⟨#[]⟩ : ByteArray), ([] : List S69), false))) (kres (fin1 ok m u ps)) := by
 cases ok with
 | false => exact vn (by simp) (vq (vs _) (by unfold fin1; rw [if_neg (by simp)]; rfl))
 | true =>
  refine vp rfl (vb (impl_KindValid_ev m u ps hm hu hz hn) ?_)
  cases e : kvalid m u ps with
  | true => exact vp rfl (vq (vs _) (by unfold fin1; rw [if_pos ⟨rfl, e⟩]; rfl))
  | false => exact vn (by simp) (vq (vs _) (by unfold fin1; rw [if_neg (by simp [e])]; rfl))
theorem impl_ParseKind_loop (ok : Bool) (xs : List Str) (m u : Str) (hx : xs.length ≤ 1000) (ht : ∀ x ∈ xs, tvalid x = true) (hm : m.length ≤ 1048576) (hu : u.length ≤ 1048576) : ∀ (r p : List Str) (q : List (Str × Str)), xs = p ++ r → q.length ≤ p.length → szp q ≤ 400 * q.length →
  Ev (fun k => impl_ParseKind.l0 k ok (xs.map ofL) (xs.length : Int) (p.length : Int) (ofL m) (ofL u) (q.map e76)) (kres (fins ok m u q (pars r))) := by
 intro r
 induction r with
 | nil =>
  intro p q h hq hz
  rw [List.append_nil] at h
  subst h
  refine vc ?_
  simp only [impl_ParseKind.l0]
  refine vn (by omega) ?_
  have := impl_ParseKind_end ok m u q hm hu (by omega) (by omega)
  simpa [pars, fins] using this
 | cons c r ih =>
  intro p q h hq hz
  have hz2 := len_mid h
  have e1 := rdOf_ofL h
  have htc := ht c (by rw [h]; simp)
  have hcl := tvalid_len htc
  have w1 : wrap64 ((p.length : Int) + 1) = ((p ++ [c]).length : Int) := (wrap_id (by omega) (by omega)).trans (by simp)
  have hcut := strings_Cut_eq 61 c (by omega)
  refine vc ?_
  simp only [impl_ParseKind.l0, e1, hcut, List.length_map, Option.bind_some]
  clear e1 hcut
  have hbad : ∀ (x11 : ByteArray) (x14 : List ByteArray), Ev (fun k => impl_ParseKind.j1 k ok x11 x14 (xs.map ofL) (xs.length : Int) (p.length : Int) true (ofL m) (ofL u) (q.map e76)) (kres none) := by
   intro x11 x14
   refine vc ?_
   simp only [impl_ParseKind.j1]
   exact vp trivial (vs _)
  refine vp (by omega) (vp (by omega) (vp (by omega) ?_))
  cases e : cutB 61 c with
  | none =>
   simp only [cres]
   refine vb (impl_SplitWords_ev [] (by simp) (by decide)) (vn (by simp) (vq (hbad _ _) ?_))
   rw [pars, par1, e]; rfl
  | some x =>
   obtain ⟨n, v⟩ := x
   have hlen := cutB_len e
   have hvs : tvalid v = true := tvalid_sub htc (by omega) (fun d hd => by rw [cutB_eq 61 c n v e]; simp [hd])
   simp only [cres]
   refine vb (impl_SplitWords_ev v (by omega) hvs) (vp trivial ?_)
   cases e2 : words v with
   | none =>
    refine vn (by simp [wres]) (vq (hbad _ _) ?_)
    rw [pars, par1, e]; simp only [e2]; rfl
   | some ws =>
    simp only [wres, List.nil_append]
    refine vp trivial ?_
    by_cases h1 : ws.length = 1
    ·
     obtain ⟨w, rfl⟩ := List.length_eq_one_iff.mp h1
     have hwl := words_len e2 w (by simp)
     have hnl := trim_len n
     have e3 : par1 c = some (low (trim n), w) := by rw [par1, e]; simp only [e2]
     have := ih (p ++ [c]) (q ++ [(low (trim n), w)]) (by rw [h]; simp) (by simp; omega) (by rw [szp_append]; simp only [szp, List.length_append, List.length_cons, List.length_nil, low_len]; omega)
     have ht := strings_Trim_eq n (by omega)
     have hl := impl_LowerText_eq (trim n) (by omega)
     refine vc ?_
     simp only [impl_ParseKind.j1, List.map_cons, List.map_nil, List.length_cons, List.length_nil, ht, hl, w1, Option.bind_some, List.length_map]
     clear w1 ht hl
     refine vn (by simp) (vp (by omega) (vp (by omega) ?_))
     rw [pars, e3]
     simp only
     rw [fins_cons]
     rw [List.map_append] at this
     exact this
    ·
     have e4 : ((((ws.map ofL).length : Nat) : Int) != 1) = true := by
      rw [List.length_map]; simp only [bne_iff_ne, ne_eq]; omega
     rw [e4]
     refine vq (hbad _ _) ?_
     have e3 : par1 c = none := by
      rw [par1, e]
      simp only [e2]
      match ws, h1 with
      | [], _ => rfl
      | [w], h1 => exact absurd rfl h1
      | _ :: _ :: _, _ => rfl
     rw [pars, e3]; rfl
theorem pk_fins (o : Option (Str × Str)) (ps : Option (List (Str × Str))) (s : Str) : pkO o ps = fins (cres s o).2.2 (match o with
  | none => low s
  | some x => low x.1) (match o with
  | none => []
  | some x => low x.2) [] ps := by
 cases o with
 | none => cases ps with
  | none => rfl
  | some p => simp [pkO, fins, fin1, cres]
 | some x => cases ps with
  | none => rfl
  | some p => simp [pkO, fins, fin1, cres]
theorem impl_ParseKind_ev (s : Str) (hs : s.length ≤ 1048576) : Ev (fun k => impl_ParseKind.f k (ofL s)) (kres (pk s)) := by
 unfold impl_ParseKind.f pk
 refine vb (impl_TextValid_ev s (by omega)) ?_
 cases et : tvalid s with
 | false => exact vn (by simp) (vq (vs _) rfl)
 | true =>
  refine vp rfl (vb (impl_splitOutside_ev s hs) ?_)
  rw [if_pos rfl]
  have hpl := parts_len 59 s 0
  have hpm := parts_mem 59 s 0
  have hsl := tvalid_len et
  generalize parts 59 0 s = xs at hpl hpm ⊢
  cases xs with
  | nil => simp at hpl
  | cons h0 r =>
   have hh := hpm h0 (by simp)
   have htl := trim_len h0
   have e0 : rdOf ByteArray.empty (ofL h0 :: r.map ofL) 0 = ofL h0 := rfl
   have et := strings_Trim_eq h0 (by omega)
   have ec := strings_Cut_eq 47 (trim h0) (by omega)
   have hr : r.length ≤ 1000 := by simp only [List.length_cons] at hpl; omega
   simp only [e0, et, ec, List.length_map, List.length_cons, Option.bind_some, List.drop_one, List.map_cons, List.tail_cons, List.headD_cons]
   rw [pk_fins _ _ (trim h0)]
   have htv : ∀ x ∈ r, tvalid x = true := fun x hx => by
    have := hpm x (by simp [hx])
    exact tvalid_sub (by assumption) this.1 this.2
   cases e : cutB 47 (trim h0) with
   | none =>
    simp only [cres]
    have l1 := impl_LowerText_eq (trim h0) (by omega)
    have l2 := impl_LowerText_eq [] (by simp)
    have := impl_ParseKind_loop false r (low (trim h0)) (low []) hr htv (by rw [low_len]; omega) (by simp [low]) r [] [] rfl (by simp) (by simp [szp])
    simp only [l1, l2, Option.bind_some]
    refine vp (by omega) (vp (by omega) ?_)
    simpa [low] using this
   | some x =>
    obtain ⟨a, b⟩ := x
    have hlen := cutB_len e
    simp only [cres]
    have l1 := impl_LowerText_eq a (by omega)
    have l2 := impl_LowerText_eq b (by omega)
    have := impl_ParseKind_loop true r (low a) (low b) hr htv (by rw [low_len]; omega) (by rw [low_len]; omega) r [] [] rfl (by simp) (by simp [szp])
    simp only [l1, l2, Option.bind_some]
    refine vp (by omega) (vp (by omega) ?_)
    simpa using this
/-! A valid kind is read back. -/
def hd1s (x : Str) (l : List Str) : List Str := x.foldr hd1 l
def Pass (b : UInt8) (x : Str) : Prop := ∀ t, parts b 0 (x ++ t) = hd1s x (parts b 0 t)
def seg (p : Str × Str) : Str := 32 :: (p.1 ++ [61] ++ qw p.2)
theorem kfl_all : ∀ (ps q : List (Str × Str)), kfl q ps = true → ∀ p ∈ ps, isSmall p.1 = true ∧ tvalid p.2 = true ∧ p.2.length ≤ 40 := by
 intro ps
 induction ps with
 | nil => intro q h p hp; cases hp
 | cons c r ih =>
  intro q h p hp
  rw [kfl] at h
  simp only [Bool.and_eq_true, decide_eq_true_iff] at h
  rcases List.mem_cons.mp hp with rfl | hp
  ·
   exact ⟨h.1.1.1, h.1.1.2.1, h.1.1.2.2⟩
  ·
   exact ih _ h.2 p hp
theorem kvalid_split {a b : Str} {ps : List (Str × Str)} (h : kvalid a b ps = true) : isSmall a = true ∧ isSmall b = true ∧ ps.length ≤ 4 ∧ kfl [] ps = true ∧ (ktext a b ps).length ≤ 150 := by
 unfold kvalid at h
 simp only [Bool.and_eq_true, decide_eq_true_iff] at h
 obtain ⟨⟨⟨⟨h1, h2⟩, h3⟩, h4⟩, h5⟩ := h
 exact ⟨h1, h2, by omega, h4, h5⟩
/-- What is read is valid. -/
theorem pk_valid {s a b : Str} {ps : List (Str × Str)} (h : pk s = some (a, b, ps)) : kvalid a b ps = true := by
 unfold pk at h
 split at h
 ·
  unfold pkO at h
  split at h
  ·
   split at h
   ·
    rename_i hk
    cases h; exact hk
   ·
    cases h
  ·
   cases h
 ·
  cases h
/-! The reference's ParseKind. -/
def sres (L : Nat) (acc : Str) : Option (Str × Str) → ByteArray × Int
 | none => (ofL [], -1)
 | some q => (ofL (acc ++ q.1), ((L - q.2.length : Nat) : Int))
def cres0 (s p : Str) : Option (Str × Str) → ByteArray × ByteArray × Bool
 | none => (ofL s, ofL [], false)
 | some x => (ofL (p ++ x.1), ofL x.2, true)
def trimR (l : Str) : Str := (l.reverse.dropWhile (· == 32)).reverse
theorem trimR_snoc (l : Str) (c : UInt8) : trimR (l ++ [c]) = if c = 32 then trimR l else l ++ [c] := by
 unfold trimR
 rw [List.reverse_append, List.reverse_singleton, List.singleton_append, List.dropWhile]
 by_cases h : c = 32
 ·
  simp [h]
 ·
  rw [show (c == 32) = false by simp [h]]; simp [h]
theorem spec_l2Trim_right : ∀ (n : Nat) (s : Str), s.length ≤ n → s.length ≤ 1048576 → Ev (fun k => spec_l2Trim.l1 k (ofL s)) (ofL (trimR s)) := by
 intro n
 induction n with
 | zero =>
  intro s h _
  have : s = [] := List.length_eq_zero_iff.mp (by omega)
  subst this
  refine vc ?_
  simp only [spec_l2Trim.l1, size_ofL]
  exact vn (by simp) (vq (vs _) rfl)
 | succ n ih =>
  intro s h hl
  rcases List.eq_nil_or_concat s with rfl | ⟨p, c, rfl⟩
  ·
   refine vc ?_
   simp only [spec_l2Trim.l1, size_ofL]
   exact vn (by simp) (vq (vs _) rfl)
  ·
   rw [List.concat_eq_append] at *
   simp only [List.length_append, List.length_cons, List.length_nil] at h hl
   have hz : (p ++ [c]).length = p.length + 1 := by simp
   have e1 := bt_ofL_mid (l := p ++ [c]) (p := p) (c := c) (r := []) rfl
   have w1 : wrap64 (((p ++ [c]).length : Int) - 1) = ((p.length : Nat) : Int) := (wrap_id (by omega) (by omega)).trans (by omega)
   have h32 : (c.toNat : Int) = 32 ↔ c = 32 := u8_eq c 32 (by omega)
   have x1 : ((p ++ [c]).drop 0).take (p.length - 0) = p := by rw [List.drop_zero, Nat.sub_zero, List.take_left]
   refine vc ?_
   simp only [spec_l2Trim.l1, size_ofL, w1, e1, Int.toNat_natCast, extract_ofL, x1]
   clear e1 w1 x1
   rw [trimR_snoc]
   refine vp (by omega) (vp (by omega) (vp (by omega) ?_))
   by_cases c1 : (c.toNat : Int) = 32
   ·
    rw [if_pos (h32.mp c1)]
    exact vp c1 (vp (by omega) (ih p (by omega) (by omega)))
   ·
    rw [if_neg (fun hh => c1 (h32.mpr hh))]
    exact vn c1 (vs _)
theorem trim_cons_ne (c : UInt8) (r : Str) (h : c ≠ 32) : trim (c :: r) = trimR (c :: r) := by
 unfold trim Lib.trimB Lib.trimLeftB Lib.trimRightB trimR
 obtain ⟨m, h1, h2⟩ := dropWhile_suf (· == 32) (c :: r).reverse
 have h3 := congrArg List.reverse h1
 rw [List.reverse_reverse, List.reverse_append] at h3
 cases e : ((c :: r).reverse.dropWhile (· == 32)).reverse with
 | nil =>
  rw [e, List.nil_append] at h3
  have : c ∈ m := by
   have : c ∈ m.reverse := by rw [← h3]; simp
   exact List.mem_reverse.mp this
  exact absurd (by simpa using h2 c this) h
 | cons d u =>
  rw [e] at h3
  injection h3 with h4 h5
  subst h4
  rw [List.dropWhile, show (c == 32) = false by simp [h]]
theorem spec_l2Trim_ev (s : Str) (hl : s.length ≤ 1048576) : Ev (fun k => spec_l2Trim.f k (ofL s)) (ofL (trim s)) := by
 unfold spec_l2Trim.f
 induction s with
 | nil =>
  refine vc ?_
  simp only [spec_l2Trim.l0, size_ofL]
  refine vn (by simp) (vc ?_)
  simp only [spec_l2Trim.j1]
  exact spec_l2Trim_right 0 [] (by simp) (by simp)
 | cons c r ih =>
  simp only [List.length_cons] at hl
  have hz : (c :: r).length = r.length + 1 := rfl
  have h32 : (c.toNat : Int) = 32 ↔ c = 32 := u8_eq c 32 (by omega)
  have x1 : ((c :: r).drop 1).take ((c :: r).length - 1) = r := by rw [List.drop_one, List.tail_cons, hz, List.take_of_length_le (by omega)]
  refine vc ?_
  simp only [spec_l2Trim.l0, size_ofL, bt_zero, extract_ofL, x1]
  clear x1
  refine vp (by omega) (vp (by omega) ?_)
  by_cases c1 : (c.toNat : Int) = 32
  ·
   rw [h32.mp c1, trim_cons]
   exact vp (by decide) (vp (by simp; omega) (ih (by omega)))
  ·
   rw [trim_cons_ne c r (fun hh => c1 (h32.mpr hh))]
   refine vn c1 (vc ?_)
   simp only [spec_l2Trim.j1]
   exact spec_l2Trim_right (r.length + 1) (c :: r) (by simp) (by simp; omega)
/-! The reference's ParseKind answers as the program's. -/
/-- The reference's parameter. -/
def parS (s : Str) : Option (Str × Str) := match cut0 61 0 (trim s) with
 | none => none
 | some x => match words x.2 with
  | some [w] => some (low (trim x.1), w)
  | _ => none
def Bad (o : Option (Str × Str)) : Prop := ∀ x, o = some x → 34 ∈ x.1
def parsS : List Str → Option (List (Str × Str))
 | [] => some []
 | s :: r => match parS s with
  | none => none
  | some x => (parsS r).map (x :: ·)
def Bads (o : Option (List (Str × Str))) : Prop := ∀ l, o = some l → ∃ x ∈ l, (34 : UInt8) ∈ x.1
/-- The reference's kind. -/
def pkS (s : Str) : Option (Str × Str × List (Str × Str)) := if tvalid s = true then pkO (cut0 47 0 (trim ((parts 59 0 s).headD []))) (parsS ((parts 59 0 s).drop 1)) else none
/-- What is still to be read: nothing, or a rest. -/
def rest (more : Bool) (s : Str) : List Str := if more = true then parts 59 0 s else []
theorem slices_Index_ev (ls : List Str) (x : Str) (hn : ls.length ≤ 1000000000000000) : ∃ i : Int, Ev (fun k => slices_Index_string_string.f k (ls.map ofL) (ofL x)) i ∧ (i = -1 ∨ 0 ≤ i) ∧ (0 ≤ i ↔ x ∈ ls) := by
 unfold slices_Index_string_string.f
 rw [List.length_map]
 refine ⟨_, run_start (xs := ls) (F := fun k (_ : Nat) i => slices_Index_string_string.l0 k (ls.map ofL) (ofL x) (ls.length : Int) i) (st := fun n c => if x = c then .inl (n : Int) else .inr (n + 1)) (fin := fun _ => (-1 : Int)) (s := 0) (fun p n => n = p.length) rfl ?_ ?_, ?_, ?_⟩
 ·
  intro p c r n h hn
  subst hn
  have hz := len_mid h
  have e1 := rdOf_ofL h
  have w1 : wrap64 ((p.length : Int) + 1) = (p.length : Int) + 1 := wrap_id (by omega) (by omega)
  simp only [slices_Index_string_string.l0, e1, w1, List.length_map, toList_ofL]
  clear w1 e1
  by_cases e : x = c
  ·
   simp only [if_pos e]
   refine ⟨(fun v hv => ?_), fun s' hs => by cases hs⟩
   cases hv
   exact vp (by omega) (vp (by omega) (vp (by omega) (vs _)))
  ·
   simp only [if_neg e]
   refine ⟨(fun v hv => by cases hv), fun s' hs => ⟨?_, fun v hv => ?_⟩⟩
   ·
    cases hs; simp
   ·
    exact vp (by omega) (vp (by omega) (vp (by omega) hv))
 ·
  intro s _
  simp only [slices_Index_string_string.l0]
  exact vn (by omega) (vs _)
 ·
  have key : ∀ (r : List Str) (n : Nat), run (fun (n : Nat) c => if x = c then .inl (n : Int) else .inr (n + 1)) (fun _ => (-1 : Int)) r n = -1 ∨ 0 ≤ run (fun (n : Nat) c => if x = c then .inl (n : Int) else .inr (n + 1)) (fun _ => (-1 : Int)) r n := by
   intro r
   induction r with
   | nil => intro n; exact Or.inl rfl
   | cons c r ih =>
    intro n
    unfold run
    by_cases e : x = c
    ·
     simp only [if_pos e]; exact Or.inr (by omega)
    ·
     simp only [if_neg e]; exact ih (n + 1)
  exact key ls 0
 ·
  have key : ∀ (r : List Str) (n : Nat), 0 ≤ run (fun (n : Nat) c => if x = c then .inl (n : Int) else .inr (n + 1)) (fun _ => (-1 : Int)) r n ↔ x ∈ r := by
   intro r
   induction r with
   | nil => intro n; simp [run]
   | cons c r ih =>
    intro n
    unfold run
    by_cases e : x = c
    ·
     simp only [if_pos e]; simp [e]
    ·
     simp only [if_neg e]; rw [ih]; simp [e]
  exact key ls 0
theorem slices_Contains_ev (ls : List Str) (x : Str) (hn : ls.length ≤ 1000000000000000) : Ev (fun k => slices_Contains_string_string.f k (ls.map ofL) (ofL x)) (decide (x ∈ ls)) := by
 obtain ⟨i, hi, h1, h2⟩ := slices_Index_ev ls x hn
 unfold slices_Contains_string_string.f
 refine vb hi (vq (vs _) ?_)
 by_cases h : x ∈ ls
 ·
  rw [decide_eq_true h]; exact decide_eq_true (h2.mpr h)
 ·
  rw [decide_eq_false h]; exact decide_eq_false (fun hh => h (h2.mp hh))
/-! Lines that divide: the model. -/
def dash (b : Str) : Str := [45, 45] ++ b
def fin2 (b : Str) : Str := [45, 45] ++ b ++ [45, 45]
def dv (ls : List Str) (b : Str) : Bool := decide (dash b ∈ ls) || decide (fin2 b ∈ ls)
def lk (l b : Str) : Bool := decide (l = dash b) || decide (l = fin2 b)
theorem dash_ofL (b : Str) : (⟨#[45, 45]⟩ : ByteArray) ++ ofL b = ofL (dash b) := by rw [mk_ofL, lit_list, ofL_append]; rfl
theorem fin_ofL (b : Str) : ofL (dash b) ++ (⟨#[45, 45]⟩ : ByteArray) = ofL (fin2 b) := by rw [mk_ofL, lit_list, ofL_append]; rfl
theorem dash_len (b : Str) : (dash b).length = b.length + 2 := by unfold dash; simp
theorem fin_len (b : Str) : (fin2 b).length = b.length + 4 := by unfold fin2; simp
theorem impl_divides_ev (ls : List Str) (b : Str) (hb : b.length ≤ 1000000000000000) (hn : ls.length ≤ 1000000000000000) : Ev (fun k => impl_divides.f k (ls.map ofL) (ofL b)) (dv ls b) := by
 unfold impl_divides.f dv
 have hd := dash_len b
 simp only [dash_ofL, fin_ofL, size_ofL]
 refine vp (by omega) (vb (slices_Contains_ev ls (dash b) hn) ?_)
 cases e : decide (dash b ∈ ls) with
 | true => exact vp rfl (vs _)
 | false => exact vn (by simp) (vp (by omega) (vb (slices_Contains_ev ls (fin2 b) hn) (vs _)))
/-! Parts joined: the model. -/
def jb (b : Str) : List (List Str) → List Str
 | [] => []
 | c :: r => dash b :: (c ++ jb b r)
def jR (b : Str) (ps : List (List Str)) : Option (List Str) := if isBd b = true ∧ ps ≠ [] ∧ ps.any (fun c => dv c b) = false then some (jb b ps ++ [fin2 b]) else none
def jres (o : Option (List Str)) : List ByteArray × Bool := match o with
 | none => ([], false)
 | some l => (l.map ofL, true)
theorem jb_len (b : Str) (ps : List (List Str)) : (jb b ps).length = tl ps := by
 induction ps with
 | nil => rfl
 | cons c r ih => simp only [jb, tl, List.length_cons, List.length_append, ih]; omega
theorem jb_append (b : Str) (a c : List (List Str)) : jb b (a ++ c) = jb b a ++ jb b c := by
 induction a with
 | nil => rfl
 | cons d a ih => simp [jb, ih]
theorem impl_JoinParts_1_ev (ls : List Str) (b : Str) (hb : b.length ≤ 1000000000000) (hn : ls.length ≤ 1000000000000) : Ev (fun k => impl_JoinParts_1.f k (ls.map ofL) (ofL b)) (dv ls b) := by
 unfold impl_JoinParts_1.f
 exact vb (impl_divides_ev ls b (by omega) (by omega)) (vs _)
theorem impl_ContainsParts_ev (ps : List (List Str)) (b : Str) (hb : b.length ≤ 1000000000000) (hn : tl ps ≤ 1000000000000) : Ev (fun k => slices_ContainsFunc_string_string_JoinParts_1.f k (ps.map (List.map ofL)) (ofL b)) (ps.any (fun c => dv c b)) := by
 unfold slices_ContainsFunc_string_string_JoinParts_1.f slices_IndexFunc_string_string_JoinParts_1.f
 have hl := tl_len ps
 have key : ∀ (r : List (List Str)) (n : Nat), decide (run (fun (n : Nat) c => if dv c b = true then .inl (n : Int) else .inr (n + 1)) (fun _ => (-1 : Int)) r n ≥ 0) = r.any (fun c => dv c b) := by
  intro r
  induction r with
  | nil => intro n; rfl
  | cons c r ih =>
   intro n
   unfold run
   cases e : dv c b with
   | true => simp [e]
   | false => simp only [Bool.false_eq_true, if_false, ih, List.any_cons, e, Bool.false_or]
 rw [List.length_map]
 refine vb (run_start (xs := ps) (F := fun k (_ : Nat) i => slices_IndexFunc_string_string_JoinParts_1.l0 k (ps.map (List.map ofL)) (ps.length : Int) i (ofL b)) (st := fun n c => if dv c b = true then .inl (n : Int) else .inr (n + 1)) (fin := fun _ => (-1 : Int)) (s := 0) (fun p n => n = p.length) rfl ?_ ?_) (vq (vs _) (key ps 0))
 ·
  intro p c r n h hn'
  subst hn'
  have hz := len_mid h
  have hc : c.length ≤ tl ps := tl_mem (by rw [h]; simp)
  have e1 := rdLL_mid h
  have w1 : wrap64 ((p.length : Int) + 1) = (p.length : Int) + 1 := wrap_id (by omega) (by omega)
  simp only [slices_IndexFunc_string_string_JoinParts_1.l0, e1, w1, List.length_map]
  clear w1 e1
  have hd := impl_JoinParts_1_ev c b hb (by omega)
  cases e : dv c b with
  | true =>
   simp only [if_true]
   rw [e] at hd
   refine ⟨(fun v hv => ?_), fun s' hs => by cases hs⟩
   cases hv
   exact vp (by omega) (vp (by omega) (vp (by omega) (vb hd (vp rfl (vs _)))))
  | false =>
   rw [e] at hd
   refine ⟨(fun v hv => by cases hv), fun s' hs => ⟨?_, fun v hv => ?_⟩⟩
   ·
    cases hs; simp
   ·
    exact vp (by omega) (vp (by omega) (vp (by omega) (vb hd (vn (by simp) hv))))
 ·
  intro s _
  simp only [slices_IndexFunc_string_string_JoinParts_1.l0]
  exact vn (by omega) (vs _)
theorem impl_JoinParts_ev (ps : List (List Str)) (b : Str) (hb : b.length ≤ 1000000000000) (hn : tl ps ≤ 1000000000000) : Ev (fun k => impl_JoinParts.f k (ps.map (List.map ofL)) (ofL b)) (jres (jR b ps)) := by
 have hl := tl_len ps
 have hd := dash_len b
 have hbad : ∀ ps : List (List Str), Ev (fun k => impl_JoinParts.j0 k (ps.map (List.map ofL)) true (ofL b)) (jres none) := by
  intro ps
  refine vc ?_
  simp only [impl_JoinParts.j0]
  exact vp trivial (vs _)
 unfold impl_JoinParts.f
 refine vb (impl_isBoundary_ev b (by omega)) ?_
 unfold jR
 cases e1 : isBd b with
 | false =>
  rw [if_neg (by simp)]
  exact vn (by simp) (hbad ps)
 | true =>
  refine vp rfl ?_
  rw [List.length_map]
  by_cases e2 : ps = []
  ·
   rw [if_neg (by simp [e2])]
   exact vp (by simp [e2]) (hbad ps)
  ·
   have h2 : ps.length ≠ 0 := by rw [ne_eq, List.length_eq_zero_iff]; exact e2
   refine vn (by omega) (vb (impl_ContainsParts_ev ps b hb hn) ?_)
   cases e3 : ps.any (fun c => dv c b) with
   | true =>
    rw [if_neg (by simp)]
    exact hbad ps
   | false =>
    rw [if_pos ⟨rfl, e2, rfl⟩]
    refine vc ?_
    simp only [impl_JoinParts.j0, Bool.false_eq_true, if_false, List.length_map]
    refine vq (run_start (xs := ps) (F := fun k (out : List Str) i => impl_JoinParts.l0 k (out.map ofL) (ps.map (List.map ofL)) (ps.length : Int) i (ofL b)) (st := fun out c => .inr (out ++ (dash b :: c))) (fin := fun out => jres (some (out ++ [fin2 b]))) (s := []) (fun p out => out = jb b p) rfl ?_ ?_) ?_
    ·
     intro p c r out h ho
     have hz := len_mid h
     have e1 := rdLL_mid h
     have hlen : out.length = tl p := by rw [ho, jb_len]
     have htl : tl ps = tl p + (c.length + 1 + tl r) := by rw [h, tl_append]; rfl
     have w1 : wrap64 ((p.length : Int) + 1) = (p.length : Int) + 1 := wrap_id (by omega) (by omega)
     simp only [impl_JoinParts.l0, e1, w1, List.length_map, dash_ofL, size_ofL, Option.bind_some, List.length_append, List.length_cons, List.length_nil]
     clear w1 e1
     refine ⟨(fun v hv => by cases hv), fun s' hs => ⟨?_, fun v hv => ?_⟩⟩
     ·
      cases hs; rw [ho, jb_append]; simp [jb]
     ·
      cases hs
      refine vp (by omega) (vp (by omega) (vp (by omega) (vp (by omega) (vp (by omega) (vp (by omega) ?_)))))
      have e5 : out.map ofL ++ [ofL (dash b)] ++ c.map ofL = (out ++ (dash b :: c)).map ofL := by simp
      rw [e5]
      exact hv
    ·
     intro out ho
     have hlen : out.length = tl ps := by rw [ho, jb_len]
     have hd4 := fin_len b
     simp only [impl_JoinParts.l0, dash_ofL, fin_ofL, size_ofL, List.length_map]
     refine vn (by omega) (vp (by omega) (vp (by omega) (vp (by omega) (vq (vs _) ?_))))
     simp [jres]
    ·
     have key : ∀ (r : List (List Str)) (out : List Str), run (fun out c => .inr (out ++ (dash b :: c))) (fun out => jres (some (out ++ [fin2 b]))) r out = jres (some (out ++ jb b r ++ [fin2 b])) := by
      intro r
      induction r with
      | nil => intro out; simp [run, jb]
      | cons c r ih => intro out; unfold run; simp only; rw [ih]; simp [jb]
     exact key ps []
/-! Fields folded to lines. -/
def okp (l : Str) (i : Nat) : Bool := decide (bt (ofL l) (i : Int) = 32) && (!decide (bt (ofL l) ((i : Int) - 1) = 32) && !decide (bt (ofL l) ((i : Int) + 1) = 32))
def pickB (l : Str) (i : Nat) (b : Int) : Int := if okp l i = true ∧ (b < 0 ∨ i ≤ 40) then (i : Int) else b
def brk (l : Str) : Nat → Nat → Int → Int
 | 0, _, b => b
 | n + 1, i, b => brk l n (i + 1) (pickB l i b)
def brk1 (l : Str) (i : Nat) : Int := brk l (l.length - 1 - i) i (-1)
theorem brk_range (l : Str) : ∀ (n i : Nat) (b : Int), brk l n i b = b ∨ ((i : Int) ≤ brk l n i b ∧ brk l n i b < i + n)
 | 0, _, _ => .inl rfl
 | n + 1, i, b => by
  rw [brk]
  rcases brk_range l n (i + 1) (pickB l i b) with h | h
  ·
   rw [h]
   unfold pickB
   by_cases c : okp l i = true ∧ (b < 0 ∨ i ≤ 40)
   ·
    rw [if_pos c]; exact .inr ⟨by omega, by omega⟩
   ·
    rw [if_neg c]; exact .inl rfl
  ·
   exact .inr ⟨by omega, by omega⟩
theorem brk1_range (l : Str) (i : Nat) : brk1 l i < 0 ∨ ((i : Int) ≤ brk1 l i ∧ brk1 l i < l.length) := by
 unfold brk1
 rcases brk_range l (l.length - 1 - i) i (-1) with h | h
 ·
  exact .inl (by omega)
 ·
  exact .inr ⟨h.1, by omega⟩
def fl : Nat → Str → Nat → List Str
 | 0, l, _ => [l]
 | n + 1, l, i => if l.length > 40 then (if brk1 l i < 0 then [l] else l.take (brk1 l i).toNat :: fl n (l.drop (brk1 l i).toNat) 2) else [l]
theorem fl_len : ∀ (n : Nat) (l : Str) (i : Nat), 1 ≤ i → (fl n l i).length ≤ l.length + 1
 | 0, l, i, _ => by simp [fl]
 | n + 1, l, i, hi => by
  rw [fl]
  by_cases c : l.length > 40
  ·
   rw [if_pos c]
   by_cases d : brk1 l i < 0
   ·
    rw [if_pos d]; simp
   ·
    rw [if_neg d]
    have := brk1_range l i
    have h2 := fl_len n (l.drop (brk1 l i).toNat) 2 (by omega)
    rw [List.length_drop] at h2
    rw [List.length_cons]
    omega
  ·
   rw [if_neg c]; simp
/-- The lines of a field. -/
def fldL (f : Str × Str) : Str := (f.1 ++ [58]) ++ (if f.2 = [] then [] else 32 :: f.2)
def ffold (f : Str × Str) : List Str := fl (fldL f).length (fldL f) (f.1.length + 3)
theorem acc_snoc (acc : List Str) (l : Str) : acc.map ofL ++ [ofL l] = (acc ++ [l]).map ofL := by rw [List.map_append]; rfl
theorem impl_fold_l1 (l : Str) (acc : List Str) (hl : l.length ≤ 1048576) (V : List ByteArray) : ∀ (n i : Nat) (b : Int), n = l.length - 1 - i → 1 ≤ i → i ≤ 1048579 →
  Ev (fun k => if brk l n i b < 0 then (if (acc.map ofL).length < 8796093022208 then (some ((acc.map ofL) ++ [ofL l])) else (none)) else (if 0 ≤ brk l n i b then (if brk l n i b ≤ ((ofL l).size : Int) then (if (acc.map ofL).length < 8796093022208 then (impl_foldField.l0 k ((ofL l).extract (brk l n i b : Int).toNat (ofL l).size) 2 ((acc.map ofL) ++ [(ofL l).extract 0 (brk l n i b : Int).toNat])) else (none)) else (none)) else (none))) V →
  Ev (fun k => impl_foldField.l1 k (ofL l) (acc.map ofL) b (i : Int)) V := by
 intro n
 induction n with
 | zero =>
  intro i b hn hi hi2 hE
  have w1 : wrap64 ((i : Int) + 1) = (i : Int) + 1 := wrap_id (by omega) (by omega)
  refine vc ?_
  simp only [impl_foldField.l1, w1]
  clear w1
  rw [brk] at hE
  exact vn (by rw [size_ofL]; omega) hE
 | succ n ih =>
  intro i b hn hi hi2 hE
  have w1 : wrap64 ((i : Int) + 1) = (i : Int) + 1 := wrap_id (by omega) (by omega)
  have w2 : wrap64 ((i : Int) - 1) = (i : Int) - 1 := wrap_id (by omega) (by omega)
  have hs := size_ofL l
  rw [brk] at hE
  have go := ih (i + 1) (pickB l i b) (by omega) (by omega) (by omega) hE
  rw [show ((i + 1 : Nat) : Int) = (i : Int) + 1 by omega] at go
  clear hE ih
  refine vc ?_
  simp only [impl_foldField.l1, w1, w2]
  clear w1 w2
  refine vp (by omega) (vp (by omega) (vp (by omega) ?_))
  by_cases c1 : bt (ofL l) (i : Int) = 32
  ·
   refine vp c1 (vp (by omega) (vp (by omega) ?_))
   by_cases c2 : bt (ofL l) ((i : Int) - 1) = 32
   ·
    refine vp c2 ?_
    have e : pickB l i b = b := by unfold pickB okp; rw [if_neg (by simp [c2])]
    rw [e] at go
    exact go
   ·
    refine vn c2 (vp (by omega) ?_)
    by_cases c3 : bt (ofL l) ((i : Int) + 1) = 32
    ·
     refine vp c3 ?_
     have e : pickB l i b = b := by unfold pickB okp; rw [if_neg (by simp [c3])]
     rw [e] at go
     exact go
    ·
     refine vn c3 ?_
     by_cases c4 : b < 0
     ·
      refine vp c4 ?_
      have e : pickB l i b = (i : Int) := by unfold pickB okp; rw [if_pos (by simp [c1, c2, c3, c4])]
      rw [e] at go
      exact go
     ·
      refine vn c4 ?_
      by_cases c5 : (i : Int) ≤ 40
      ·
       refine vp c5 ?_
       have e : pickB l i b = (i : Int) := by unfold pickB okp; rw [if_pos (by simp [c1, c2, c3]; omega)]
       rw [e] at go
       exact go
      ·
       refine vn c5 ?_
       have e : pickB l i b = b := by unfold pickB; rw [if_neg (fun h => by have := h.2; omega)]
       rw [e] at go
       exact go
  ·
   refine vn c1 ?_
   have e : pickB l i b = b := by unfold pickB okp; rw [if_neg (by simp [c1])]
   rw [e] at go
   exact go
theorem impl_fold_l0 : ∀ (n : Nat) (l : Str) (i : Nat) (acc : List Str), l.length ≤ n → l.length ≤ 1048576 → 1 ≤ i → i ≤ 1048579 → acc.length + l.length ≤ 2000000 → Ev (fun k => impl_foldField.l0 k (ofL l) (i : Int) (acc.map ofL)) ((acc ++ fl n l i).map ofL) := by
 intro n
 induction n with
 | zero =>
  intro l i acc hn hl hi hi2 ha
  refine vc ?_
  simp only [impl_foldField.l0, size_ofL, List.length_map, fl]
  exact vn (by omega) (vp (by omega) (vq (vs _) (acc_snoc acc l)))
 | succ n ih =>
  intro l i acc hn hl hi hi2 ha
  refine vc ?_
  simp only [impl_foldField.l0, fl]
  by_cases c : l.length > 40
  ·
   refine vp (by rw [size_ofL]; omega) ?_
   rw [if_pos c]
   have hr := brk1_range l i
   refine impl_fold_l1 l acc hl _ (l.length - 1 - i) i (-1) rfl hi hi2 ?_
   rw [show brk l (l.length - 1 - i) i (-1) = brk1 l i from rfl]
   generalize brk1 l i = t at hr
   by_cases d : t < 0
   ·
    rw [if_pos d]
    exact vp d (vp (by rw [List.length_map]; omega) (vq (vs _) (acc_snoc acc l)))
   ·
    rw [if_neg d]
    obtain ⟨m, rfl⟩ := Int.eq_ofNat_of_zero_le (a := t) (by omega)
    have h2 := ih (l.drop m) 2 (acc ++ [l.take m]) (by rw [List.length_drop]; omega) (by rw [List.length_drop]; omega) (by omega) (by omega) (by rw [List.length_append, List.length_drop]; simp; omega)
    refine vn d (vp (by omega) (vp (by rw [size_ofL]; omega) (vp (by rw [List.length_map]; omega) ?_)))
    rw [← acc_snoc] at h2
    simp only [extract_ofL, size_ofL, Int.toNat_natCast, List.drop_zero, Nat.sub_zero] at h2 ⊢
    rw [List.take_of_length_le (l := l.drop m) (by rw [List.length_drop]; omega)]
    refine vq h2 ?_
    simp
  ·
   refine vn (by rw [size_ofL]; omega) ?_
   rw [if_neg c]
   exact vp (by rw [List.length_map]; omega) (vq (vs _) (acc_snoc acc l))
theorem colon_lit : (⟨#[58]⟩ : ByteArray) = ofL [58] := rfl
theorem space_lit : (⟨#[32]⟩ : ByteArray) = ofL [32] := rfl
theorem impl_foldField_ev (f : Str × Str) (h1 : f.1.length ≤ 1000) (h2 : f.2.length ≤ 1000) : Ev (fun k => impl_foldField.f k (ofL f.1) (ofL f.2)) ((ffold f).map ofL) := by
 obtain ⟨a, b⟩ := f
 simp only at h1 h2
 unfold impl_foldField.f ffold fldL
 have w : wrap64 ((a.length : Int) + 3) = ((a.length + 3 : Nat) : Int) := by rw [wrap_id (by omega) (by omega)]; omega
 simp only [colon_lit, space_lit, ofL_append, size_ofL, toList_ofL, w, List.length_append, List.length_cons, List.length_nil]
 clear w
 have key : ∀ l : Str, l.length ≤ 3000 → Ev (fun k => impl_foldField.j0 k (ofL l) ((a.length + 3 : Nat) : Int)) ((fl l.length l (a.length + 3)).map ofL) := by
  intro l hl
  refine vc ?_
  simp only [impl_foldField.j0]
  have := impl_fold_l0 l.length l (a.length + 3) [] (Nat.le_refl _) (by omega) (by omega) (by omega) (by simp; omega)
  exact this
 refine vp (by omega) ?_
 by_cases c : b = []
 ·
  subst c
  refine vp rfl ?_
  have := key (a ++ [58]) (by simp; omega)
  simpa using this
 ·
  refine vn c (vp (by omega) (vp (by omega) ?_))
  have := key ((a ++ [58]) ++ ([32] ++ b)) (by simp; omega)
  rw [if_neg c]
  simpa [Nat.add_assoc, Nat.add_comm, Nat.add_left_comm] using this
/-! Fields that are valid. -/
def fv (f : Str × Str) : Bool := isNm f.1 && (tvalid f.2 && (decide (f.2.length ≤ 150) && decide (trim f.2 = f.2)))
def fvs (fs : List (Str × Str)) : Bool := decide (fs.length ≤ 20) && fs.all fv
theorem fv_len {f : Str × Str} (h : fv f = true) : f.1.length ≤ 30 ∧ f.2.length ≤ 150 := by
 unfold fv at h
 simp only [Bool.and_eq_true, decide_eq_true_iff] at h
 exact ⟨isNm_len h.1, h.2.2.1⟩
theorem ffold_len {f : Str × Str} (h : fv f = true) : (ffold f).length ≤ 183 := by
 have := fv_len h
 have h2 := fl_len (fldL f).length (fldL f) (f.1.length + 3) (by omega)
 have h3 : (fldL f).length ≤ f.1.length + 2 + f.2.length := by
  unfold fldL
  by_cases c : f.2 = []
  ·
   rw [if_pos c]; simp; omega
  ·
   rw [if_neg c]; simp; omega
 unfold ffold
 omega
theorem impl_Trim_eq (l : Str) (hl : l.length ≤ 1000000000) : strings_Trim.f (ofL l) (⟨#[32]⟩ : ByteArray) = some (ofL (trim l)) := by
 unfold strings_Trim.f
 rw [if_pos rfl, if_pos (by rw [size_ofL]; omega)]
 rfl
theorem impl_FieldValid_ev (f : Str × Str) (h1 : f.1.length ≤ 1048576) (h2 : f.2.length ≤ 1048576) : Ev (fun k => impl_FieldValid.f k (ofL f.1) (ofL f.2)) (fv f) := by
 unfold impl_FieldValid.f fv
 refine vb (impl_isName_ev f.1 (by omega)) ?_
 cases isNm f.1 with
 | false => exact vn (by simp) (vs _)
 | true =>
  refine vp rfl (vb (impl_TextValid_ev f.2 (by omega)) ?_)
  cases tvalid f.2 with
  | false => exact vn (by simp) (vs _)
  | true =>
   refine vp rfl ?_
   rw [size_ofL]
   by_cases c : f.2.length ≤ 150
   ·
    refine vp (by omega) (ev_bind0 (impl_Trim_eq f.2 (by omega)) (vq (vs _) ?_))
    rw [toList_ofL, toList_ofL, beq_dec, decide_eq_true c]
    simp
   ·
    refine vn (by omega) (vq (vs _) ?_)
    rw [decide_eq_false c]
    simp
theorem spec_FieldValid_ev (f : Str × Str) (h1 : f.1.length ≤ 1048576) (h2 : f.2.length ≤ 1048576) : Ev (fun k => spec_FieldValid.f k (ofL f.1) (ofL f.2)) (fv f) := by
 unfold spec_FieldValid.f fv
 refine vb (spec_l3Name_ev f.1 (by omega)) ?_
 cases isNm f.1 with
 | false => exact vn (by simp) (vs _)
 | true =>
  refine vp rfl (vb (spec_TextValid_ev f.2 (by omega)) ?_)
  cases tvalid f.2 with
  | false => exact vn (by simp) (vs _)
  | true =>
   refine vp rfl ?_
   rw [size_ofL]
   by_cases c : f.2.length ≤ 150
   ·
    refine vp (by omega) (vb (spec_l2Trim_ev f.2 (by omega)) (vq (vs _) ?_))
    rw [toList_ofL, toList_ofL, beq_dec, decide_eq_true c]
    simp
   ·
    refine vn (by omega) (vq (vs _) ?_)
    rw [decide_eq_false c]
    simp
theorem impl_fieldsValid_loop (ls : List (Str × Str)) (hs : small ls) (hn : ls.length ≤ 1048576) (r : List (Str × Str)) : ∀ p, ls = p ++ r → ∃ v : Int, Ev (fun k => impl_Field_fieldsValid_1_254.l0 k (ls.map e76) (ls.length : Int) (p.length : Int)) v ∧ decide (v ≥ 0) = !(r.all fv) := by
 induction r with
 | nil =>
  intro p h
  have hz : ls.length = p.length := by rw [h, List.append_nil]
  refine ⟨-1, vc ?_, rfl⟩
  simp only [impl_Field_fieldsValid_1_254.l0]
  exact vn (by omega) (vs _)
 | cons c r ih =>
  intro p h
  have hz := len_mid h
  have e1 := rd76_mid h
  have hc := hs c (by rw [h]; simp)
  have w1 : wrap64 ((p.length : Int) + 1) = (p.length : Int) + 1 := wrap_id (by omega) (by omega)
  obtain ⟨v, hv, hv2⟩ := ih (p ++ [c]) (by rw [h]; simp)
  rw [len_snoc] at hv
  have h1 : Ev (fun k => impl_fieldsValid_1.f k (ofL c.1) (ofL c.2)) (!fv c) := vb (impl_FieldValid_ev c hc.1 hc.2) (vs _)
  cases e : fv c with
  | true =>
   rw [e] at h1
   refine ⟨v, vc ?_, by rw [hv2, List.all_cons, e]; rfl⟩
   simp only [impl_Field_fieldsValid_1_254.l0, e1, w1, List.length_map]
   clear w1
   exact vp (by omega) (vp (by omega) (vp (by omega) (vb h1 (vn (by simp) hv))))
  | false =>
   rw [e] at h1
   refine ⟨p.length, vc ?_, by rw [List.all_cons, e]; simp⟩
   simp only [impl_Field_fieldsValid_1_254.l0, e1, w1, List.length_map]
   clear w1
   exact vp (by omega) (vp (by omega) (vp (by omega) (vb h1 (vp (by simp) (vs _)))))
theorem impl_fieldsValid_ev (ls : List (Str × Str)) (hs : small ls) (hn : ls.length ≤ 1048576) : Ev (fun k => impl_fieldsValid.f k (ls.map e76)) (fvs ls) := by
 unfold impl_fieldsValid.f impl_Field_fieldsValid_1_253.f impl_Field_fieldsValid_1_254.f fvs
 rw [List.length_map]
 by_cases c : ls.length ≤ 20
 ·
  obtain ⟨v, hv, hv2⟩ := impl_fieldsValid_loop ls hs hn ls [] rfl
  refine vp (by omega) (vb (vb hv (vs _)) (vq (vs _) ?_))
  rw [hv2, decide_eq_true c]
  simp
 ·
  refine vn (by omega) (vq (vs _) ?_)
  rw [decide_eq_false c]; rfl
theorem impl_FoldFields_loop (ls : List (Str × Str)) (hv : ls.all fv = true) (hn : ls.length ≤ 20) (r : List (Str × Str)) : ∀ (p : List (Str × Str)) (acc : List Str), ls = p ++ r → acc.length ≤ 183 * p.length → Ev (fun k => impl_FoldFields.l0 k (acc.map ofL) (ls.map e76) (ls.length : Int) (p.length : Int)) ((acc ++ r.flatMap ffold).map ofL, true) := by
 induction r with
 | nil =>
  intro p acc h ha
  have hz : ls.length = p.length := by rw [h, List.append_nil]
  refine vc ?_
  simp only [impl_FoldFields.l0]
  exact vn (by omega) (vq (vs _) (by simp))
 | cons c r ih =>
  intro p acc h ha
  have hz := len_mid h
  have e1 := rd76_mid h
  have hc : fv c = true := List.all_eq_true.mp hv c (by rw [h]; simp)
  have hl := fv_len hc
  have hf := ffold_len hc
  have w1 : wrap64 ((p.length : Int) + 1) = (p.length : Int) + 1 := wrap_id (by omega) (by omega)
  have hv := ih (p ++ [c]) (acc ++ ffold c) (by rw [h]; simp) (by simp only [List.length_append, List.length_singleton]; omega)
  rw [len_snoc, List.map_append] at hv
  refine vc ?_
  simp only [impl_FoldFields.l0, List.length_map, e1, w1]
  clear w1
  exact vp (by omega) (vp (by omega) (vp (by omega) (vb (impl_foldField_ev c (by omega) (by omega)) (vp (by simp only [List.length_map]; omega) (vq hv (by simp))))))
def folds (ls : List (Str × Str)) : List Str := ls.flatMap ffold
theorem folds_len (ls : List (Str × Str)) (h : fvs ls = true) : (folds ls).length ≤ 3660 := by
 unfold fvs at h
 simp only [Bool.and_eq_true, decide_eq_true_iff] at h
 have key : ∀ r : List (Str × Str), r.all fv = true → (r.flatMap ffold).length ≤ 183 * r.length := by
  intro r
  induction r with
  | nil => intro _; simp
  | cons c r ih =>
   intro h
   rw [List.all_cons, Bool.and_eq_true] at h
   have := ih h.2
   have := ffold_len h.1
   rw [List.flatMap_cons, List.length_append, List.length_cons]
   omega
 have := key ls h.2
 unfold folds
 omega
theorem impl_FoldFields_ev (ls : List (Str × Str)) (hs : small ls) (hn : ls.length ≤ 1048576) : Ev (fun k => impl_FoldFields.f k (ls.map e76)) (if fvs ls = true then ((folds ls).map ofL, true) else ([], false)) := by
 unfold impl_FoldFields.f
 refine vb (impl_fieldsValid_ev ls hs hn) ?_
 cases e : fvs ls with
 | false => exact vn (by simp) (vs _)
 | true =>
  rw [List.length_map]
  unfold fvs at e
  simp only [Bool.and_eq_true, decide_eq_true_iff] at e
  exact vp rfl (impl_FoldFields_loop ls e.2 e.1 ls [] [] rfl (by simp))
/-! The boundary of a part. -/
def ctype : Str := [67, 111, 110, 116, 101, 110, 116, 45, 84, 121, 112, 101]
def bF (fs : List (Str × Str)) : Str × Bool := match pk (getF fs ctype).1 with
 | none => ([], false)
 | some x => bOf x.1 x.2.1 x.2.2
theorem ctype_lit : (⟨#[67, 111, 110, 116, 101, 110, 116, 45, 84, 121, 112, 101]⟩ : ByteArray) = ofL ctype := rfl
theorem bF_some {fs : List (Str × Str)} (h : (bF fs).2 = true) : isBd (bF fs).1 = true := by
 unfold bF at h ⊢
 cases e : pk (getF fs ctype).1 with
 | none => rw [e] at h; cases h
 | some x =>
  rw [e] at h
  simp only at h ⊢
  unfold bOf at h ⊢
  by_cases c : kvalid x.1 x.2.1 x.2.2 = true ∧ x.1 = multi ∧ isBd (getF x.2.2 bnd).1 = true
  ·
   rw [if_pos c]; exact c.2.2
  ·
   rw [if_neg c] at h; cases h
theorem isSmall_len {l : Str} (h : isSmall l = true) : l.length ≤ 30 := by
 unfold isSmall at h
 rw [Bool.and_eq_true] at h
 exact isNm_len h.1
theorem pk_small {s : Str} {x : Str × Str × List (Str × Str)} (h : pk s = some x) : x.1.length ≤ 1048576 ∧ x.2.1.length ≤ 1048576 ∧ szp x.2.2 ≤ 1048576 ∧ x.2.2.length ≤ 1048576 := by
 obtain ⟨a, b, ps⟩ := x
 have hv := pk_valid h
 have h1 := kvalid_split hv
 have h2 := kfl_all ps [] h1.2.2.2.1
 have key : ∀ q : List (Str × Str), (∀ p ∈ q, isSmall p.1 = true ∧ tvalid p.2 = true ∧ p.2.length ≤ 40) → szp q ≤ 70 * q.length := by
  intro q
  induction q with
  | nil => intro _; simp [szp]
  | cons c q ih =>
   intro h
   have h3 := h c (by simp)
   have h4 := ih fun p hp => h p (by simp [hp])
   have h5 := isSmall_len h3.1
   rw [szp, List.length_cons]
   omega
 have h3 := key ps h2
 have h4 := isSmall_len h1.1
 have h5 := isSmall_len h1.2.1
 refine ⟨?_, ?_, ?_, ?_⟩ <;> (simp only; omega)
theorem impl_Part_boundary_ev (fs : List (Str × Str)) (hs : small fs) (hn : fs.length ≤ 1048576) (bb : List ByteArray) (kk : List S28) : Ev (fun k => impl_Part_boundary.f k (fs.map e76) bb kk) (ofL (bF fs).1, (bF fs).2) := by
 unfold impl_Part_boundary.f bF
 rw [ctype_lit]
 refine vb (impl_GetField_ev fs ctype hs (by decide) hn) (vb (impl_ParseKind_ev _ (getF_small fs ctype hs)) ?_)
 cases e : pk (getF fs ctype).1 with
 | none => exact vn (by simp [kres]) (vs _)
 | some x =>
  have hx := pk_small e
  exact vp rfl (vb (impl_BoundaryOf_ev x.1 x.2.1 x.2.2 hx.1 hx.2.1 hx.2.2.1 hx.2.2.2) (vs _))
/-! The lines of a part. -/
def kl (g : Pt → Option (List Str)) : List Pt → Option (List (List Str))
 | [] => some []
 | p :: r => match g p with
  | none => none
  | some a => (kl g r).map (a :: ·)
def tbs (b : List Str) : Bool := decide (b.length ≤ 30) && b.all tvalid
def head (f : List (Str × Str)) : List Str := folds f ++ [[]]
def lines : Nat → Pt → Option (List Str)
 | 0, _ => none
 | d + 1, .mk f b k => if fvs f = true then (if (bF f).2 = true then (if b = [] ∧ 1 ≤ k.length ∧ k.length ≤ 4 then (match kl (lines d) k with
   | none => none
   | some ls => (jR (bF f).1 ls).map (head f ++ ·)) else none) else (if k = [] ∧ tbs b = true then some (head f ++ b) else none)) else none
theorem kl_len {g : Pt → Option (List Str)} {N : Nat} : ∀ {k : List Pt} {ls : List (List Str)}, kl g k = some ls → (∀ p ∈ k, ∀ a, g p = some a → a.length ≤ N) → ls.length = k.length ∧ tl ls ≤ (N + 1) * k.length
 | [], ls, h, _ => by
  rw [kl] at h
  cases h
  simp [tl]
 | p :: r, ls, h, hN => by
  rw [kl] at h
  cases e : g p with
  | none => rw [e] at h; cases h
  | some a =>
   rw [e] at h
   cases e2 : kl g r with
   | none => rw [e2] at h; cases h
   | some l =>
    rw [e2] at h
    cases h
    have h1 := kl_len e2 fun q hq => hN q (by simp [hq])
    have h2 := hN p (by simp) a e
    rw [List.length_cons, List.length_cons, tl, Nat.mul_succ]
    omega
def lN : Nat → Nat
 | 0 => 4000
 | d + 1 => 4 * lN d + 4000
theorem lN_le {d : Nat} (h : d ≤ 3) : lN d ≤ 500000 := by
 rcases d with _ | _ | _ | _ | d
 ·
  decide
 ·
  decide
 ·
  decide
 ·
  decide
 ·
  omega
theorem jR_len {b : Str} {ps : List (List Str)} {s : List Str} (h : jR b ps = some s) : s.length = tl ps + 1 := by
 unfold jR at h
 split at h
 ·
  cases h
  rw [List.length_append, jb_len]
  rfl
 ·
  cases h
theorem head_len {f : List (Str × Str)} (h : fvs f = true) : (head f).length ≤ 3661 := by
 have := folds_len f h
 unfold head
 rw [List.length_append, List.length_singleton]
 omega
theorem lines_len : ∀ (d : Nat) (p : Pt) (ls : List Str), lines d p = some ls → ls.length ≤ lN d
 | 0, p, ls, h => by rw [lines] at h; cases h
 | d + 1, .mk f b k, ls, h => by
  rw [lines] at h
  by_cases c : fvs f = true
  ·
   rw [if_pos c] at h
   have h1 := head_len c
   by_cases c1 : (bF f).2 = true
   ·
    rw [if_pos c1] at h
    by_cases c2 : b = [] ∧ 1 ≤ k.length ∧ k.length ≤ 4
    ·
     rw [if_pos c2] at h
     cases e : kl (lines d) k with
     | none => rw [e] at h; cases h
     | some l =>
      rw [e] at h
      simp only at h
      have h2 := kl_len e (N := lN d) fun p _ a h => lines_len d p a h
      cases e2 : jR (bF f).1 l with
      | none => rw [e2] at h; cases h
      | some s =>
       rw [e2] at h
       cases h
       have h3 := jR_len e2
       have h4 : (lN d + 1) * k.length ≤ (lN d + 1) * 4 := Nat.mul_le_mul_left _ c2.2.2
       rw [List.length_append, lN]
       omega
    ·
     rw [if_neg c2] at h; cases h
   ·
    rw [if_neg c1] at h
    by_cases c2 : k = [] ∧ tbs b = true
    ·
     rw [if_pos c2] at h
     cases h
     have h2 := c2.2
     unfold tbs at h2
     simp only [Bool.and_eq_true, decide_eq_true_iff] at h2
     rw [List.length_append, lN]
     omega
    ·
     rw [if_neg c2] at h; cases h
  ·
   rw [if_neg c] at h; cases h
theorem impl_areTexts_loop (ls : List Str) (hs : ∀ x ∈ ls, x.length ≤ 1048576) (hn : ls.length ≤ 1048576) (r : List Str) : ∀ p, ls = p ++ r → ∃ v : Int, Ev (fun k => slices_IndexFunc_string_string_areTexts_1.l0 k (ls.map ofL) (ls.length : Int) (p.length : Int)) v ∧ decide (v ≥ 0) = !(r.all tvalid) := by
 induction r with
 | nil =>
  intro p h
  have hz : ls.length = p.length := by rw [h, List.append_nil]
  refine ⟨-1, vc ?_, rfl⟩
  simp only [slices_IndexFunc_string_string_areTexts_1.l0]
  exact vn (by omega) (vs _)
 | cons c r ih =>
  intro p h
  have hz := len_mid h
  have e1 := rdOf_ofL h
  have hc := hs c (by rw [h]; simp)
  have w1 : wrap64 ((p.length : Int) + 1) = (p.length : Int) + 1 := wrap_id (by omega) (by omega)
  obtain ⟨v, hv, hv2⟩ := ih (p ++ [c]) (by rw [h]; simp)
  rw [len_snoc] at hv
  have h1 : Ev (fun k => impl_areTexts_1.f k (ofL c)) (!tvalid c) := vb (impl_TextValid_ev c (by omega)) (vs _)
  cases e : tvalid c with
  | true =>
   rw [e] at h1
   refine ⟨v, vc ?_, by rw [hv2, List.all_cons, e]; rfl⟩
   simp only [slices_IndexFunc_string_string_areTexts_1.l0, e1, w1, List.length_map]
   clear w1
   exact vp (by omega) (vp (by omega) (vp (by omega) (vb h1 (vn (by simp) hv))))
  | false =>
   rw [e] at h1
   refine ⟨p.length, vc ?_, by rw [List.all_cons, e]; simp⟩
   simp only [slices_IndexFunc_string_string_areTexts_1.l0, e1, w1, List.length_map]
   clear w1
   exact vp (by omega) (vp (by omega) (vp (by omega) (vb h1 (vp (by simp) (vs _)))))
theorem impl_areTexts_ev (ls : List Str) (hs : ∀ x ∈ ls, x.length ≤ 1048576) (hn : ls.length ≤ 1048576) : Ev (fun k => impl_areTexts.f k (ls.map ofL) 30) (tbs ls) := by
 unfold impl_areTexts.f slices_ContainsFunc_string_string_areTexts_1.f slices_IndexFunc_string_string_areTexts_1.f tbs
 rw [List.length_map]
 by_cases c : ls.length ≤ 30
 ·
  obtain ⟨v, hv, hv2⟩ := impl_areTexts_loop ls hs hn ls [] rfl
  refine vp (by omega) (vb (vb hv (vs _)) (vq (vs _) ?_))
  rw [hv2, decide_eq_true c]
  simp
 ·
  refine vn (by omega) (vq (vs _) ?_)
  rw [decide_eq_false c]; rfl
def lr (o : Option (List Str)) (v : List ByteArray × Bool) : Prop := match o with
 | some ls => v = (ls.map ofL, true)
 | none => v.2 = false
theorem szt_parts {f : List (Str × Str)} {b : List Str} {k : List Pt} (h : szt (.mk f b k) ≤ 1048576) : small f ∧ f.length ≤ 1048576 ∧ (∀ x ∈ b, x.length ≤ 1048576) ∧ b.length ≤ 1048576 ∧ k.length ≤ 1048576 ∧ ∀ p ∈ k, szt p ≤ 1048576 := by
 rw [szt] at h
 exact ⟨small_of (by omega), by omega, fun x hx => by have := szs_mem hx; omega, by omega, by omega, fun p hp => by have := szts_mem hp; omega⟩
theorem map_head (f : List (Str × Str)) : (folds f).map ofL ++ [(⟨#[]⟩ : ByteArray)] = (head f).map ofL := by
 unfold head
 rw [List.map_append]
 rfl
theorem snoc_map (acc : List (List Str)) (l : List Str) : acc.map (List.map ofL) ++ [l.map ofL] = (acc ++ [l]).map (List.map ofL) := by rw [List.map_append]; rfl
theorem impl_linesOf_ev : ∀ (d : Nat) (p : Pt), d ≤ 3 → szt p ≤ 1048576 → ∃ v, Ev (fun k => impl_Part_linesOf.f k (e32 p).f0 (e32 p).f1 (e32 p).f2 (d : Int)) v ∧ lr (lines d p) v := by
 have bad : ∀ (d : Int) (X : List ByteArray) (F : List S69) (B : List ByteArray) (K : List S28), Ev (fun k => impl_Part_linesOf.j0 k d X true F B K) ([], false) := fun d X F B K => by
  refine vc ?_
  simp only [impl_Part_linesOf.j0]
  exact vp trivial (vs _)
 intro d
 induction d with
 | zero =>
  intro p hd hp
  obtain ⟨f, b, k⟩ := p
  obtain ⟨hf, hfn, -⟩ := szt_parts hp
  simp only [e32_mk]
  refine ⟨([], false), vc ?_, rfl⟩
  simp only [impl_Part_linesOf.f]
  refine vb (impl_FoldFields_ev f hf hfn) ?_
  by_cases c : fvs f = true
  ·
   rw [if_pos c]
   exact vp rfl (bad _ _ _ _ _)
  ·
   rw [if_neg c]
   exact vn (by simp) (bad _ _ _ _ _)
 | succ d ih =>
  intro p hd hp
  obtain ⟨f, b, k⟩ := p
  obtain ⟨hf, hfn, hb, hbn, hkn, hk⟩ := szt_parts hp
  simp only [e32_mk]
  rw [lines]
  by_cases c : fvs f = true
  case neg =>
   rw [if_neg c]
   refine ⟨([], false), vc ?_, rfl⟩
   simp only [impl_Part_linesOf.f]
   refine vb (impl_FoldFields_ev f hf hfn) ?_
   rw [if_neg c]
   exact vn (by simp) (bad _ _ _ _ _)
  rw [if_pos c]
  have hh := head_len c
  have hfo := folds_len f c
  have go : ∀ v, Ev (fun n => if (bF f).2 = true then (if (b.length : Int) > 0 then impl_Part_linesOf.j1 n ((d + 1 : Nat) : Int) ((head f).map ofL) (ofL (bF f).1) true (f.map e76) (b.map ofL) (k.map e32) else (if (k.length : Int) < 1 then impl_Part_linesOf.j1 n ((d + 1 : Nat) : Int) ((head f).map ofL) (ofL (bF f).1) true (f.map e76) (b.map ofL) (k.map e32) else impl_Part_linesOf.j1 n ((d + 1 : Nat) : Int) ((head f).map ofL) (ofL (bF f).1) (decide ((k.length : Int) > 4)) (f.map e76) (b.map ofL) (k.map e32))) else (if ((head f).map ofL).length + (b.map ofL).length < 8796093022208 then (some ((head f).map ofL ++ b.map ofL : List ByteArray)).bind fun y => (if (k.length : Int) = 0 then ((impl_areTexts.f n (b.map ofL) 30).bind fun t => some (y, t)) else some (y, false)) else none)) v → Ev (fun n => impl_Part_linesOf.f n (f.map e76) (b.map ofL) (k.map e32) ((d + 1 : Nat) : Int)) v := by
   intro v hv
   refine vc ?_
   simp only [impl_Part_linesOf.f]
   refine vb (impl_FoldFields_ev f hf hfn) ?_
   rw [if_pos c]
   refine vp rfl ?_
   rw [show (((d + 1 : Nat) : Int) == 0) = false by simp; omega]
   refine vc ?_
   simp only [impl_Part_linesOf.j0]
   refine vn (by simp) (vp (by rw [List.length_map]; omega) (vb (vs _) (vb (impl_Part_boundary_ev f hf hfn _ _) ?_)))
   rw [map_head]
   simp only [List.length_map] at hv ⊢
   exact hv
  have bad1 : ∀ (X : List ByteArray) (B : ByteArray), Ev (fun n => impl_Part_linesOf.j1 n ((d + 1 : Nat) : Int) X B true (f.map e76) (b.map ofL) (k.map e32)) ([], false) := fun X B => by
   refine vc ?_
   simp only [impl_Part_linesOf.j1]
   exact vp trivial (vs _)
  by_cases c1 : (bF f).2 = true
  ·
   rw [if_pos c1]
   by_cases c2 : b = [] ∧ 1 ≤ k.length ∧ k.length ≤ 4
   ·
    rw [if_pos c2]
    obtain ⟨rfl, hk1, hk4⟩ := c2
    have hbd := isBd_len (bF_some c1)
    have hN := lN_le (d := d) (by omega)
    have key : ∀ (r p : List Pt) (acc : List (List Str)), k = p ++ r → acc.length = p.length → tl acc ≤ (lN d + 1) * p.length → ∃ v, Ev (fun n => impl_Part_linesOf.l0 n ((d + 1 : Nat) : Int) ((head f).map ofL) (ofL (bF f).1) (acc.map (List.map ofL)) (k.map e32) (k.length : Int) (p.length : Int)) v ∧ lr (match kl (lines d) r with
      | none => none
      | some ls => (jR (bF f).1 (acc ++ ls)).map (head f ++ ·)) v := by
     intro r
     induction r with
     | nil =>
      intro p acc h ha ht
      have hz : k.length = p.length := by rw [h, List.append_nil]
      have ht2 : (lN d + 1) * p.length ≤ (lN d + 1) * 4 := Nat.mul_le_mul_left _ (by omega)
      have hj := impl_JoinParts_ev acc (bF f).1 (by omega) (by omega)
      rw [kl]
      simp only [List.append_nil]
      cases e : jR (bF f).1 acc with
      | none =>
       rw [e] at hj
       refine ⟨((head f).map ofL ++ [], false), vc ?_, rfl⟩
       simp only [impl_Part_linesOf.l0]
       exact vn (by omega) (vb hj (vp (by rw [List.length_map]; simp only [jres, List.length_nil]; omega) (vs _)))
      | some s =>
       rw [e] at hj
       have hs := jR_len e
       refine ⟨((head f).map ofL ++ s.map ofL, true), vc ?_, by simp [lr]⟩
       simp only [impl_Part_linesOf.l0]
       exact vn (by omega) (vb hj (vp (by rw [List.length_map]; simp only [jres, List.length_map]; omega) (vs _)))
     | cons q r ihr =>
      intro p acc h ha ht
      have hz := len_mid h
      have e1 := rd32_mid h
      have w1 : wrap64 ((p.length : Int) + 1) = (p.length : Int) + 1 := wrap_id (by omega) (by omega)
      have w2 : wrap64 (((d + 1 : Nat) : Int) - 1) = (d : Int) := by rw [wrap_id (by omega) (by omega)]; omega
      obtain ⟨u, hu, hr⟩ := ih q (by omega) (hk q (by rw [h]; simp))
      rw [kl]
      cases e : lines d q with
      | none =>
       rw [e] at hr
       refine ⟨([], false), vc ?_, rfl⟩
       simp only [impl_Part_linesOf.l0, List.length_map, e1, w1, w2]
       clear w1 w2
       exact vp (by omega) (vp (by omega) (vp (by omega) (vb hu (vn (by rw [show u.2 = false from hr]; simp) (vs _)))))
      | some a =>
       rw [e] at hr
       have hr : u = (a.map ofL, true) := hr
       subst hr
       have hla := lines_len d q a e
       obtain ⟨v, hv, hv2⟩ := ihr (p ++ [q]) (acc ++ [a]) (by rw [h]; simp) (by simp [ha]) (by rw [tl_append, List.length_append, List.length_singleton, Nat.mul_add]; simp only [tl]; omega)
       rw [len_snoc, ← snoc_map] at hv
       refine ⟨v, vc ?_, ?_⟩
       ·
        simp only [impl_Part_linesOf.l0, List.length_map, e1, w1, w2]
        clear w1 w2
        exact vp (by omega) (vp (by omega) (vp (by omega) (vb hu (vp rfl (vp (by omega) hv)))))
       ·
        simp only
        cases e2 : kl (lines d) r with
        | none => rw [e2] at hv2; exact hv2
        | some l =>
         rw [e2] at hv2
         simpa using hv2
    obtain ⟨v, hv, hv2⟩ := key k [] [] rfl rfl (by simp [tl])
    refine ⟨v, go v (vp c1 (vn (by simp) (vn (by omega) ?_))), hv2⟩
    rw [show decide ((k.length : Int) > 4) = false from decide_eq_false (by omega)]
    refine vc ?_
    simp only [impl_Part_linesOf.j1, List.length_map]
    exact vn (by simp) hv
   ·
    rw [if_neg c2]
    refine ⟨([], false), go _ (vp c1 ?_), rfl⟩
    by_cases c3 : (b.length : Int) > 0
    ·
     exact vp c3 (bad1 _ _)
    ·
     refine vn c3 ?_
     have hb0 : b = [] := List.length_eq_zero_iff.mp (by omega)
     by_cases c4 : (k.length : Int) < 1
     ·
      exact vp c4 (bad1 _ _)
     ·
      refine vn c4 ?_
      rw [show decide ((k.length : Int) > 4) = true from decide_eq_true (by
       apply Classical.byContradiction
       intro h
       exact c2 ⟨hb0, by omega, by omega⟩)]
      exact bad1 _ _
  ·
   rw [if_neg c1]
   have hlen : ((head f).map ofL).length + (b.map ofL).length < 8796093022208 := by simp only [List.length_map]; omega
   by_cases c3 : k = []
   ·
    subst c3
    refine ⟨((head f).map ofL ++ b.map ofL, tbs b), go _ (vn c1 (vp hlen (vb (vs _) (vp rfl (vb (impl_areTexts_ev b hb hbn) (vs _)))))), ?_⟩
    cases e : tbs b with
    | true => simp [lr]
    | false => simp [lr]
   ·
    have hk0 : ¬ (k.length : Int) = 0 := fun h => c3 (List.length_eq_zero_iff.mp (by omega))
    refine ⟨((head f).map ofL ++ b.map ofL, false), go _ (vn c1 (vp hlen (vb (vs _) (vn hk0 (vs _))))), ?_⟩
    rw [if_neg (fun h => c3 h.1)]
    rfl
theorem impl_PartValid_ev (p : Pt) (hp : szt p ≤ 1048576) : Ev (fun k => impl_PartValid.f k (e32 p).f0 (e32 p).f1 (e32 p).f2) (lines 3 p).isSome := by
 unfold impl_PartValid.f
 obtain ⟨v, hv, hr⟩ := impl_linesOf_ev 3 p (by omega) hp
 refine vb hv (vq (vs _) ?_)
 cases e : lines 3 p with
 | none => rw [e] at hr; exact hr
 | some ls =>
  rw [e] at hr
  rw [show v = _ from hr]
  rfl
/-! The reference's lines of a part, and whether it is valid. -/
theorem spec_l8Body_loop (ls : List Str) (hs : ∀ x ∈ ls, x.length ≤ 1048576) (hn : ls.length ≤ 1048576) (r : List Str) : ∀ p, ls = p ++ r → Ev (fun k => spec_l8Body.l0 k (ls.map ofL) (p.length : Int)) (decide (ls.length ≤ 30) && r.all tvalid) := by
 have out : ∀ i : Int, Ev (fun k => spec_l8Body.j1 k (ls.map ofL) i false) (decide (ls.length ≤ 30)) := fun i => by
  refine vc ?_
  simp only [spec_l8Body.j1, List.length_map]
  refine vn (by simp) (vq (vs _) ?_)
  exact decide_eq_decide.mpr (by omega)
 induction r with
 | nil =>
  intro p h
  have hz : ls.length = p.length := by rw [h, List.append_nil]
  refine vc ?_
  simp only [spec_l8Body.l0, List.length_map]
  refine vn (by omega) (vq (out _) (by simp))
 | cons c r ih =>
  intro p h
  have hz := len_mid h
  have e1 := rdOf_ofL h
  have hc := hs c (by rw [h]; simp)
  have w1 : wrap64 ((p.length : Int) + 1) = (p.length : Int) + 1 := wrap_id (by omega) (by omega)
  have hv := ih (p ++ [c]) (by rw [h]; simp)
  rw [len_snoc] at hv
  have h1 := spec_TextValid_ev c (by omega)
  refine vc ?_
  simp only [spec_l8Body.l0, List.length_map]
  refine vp (by omega) ?_
  by_cases c2 : p.length ≤ 30
  ·
   rw [show decide ((p.length : Int) ≤ 30) = true from decide_eq_true (by omega)]
   refine vc ?_
   simp only [spec_l8Body.j1, List.length_map, e1, w1]
   clear w1
   refine vp trivial (vp (by omega) (vp (by omega) (vb h1 ?_)))
   cases e : tvalid c with
   | true => exact vp rfl (vq hv (by rw [List.all_cons, e, Bool.true_and]))
   | false => exact vn (by simp) (vq (vs _) (by rw [List.all_cons, e]; simp))
  ·
   rw [show decide ((p.length : Int) ≤ 30) = false from decide_eq_false (by omega)]
   exact vq (out _) (by rw [decide_eq_false (by omega)]; rfl)
theorem spec_l8Body_ev (ls : List Str) (hs : ∀ x ∈ ls, x.length ≤ 1048576) (hn : ls.length ≤ 1048576) : Ev (fun k => spec_l8Body.f k (ls.map ofL)) (tbs ls) := spec_l8Body_loop ls hs hn ls [] rfl
/-! Coded words: the model. -/
def hx (n : UInt8) : UInt8 := if n < 10 then 48 + n else 55 + n
def cdB (c : UInt8) : Str := if c = 32 then [95] else if (alnB c || decide (c = 45) || decide (c = 46)) = true then [c] else [61, hx (c / 16), hx (c % 16)]
def cd : Str → Str
 | [] => []
 | c :: r => cdB c ++ cd r
def cb : Str := [61, 63, 117, 116, 102, 45, 56, 63, 113, 63]
def ce : Str := [63, 61]
def cw (b : Str) : Str := cb ++ cd b ++ ce
def cwO (b : Str) : Option Str := if b = [] ∨ b.length > 40 ∨ (cw b).length > 40 then none else some (cw b)
theorem cd_append (a b : Str) : cd (a ++ b) = cd a ++ cd b := by
 induction a with
 | nil => rfl
 | cons c a ih => simp only [List.cons_append, cd, ih, List.append_assoc]
theorem cdB_len (c : UInt8) : 1 ≤ (cdB c).length ∧ (cdB c).length ≤ 3 := by
 unfold cdB
 split
 ·
  exact ⟨by simp, by simp⟩
 ·
  split <;> exact ⟨by simp, by simp⟩
theorem cd_len (b : Str) : b.length ≤ (cd b).length ∧ (cd b).length ≤ 3 * b.length := by
 induction b with
 | nil => exact ⟨Nat.le_refl _, Nat.le_refl _⟩
 | cons c r ih => have := cdB_len c; simp only [cd, List.length_append, List.length_cons]; omega
theorem cw_len (b : Str) : (cw b).length = (cd b).length + 12 := by
 unfold cw cb ce; simp
/-- Hexadecimal digits. -/
def vl (c : UInt8) : Int := if 48 ≤ c ∧ c ≤ 57 then ((c - 48).toNat : Int) else if 65 ≤ c ∧ c ≤ 70 then ((c - 55).toNat : Int) else -1
theorem cwO_some {b s : Str} (h : cwO b = some s) : s = cw b ∧ b ≠ [] ∧ b.length ≤ 40 ∧ s.length ≤ 40 := by
 unfold cwO at h
 split at h
 ·
  cases h
 ·
  rename_i hn
  cases h
  refine ⟨rfl, fun e => hn (Or.inl e), ?_, ?_⟩ <;> omega
open Classical in
noncomputable def rcw (s : Str) : Option Str := if h : ∃ b, cwO b = some s then some (Classical.choose h) else none
def cwres : Option Str → ByteArray × Bool
 | none => (ofL [], false)
 | some s => (ofL s, true)
/-! Parts at spaces. -/
def spl : Str → List Str
 | [] => [[]]
 | c :: r => if c = 32 then [] :: spl r else hd1 c (spl r)
/-! A name read. -/
noncomputable def dgo : List Str → Bool → Bool → Str → Str
 | [], _, _, out => out
 | x :: r, later, coded, out => dgo r true (rcw x).isSome (out ++ (if later = true ∧ ¬ (coded = true ∧ (rcw x).isSome = true) then [32] else []) ++ (rcw x).getD x)
noncomputable def dn (s : Str) : Option Str := if s.length > 600 then none else (let o := dgo (spl s) false false []; if o.length > 120 then none else some o)
/-! Coded words: the program and the reference. -/
theorem spec_l6Byte_eq (c : UInt8) : spec_l6Byte.f (c.toNat : Int) = some (ofL (cdB c)) := by
 revert c
 exact u8_all (by decide +kernel)
theorem spec_l6Code_ev (b : Str) (hb : b.length ≤ 1048576) : Ev (fun k => spec_l6Code.f k (ofL b)) (ofL (cd b)) := by
 have key : ∀ (r p : Str), b = p ++ r → Ev (fun k => spec_l6Code.l0 k (ofL b) (ofL (cd p)) (p.length : Int)) (ofL (cd b)) := by
  intro r
  induction r with
  | nil =>
   intro p h
   rw [List.append_nil] at h
   subst h
   refine vc ?_
   simp only [spec_l6Code.l0, size_ofL]
   exact vn (by omega) (vs _)
  | cons c r ih =>
   intro p h
   have hz := len_mid h
   have e1 := bt_ofL_mid h
   have w1 : wrap64 ((p.length : Int) + 1) = ((p ++ [c]).length : Int) := (wrap_id (by omega) (by omega)).trans (by simp)
   have := ih (p ++ [c]) (by rw [h]; simp)
   rw [cd_append] at this
   have l1 := cd_len p
   have l2 := cdB_len c
   refine vc ?_
   simp only [spec_l6Code.l0, e1, w1, size_ofL, spec_l6Byte_eq, Option.bind_some, ofL_append]
   clear e1 w1
   refine vp (by omega) (vp (by omega) (vp (by omega) ?_))
   simpa [cd] using this
 unfold spec_l6Code.f
 exact key b [] rfl
theorem spec_CodeWord_ev (b : Str) (hb : b.length ≤ 1048576) : Ev (fun k => spec_CodeWord.f k (ofL b)) (cwres (cwO b)) := by
 have h := spec_l6Code_ev b hb
 have bad : Ev (fun k => spec_CodeWord.j0 k (ofL b) true) (cwres none) := by
  refine vc ?_
  simp only [spec_CodeWord.j0]
  exact vp trivial (vq (vs _) rfl)
 unfold spec_CodeWord.f cwO
 rw [size_ofL]
 by_cases h1 : b = []
 ·
  rw [if_pos (show b = [] ∨ b.length > 40 ∨ (cw b).length > 40 from Or.inl h1)]
  exact vp (by rw [h1]; decide) bad
 ·
  have hn : 0 < b.length := List.length_pos_iff.mpr h1
  refine vn (by omega) ?_
  by_cases h2 : b.length > 40
  ·
   rw [if_pos (show b = [] ∨ b.length > 40 ∨ (cw b).length > 40 from Or.inr (Or.inl h2)), decide_eq_true (by omega : (b.length : Int) > 40)]
   exact bad
  ·
   rw [decide_eq_false (by omega : ¬ (b.length : Int) > 40)]
   have l1 := cd_len b
   have e61 : (⟨#[61, 63, 117, 116, 102, 45, 56, 63, 113, 63]⟩ : ByteArray) = ofL cb := rfl
   have e63 : (⟨#[63, 61]⟩ : ByteArray) = ofL ce := rfl
   have e4 : cb ++ cd b ++ ce = cw b := rfl
   have l2 := cw_len b
   refine vc ?_
   simp only [spec_CodeWord.j0, e61, e63]
   refine vn (by simp) (vb h ?_)
   simp only [size_ofL, ofL_append, e4]
   refine vp (by omega) (vp (by rw [List.length_append, show cb.length = 10 from rfl]; omega) ?_)
   by_cases h3 : (cw b).length > 40
   ·
    rw [if_pos (show b = [] ∨ b.length > 40 ∨ (cw b).length > 40 from Or.inr (Or.inr h3))]
    exact vp (by omega) (vq (vs _) rfl)
   ·
    rw [if_neg (show ¬ (b = [] ∨ b.length > 40 ∨ (cw b).length > 40) from fun hh => hh.elim h1 (fun hh => hh.elim h2 h3))]
    exact vn (by omega) (vq (vs _) rfl)
/-! Coded words read. -/
/-! Names read. -/
def fit (o : Str) : Option Str := if o.length > 120 then none else some o
/-! Spaces trimmed by the reference. -/
/-! Names that are drawn. -/
theorem spec_NeedsCode_ev (s : Str) (hs : s.length ≤ 1048576) : ∃ nc : Bool, Ev (fun k => spec_NeedsCode.f k (ofL s)) nc := by
 have key : ∀ (d i : Nat), s.length - i = d → i ≤ s.length → ∃ nc : Bool, Ev (fun k => spec_NeedsCode.l0 k (ofL s) (i : Int)) nc := by
  have fin : ∃ nc : Bool, Ev (fun k => (spec_TextValid.f k (ofL s)).bind fun t104 => (if t104 = true then ((spec_l2Trim.f k (ofL s)).bind fun t105 => (if t105.toList = (ofL s).toList then (some (decide (((ofL s).size : Int) > 120))) else (some true))) else (some true))) nc := by
   cases h1 : tvalid s with
   | false => exact ⟨true, vb (spec_TextValid_ev s (by omega)) (vn (by simp [h1]) (vs _))⟩
   | true =>
    by_cases h2 : (ofL (trim s)).toList = (ofL s).toList
    ·
     exact ⟨_, vb (spec_TextValid_ev s (by omega)) (vp h1 (vb (spec_l2Trim_ev s hs) (vp h2 (vs _))))⟩
    ·
     exact ⟨true, vb (spec_TextValid_ev s (by omega)) (vp h1 (vb (spec_l2Trim_ev s hs) (vn h2 (vs _))))⟩
  intro d
  induction d with
  | zero =>
   intro i hd hi
   obtain ⟨nc, hn⟩ := fin
   refine ⟨nc, vc ?_⟩
   simp only [spec_NeedsCode.l0]
   have w1 : wrap64 ((i : Int) + 1) = (i : Int) + 1 := wrap_id (by omega) (by omega)
   rw [w1]
   exact vn (by rw [size_ofL]; omega) hn
  | succ d ih =>
   intro i hd hi
   have w1 : wrap64 ((i : Int) + 1) = ((i + 1 : Nat) : Int) := (wrap_id (by omega) (by omega)).trans (by omega)
   by_cases h1 : i + 1 < s.length
   ·
    obtain ⟨nc, hn⟩ := ih (i + 1) (by omega) (by omega)
    by_cases h2 : (bt (ofL s) (i : Int)) = 61
    ·
     by_cases h3 : (bt (ofL s) ((i + 1 : Nat) : Int)) = 63
     ·
      refine ⟨true, vc ?_⟩
      simp only [spec_NeedsCode.l0, w1, size_ofL]
      exact vp (by omega) (vp (by omega) (vp (by omega) (vp h2 (vp (by omega) (vp h3 (vs _))))))
     ·
      refine ⟨nc, vc ?_⟩
      simp only [spec_NeedsCode.l0, w1, size_ofL]
      exact vp (by omega) (vp (by omega) (vp (by omega) (vp h2 (vp (by omega) (vn h3 hn)))))
    ·
     refine ⟨nc, vc ?_⟩
     simp only [spec_NeedsCode.l0, w1, size_ofL]
     exact vp (by omega) (vp (by omega) (vp (by omega) (vn h2 hn)))
   ·
    obtain ⟨nc, hn⟩ := fin
    refine ⟨nc, vc ?_⟩
    simp only [spec_NeedsCode.l0, w1]
    exact vn (by rw [size_ofL]; omega) hn
 unfold spec_NeedsCode.f
 exact key s.length 0 rfl (by omega)
theorem cwres_len (b : Str) : ∃ u : Str, (cwres (cwO b)).1 = ofL u ∧ u.length ≤ 40 := by
 cases e : cwO b with
 | none => exact ⟨[], rfl, by simp⟩
 | some s => exact ⟨s, rfl, (cwO_some e).2.2.2⟩
theorem spec_EncodeName_ev (b : Str) (hb : b.length ≤ 1048576) : ∃ (s : Str) (ok : Bool), Ev (fun k => spec_EncodeName.f k (ofL b)) (ofL s, ok) ∧ s.length ≤ 10000 := by
 unfold spec_EncodeName.f
 rw [size_ofL]
 by_cases h : b.length > 120
 ·
  exact ⟨[], false, vp (by omega) (vq (vs _) rfl), by simp⟩
 ·
  obtain ⟨nc, hn⟩ := spec_NeedsCode_ev b hb
  cases nc with
  | false => exact ⟨b, true, vn (by omega) (vb hn (vn (by simp) (vs _))), by omega⟩
  | true =>
   have ext : ∀ i j : Nat, (ofL b).extract i j = ofL ((b.drop i).take (j - i)) := fun i j => extract_ofL b i j
   have key : ∀ (m i : Nat) (out : Str), b.length - i ≤ m → i ≤ b.length → out.length ≤ 50 * i → ∃ s : Str, Ev (fun k => spec_EncodeName.l0 k (ofL b) (ofL out) (i : Int)) (ofL s, true) ∧ s.length ≤ 10000 := by
    intro m
    induction m with
    | zero =>
     intro i out hm hi ho
     refine ⟨out, vc ?_, by omega⟩
     simp only [spec_EncodeName.l0, size_ofL]
     exact vn (by omega) (vs _)
    | succ m ih =>
     intro i out hm hi ho
     by_cases hlt : i < b.length
     ·
      have inner : ∀ (d j : Nat), b.length - j = d → i < j → j ≤ b.length → ∃ s : Str, Ev (fun k => spec_EncodeName.l1 k (ofL b) (ofL out) (i : Int) (j : Int)) (ofL s, true) ∧ s.length ≤ 10000 := by
       have e32 : (⟨#[32]⟩ : ByteArray) = ofL [32] := rfl
       have put : ∀ j : Nat, i < j → j ≤ b.length → ∃ s : Str, Ev (fun k => (spec_CodeWord.f k (ofL ((b.drop i).take (j - i)))).bind fun bt => (if (i : Int) > 0 then (if (ofL out).size + 1 ≤ 9223372036854775807 then (if ((ofL out) ++ (⟨#[32]⟩ : ByteArray)).size + bt.1.size ≤ 9223372036854775807 then (spec_EncodeName.l0 k (ofL b) (((ofL out) ++ (⟨#[32]⟩ : ByteArray)) ++ bt.1) (j : Int)) else (none)) else (none)) else (if (ofL out).size + bt.1.size ≤ 9223372036854775807 then (spec_EncodeName.l0 k (ofL b) ((ofL out) ++ bt.1) (j : Int)) else (none)))) (ofL s, true) ∧ s.length ≤ 10000 := by
        intro j h1 h2
        have hcw := spec_CodeWord_ev ((b.drop i).take (j - i)) (by rw [List.length_take, List.length_drop]; omega)
        obtain ⟨u, hu, hul⟩ := cwres_len ((b.drop i).take (j - i))
        by_cases h0 : 0 < i
        ·
         obtain ⟨s, hs, hsl⟩ := ih j (out ++ [32] ++ u) (by omega) h2 (by simp only [List.length_append, List.length_cons, List.length_nil]; omega)
         refine ⟨s, vb hcw (vp (by omega) ?_), hsl⟩
         simp only [hu, e32, size_ofL, ofL_append]
         exact vp (by omega) (vp (by simp only [List.length_append, List.length_cons, List.length_nil]; omega) hs)
        ·
         obtain ⟨s, hs, hsl⟩ := ih j (out ++ u) (by omega) h2 (by simp only [List.length_append]; omega)
         refine ⟨s, vb hcw (vn (by omega) ?_), hsl⟩
         simp only [hu, size_ofL, ofL_append]
         exact vp (by omega) hs
       intro d
       induction d with
       | zero =>
        intro j hd h1 h2
        obtain ⟨s, hs, hsl⟩ := put j h1 h2
        refine ⟨s, vc ?_, hsl⟩
        simp only [spec_EncodeName.l1, Int.toNat_natCast, ext]
        exact vn (by rw [size_ofL]; omega) (vp (by omega) (vp (by omega) (vp (by rw [size_ofL]; omega) hs)))
       | succ d ihd =>
        intro j hd h1 h2
        have w1 : wrap64 ((j : Int) + 1) = ((j + 1 : Nat) : Int) := (wrap_id (by omega) (by omega)).trans (by omega)
        have hcd := spec_l6Code_ev ((b.drop i).take (j + 1 - i)) (by rw [List.length_take, List.length_drop]; omega)
        by_cases h4 : (cd ((b.drop i).take (j + 1 - i))).length ≤ 28
        ·
         obtain ⟨s, hs, hsl⟩ := ihd (j + 1) (by omega) (by omega) (by omega)
         refine ⟨s, vc ?_, hsl⟩
         simp only [spec_EncodeName.l1, Int.toNat_natCast, ext, w1]
         clear w1
         exact vp (by rw [size_ofL]; omega) (vp (by omega) (vp (by omega) (vp (by rw [size_ofL]; omega) (vb hcd (vp (by rw [size_ofL]; omega) hs)))))
        ·
         obtain ⟨s, hs, hsl⟩ := put j h1 h2
         refine ⟨s, vc ?_, hsl⟩
         simp only [spec_EncodeName.l1, Int.toNat_natCast, ext, w1]
         clear w1
         exact vp (by rw [size_ofL]; omega) (vp (by omega) (vp (by omega) (vp (by rw [size_ofL]; omega) (vb hcd (vn (by rw [size_ofL]; omega) (vp (by omega) (vp (by rw [size_ofL]; omega) hs)))))))
      have w1 : wrap64 ((i : Int) + 1) = ((i + 1 : Nat) : Int) := (wrap_id (by omega) (by omega)).trans (by omega)
      obtain ⟨s, hs, hsl⟩ := inner _ (i + 1) rfl (by omega) (by omega)
      refine ⟨s, vc ?_, hsl⟩
      simp only [spec_EncodeName.l0, size_ofL, w1]
      clear w1
      exact vp (by omega) hs
     ·
      refine ⟨out, vc ?_, by omega⟩
      simp only [spec_EncodeName.l0, size_ofL]
      exact vn (by omega) (vs _)
   obtain ⟨s, hs, hsl⟩ := key b.length 0 [] (by omega) (by omega) (by simp)
   exact ⟨s, true, vn (by omega) (vb hn (vp rfl hs)), hsl⟩
/-! Codes of bytes: what they give is bounded. -/
theorem szs_snoc (a : List Str) (c : Str) : szs (a ++ [c]) = szs a + c.length := by rw [szs_append]; simp [szs]
theorem l2P10 (s : Str) (hs : s.length ≤ 1000000) : ∃ ls : List Str, Ev (fun k => spec_l2Parts.f k (ofL s) 10) (ls.map ofL) ∧ ls.length ≤ s.length + 1 ∧ szs ls ≤ s.length := by
 have key : ∀ (r p : Str) (acc : List Str) (m : Nat), s = p ++ r → m ≤ p.length → szs acc ≤ m → acc.length ≤ p.length → ∃ ls : List Str, Ev (fun k => spec_l2Parts.l0 k (ofL s) 10 (acc.map ofL) (m : Int) (p.length : Int)) (ls.map ofL) ∧ ls.length ≤ s.length + 1 ∧ szs ls ≤ s.length := by
  intro r
  induction r with
  | nil =>
   intro p acc m h h1 h2 h3
   have hz : s.length = p.length := by rw [h]; simp
   refine ⟨acc ++ [(s.drop m).take (s.length - m)], vc ?_, by simp; omega, by rw [szs_snoc]; simp; omega⟩
   simp only [spec_l2Parts.l0, size_ofL, List.length_map, Int.toNat_natCast, extract_ofL]
   exact vn (by omega) (vp (by omega) (vp (by omega) (vp (by omega) (vq (vs _) (by simp)))))
  | cons c r ih =>
   intro p acc m h h1 h2 h3
   have hz : s.length = p.length + (r.length + 1) := by rw [h]; simp
   have e1 : bt (ofL s) (p.length : Int) = (c.toNat : Int) := bt_ofL_mid (l := s) (p := p) h
   have w1 : Unit → wrap64 ((p.length : Int) + 1) = (((p ++ [c]).length : Nat) : Int) := fun _ => by rw [wrap_id (by omega) (by omega)]; simp
   by_cases c1 : (c.toNat : Int) = 10
   ·
    obtain ⟨ls, g1, g2⟩ := ih (p ++ [c]) (acc ++ [(s.drop m).take (p.length - m)]) (p ++ [c]).length (by rw [h]; simp) (Nat.le_refl _) (by rw [szs_snoc]; simp; omega) (by simp; omega)
    refine ⟨ls, vc ?_, g2⟩
    simp only [spec_l2Parts.l0, size_ofL, List.length_map, e1, w1 (), Int.toNat_natCast, extract_ofL]
    clear e1 w1
    rw [List.map_append, List.map_singleton] at g1
    exact vp (by omega) (vp (by omega) (vp c1 (vp (by omega) (vp (by omega) (vp (by omega) (vp (by omega) g1))))))
   ·
    obtain ⟨ls, g1, g2⟩ := ih (p ++ [c]) acc m (by rw [h]; simp) (by simp; omega) h2 (by simp; omega)
    refine ⟨ls, vc ?_, g2⟩
    simp only [spec_l2Parts.l0, size_ofL, List.length_map, e1, w1 ()]
    clear e1 w1
    exact vp (by omega) (vp (by omega) (vn c1 g1))
 unfold spec_l2Parts.f
 exact key s [] [] 0 rfl (Nat.le_refl _) (Nat.le_refl _) (Nat.le_refl _)
theorem l5Plain_ev (s : Str) (hs : s.length ≤ 1000) : ∃ (ls : List Str) (ok : Bool), Ev (fun k => spec_l5Plain.f k (ofL s)) (ls.map ofL, ok) ∧ ls.length + szs ls ≤ 2001 := by
 obtain ⟨xs, g1, g2, g3⟩ := l2P10 s (by omega)
 have key : ∀ (r p : List Str), xs = p ++ r → ∃ (ls : List Str) (ok : Bool), Ev (fun k => spec_l5Plain.l0 k (ofL s) (xs.map ofL) (p.length : Int)) (ls.map ofL, ok) ∧ ls.length + szs ls ≤ 2001 := by
  intro r
  induction r with
  | nil =>
   intro p h
   have hz : xs.length = p.length := by rw [h]; simp
   refine ⟨xs, decide (((ofL s).size : Int) ≤ 300), vc ?_, by omega⟩
   simp only [spec_l5Plain.l0, List.length_map]
   exact vn (by omega) (vs _)
  | cons c r ih =>
   intro p h
   have hz : xs.length = p.length + (r.length + 1) := by rw [h]; simp
   have e1 := rdOf_ofL h
   have hc : c.length ≤ szs xs := szs_mem (by rw [h]; simp)
   have w1 : Unit → wrap64 ((p.length : Int) + 1) = (((p ++ [c]).length : Nat) : Int) := fun _ => by rw [wrap_id (by omega) (by omega)]; simp
   obtain ⟨ls, ok, g4, g5⟩ := ih (p ++ [c]) (by rw [h]; simp)
   have tv := spec_TextValid_ev c (by omega)
   by_cases c1 : (c.length : Int) > 40
   ·
    refine ⟨[], false, vc ?_, by simp [szs]⟩
    simp only [spec_l5Plain.l0, List.length_map, e1, size_ofL]
    exact vp (by omega) (vp (by omega) (vp c1 (vs _)))
   by_cases c2 : tvalid c = true
   ·
    refine ⟨ls, ok, vc ?_, g5⟩
    simp only [spec_l5Plain.l0, List.length_map, e1, size_ofL, w1 ()]
    exact vp (by omega) (vp (by omega) (vn c1 (vb tv (vp c2 g4))))
   ·
    refine ⟨[], false, vc ?_, by simp [szs]⟩
    simp only [spec_l5Plain.l0, List.length_map, e1, size_ofL]
    exact vp (by omega) (vp (by omega) (vn c1 (vb tv (vn c2 (vs _)))))
 obtain ⟨ls, ok, g4, g5⟩ := key xs [] rfl
 refine ⟨ls, ok, ?_, g5⟩
 unfold spec_l5Plain.f
 exact vb g1 g4
theorem l5Byte_ev (c : UInt8) (b : Bool) : ∃ t : Str, spec_l5Byte.f (c.toNat : Int) b = some (ofL t) ∧ t.length ≤ 3 := by
 have key : ∀ n : Nat, n < 256 → (match spec_l5Byte.f ((UInt8.ofNat n).toNat : Int) b with | some s => decide (s.size ≤ 3) | none => false) = true := by
  cases b <;> decide +kernel
 have := key c.toNat c.toNat_lt
 rw [UInt8.ofNat_toNat] at this
 cases e : spec_l5Byte.f (c.toNat : Int) b with
 | none => rw [e] at this; cases this
 | some s =>
  rw [e] at this
  exact ⟨L s, by rw [ofL_L], by rw [← size_L]; exact of_decide_eq_true this⟩
theorem EncodeQuoted_ev (s : Str) (hs : s.length ≤ 1000) : ∃ (ls : List Str) (ok : Bool), Ev (fun k => spec_EncodeQuoted.f k (ofL s)) (ls.map ofL, ok) ∧ ls.length + szs ls ≤ 5002 := by
 have key : ∀ (r p : Str) (acc : List Str) (cur : Str), s = p ++ r → acc.length ≤ p.length → cur.length ≤ 39 → szs acc + cur.length ≤ 4 * p.length → ∃ (ls : List Str) (ok : Bool), Ev (fun k => spec_EncodeQuoted.l0 k (ofL s) (acc.map ofL) (ofL cur) (p.length : Int)) (ls.map ofL, ok) ∧ ls.length + szs ls ≤ 5002 := by
  intro r
  induction r with
  | nil =>
   intro p acc cur h h1 h2 h3
   have hz : s.length = p.length := by rw [h]; simp
   refine ⟨acc ++ [cur], true, vc ?_, by rw [szs_snoc]; simp; omega⟩
   simp only [spec_EncodeQuoted.l0, size_ofL, List.length_map]
   exact vn (by omega) (vp (by omega) (vq (vs _) (by simp)))
  | cons c r ih =>
   intro p acc cur h h1 h2 h3
   have hz : s.length = p.length + (r.length + 1) := by rw [h]; simp
   have hp : (p ++ [c]).length = p.length + 1 := by simp
   have e1 : bt (ofL s) (p.length : Int) = (c.toNat : Int) := bt_ofL_mid (l := s) (p := p) h
   have w1 : Unit → wrap64 ((p.length : Int) + 1) = (((p ++ [c]).length : Nat) : Int) := fun _ => by rw [wrap_id (by omega) (by omega)]; simp
   by_cases c1 : (c.toNat : Int) = 10
   ·
    obtain ⟨ls, ok, g1, g2⟩ := ih (p ++ [c]) (acc ++ [cur]) [] (by rw [h]; simp) (by simp; omega) (by simp) (by rw [szs_snoc, hp]; simp; omega)
    refine ⟨ls, ok, vc ?_, g2⟩
    simp only [spec_EncodeQuoted.l0, size_ofL, List.length_map, e1, w1 ()]
    clear e1 w1
    rw [List.map_append, List.map_singleton] at g1
    exact vp (by omega) (vp (by omega) (vp c1 (vp (by omega) g1)))
   ·
    have fin : ∀ b : Bool, ∃ (ls : List Str) (ok : Bool) (t : Str), spec_l5Byte.f (c.toNat : Int) b = some (ofL t) ∧ ls.length + szs ls ≤ 5002 ∧ Ev (fun k => if (wrap64 (((ofL cur).size : Int) + ((ofL t).size : Int))) > 39 then (if (ofL cur).size + 1 ≤ 9223372036854775807 then (if (acc.map ofL).length < 8796093022208 then (if 0 + (ofL t).size ≤ 9223372036854775807 then (spec_EncodeQuoted.l0 k (ofL s) (acc.map ofL ++ [ofL cur ++ (⟨#[61]⟩ : ByteArray)]) ((⟨#[]⟩ : ByteArray) ++ ofL t) (((p ++ [c]).length : Nat) : Int)) else none) else none) else none) else (if (ofL cur).size + (ofL t).size ≤ 9223372036854775807 then (spec_EncodeQuoted.l0 k (ofL s) (acc.map ofL) (ofL cur ++ ofL t) (((p ++ [c]).length : Nat) : Int)) else none)) (ls.map ofL, ok) := by
     intro b
     obtain ⟨t, ht, hl⟩ := l5Byte_ev c b
     have w2 : Unit → wrap64 ((cur.length : Int) + (t.length : Int)) = (cur.length : Int) + (t.length : Int) := fun _ => wrap_id (by omega) (by omega)
     by_cases c2 : (cur.length : Int) + (t.length : Int) > 39
     ·
      obtain ⟨ls, ok, g1, g2⟩ := ih (p ++ [c]) (acc ++ [cur ++ [61]]) t (by rw [h]; simp) (by simp; omega) (by omega) (by rw [szs_snoc, hp]; simp; omega)
      refine ⟨ls, ok, t, ht, g2, ?_⟩
      simp only [size_ofL, List.length_map, w2 ()]
      clear w2 w1
      refine vp c2 (vp (by omega) (vp (by omega) (vp (by omega) ?_)))
      rw [List.map_append, List.map_singleton, ← ofL_append] at g1
      exact g1
     ·
      obtain ⟨ls, ok, g1, g2⟩ := ih (p ++ [c]) acc (cur ++ t) (by rw [h]; simp) (by simp; omega) (by simp; omega) (by rw [hp]; simp; omega)
      refine ⟨ls, ok, t, ht, g2, ?_⟩
      simp only [size_ofL, List.length_map, w2 ()]
      clear w2 w1
      refine vn c2 (vp (by omega) ?_)
      rw [← ofL_append] at g1
      exact g1
    by_cases c3 : (((p ++ [c]).length : Nat) : Int) = (s.length : Int)
    ·
     obtain ⟨ls, ok, t, ht, g2, g1⟩ := fin true
     refine ⟨ls, ok, vc ?_, g2⟩
     simp only [spec_EncodeQuoted.l0, size_ofL s, e1, w1 ()]
     clear e1 w1
     exact vp (by omega) (vp (by omega) (vn c1 (vp c3 (ev_bind0 ht g1))))
    ·
     obtain ⟨ls, ok, t, ht, g2, g1⟩ := fin ((bt (ofL s) (((p ++ [c]).length : Nat) : Int)) == 10)
     refine ⟨ls, ok, vc ?_, g2⟩
     simp only [spec_EncodeQuoted.l0, size_ofL s, e1, w1 ()]
     clear e1 w1
     exact vp (by omega) (vp (by omega) (vn c1 (vn c3 (vp (by omega) (vp (by omega) (ev_bind0 ht g1))))))
 unfold spec_EncodeQuoted.f
 rw [size_ofL]
 by_cases c0 : (s.length : Int) > 300
 ·
  exact ⟨[], false, vp c0 (vs _), by simp [szs]⟩
 ·
  obtain ⟨ls, ok, g1, g2⟩ := key s [] [] [] rfl (Nat.le_refl _) (by simp) (by simp [szs])
  exact ⟨ls, ok, vn c0 g1, g2⟩
theorem l5Lines_ev (s : Str) (hs : s.length ≤ 100000) : ∃ ls : List Str, Ev (fun k => spec_l5Lines.f k (ofL s) 40) (ls.map ofL) ∧ ls.length ≤ s.length + 1 ∧ szs ls ≤ s.length := by
 have key : ∀ (n : Nat) (x : Str) (acc : List Str), x.length ≤ n → acc.length + x.length ≤ s.length → szs acc + x.length ≤ s.length → ∃ ls : List Str, Ev (fun k => spec_l5Lines.l0 k (ofL x) 40 (acc.map ofL)) (ls.map ofL) ∧ ls.length ≤ s.length + 1 ∧ szs ls ≤ s.length := by
  intro n
  induction n with
  | zero =>
   intro x acc h h1 h2
   refine ⟨acc ++ [x], vc ?_, by simp; omega, by rw [szs_snoc]; omega⟩
   simp only [spec_l5Lines.l0, size_ofL, List.length_map]
   exact vn (by omega) (vp (by omega) (vq (vs _) (by simp)))
  | succ n ih =>
   intro x acc h h1 h2
   by_cases c : (x.length : Int) > 40
   ·
    obtain ⟨ls, g1, g2⟩ := ih (x.drop 40) (acc ++ [x.take 40]) (by simp; omega) (by simp; omega) (by rw [szs_snoc]; simp; omega)
    refine ⟨ls, vc ?_, g2⟩
    have e1 : (ofL x).extract (40 : Int).toNat x.length = ofL (x.drop 40) := by
     rw [extract_ofL]
     exact congrArg ofL (List.take_of_length_le (by simp))
    have e2 : (ofL x).extract 0 (40 : Int).toNat = ofL (x.take 40) := by rw [extract_ofL]; rfl
    simp only [spec_l5Lines.l0, size_ofL, List.length_map, e1, e2]
    rw [List.map_append, List.map_singleton] at g1
    exact vp c (vp (by omega) (vp (by omega) (vp (by omega) g1)))
   ·
    refine ⟨acc ++ [x], vc ?_, by simp; omega, by rw [szs_snoc]; omega⟩
    simp only [spec_l5Lines.l0, size_ofL, List.length_map]
    exact vn c (vp (by omega) (vq (vs _) (by simp)))
 unfold spec_l5Lines.f
 exact key s.length s [] (Nat.le_refl _) (by simp) (by simp [szs])
/-! Base 64: what it gives is bounded. -/
theorem and63 (x : Int) (h0 : 0 ≤ x) (h1 : x ≤ 1000000000000) : 0 ≤ Go.bits .and .i64 x 63 ∧ Go.bits .and .i64 x 63 ≤ 63 := by
 obtain ⟨a, rfl⟩ := Int.eq_ofNat_of_zero_le h0
 have h2 : (BitVec.ofInt 64 (a : Int)).toNat = a := by
  rw [BitVec.ofInt_natCast, BitVec.toNat_ofNat]; exact Nat.mod_eq_of_lt (by omega)
 have e : Go.bits .and .i64 (a : Int) 63 = ((a &&& 63 : Nat) : Int) := by
  show IntKind.i64.wrap ((BitVec.ofInt 64 (a : Int) &&& BitVec.ofInt 64 (63 : Int)).toNat : Int) = _
  have h3 : (BitVec.ofInt 64 (63 : Int)).toNat = 63 := by decide
  rw [BitVec.toNat_and, h2, h3, i64_w]
  have : a &&& 63 ≤ 63 := Nat.and_le_right
  exact wrap_id (by omega) (by omega)
 rw [e]
 have : a &&& 63 ≤ 63 := Nat.and_le_right
 omega
theorem shr_in (x y : Int) (h0 : 0 ≤ x) : 0 ≤ shr .i64 x y ∧ shr .i64 x y ≤ x := by
 unfold shr
 have hp : (0 : Int) < 2 ^ min y.toNat (IntKind.i64).bits := Int.pow_pos (by omega)
 exact ⟨Int.ediv_nonneg h0 (by omega), Int.ediv_le_self _ h0⟩
theorem l5Base_l1 (s : Str) (hs : s.length ≤ 1000) (i : Nat) (hi : i ≤ 1000) (x5 : Int) (h5 : 0 ≤ x5) (h6 : x5 ≤ 1000000000) : ∀ (j : Nat), j ≤ 4 → ∀ acc : Str, acc.length + j ≤ 1000000 →
  ∃ out : Str, out.length ≤ acc.length + j ∧ ∀ V, Ev (fun k => spec_l5Base.l0 k (ofL s) (ofL out) (wrap64 ((i : Int) + 3))) V → Ev (fun k => spec_l5Base.l1 k (ofL s) (ofL acc) (i : Int) x5 ((4 - j : Nat) : Int)) V := by
 intro j
 induction j with
 | zero =>
  intro _ acc ha
  refine ⟨acc, by omega, fun V hV => vc ?_⟩
  simp only [spec_l5Base.l1]
  exact vn (by omega) hV
 | succ j ih =>
  intro hj acc ha
  have w1 : Unit → wrap64 (((4 - (j + 1) : Nat) : Int) + 1) = ((4 - j : Nat) : Int) := fun _ => by rw [wrap_id (by omega) (by omega)]; omega
  have w2 : Unit → wrap64 ((i : Int) + ((4 - (j + 1) : Nat) : Int)) = (i : Int) + ((4 - (j + 1) : Nat) : Int) := fun _ => wrap_id (by omega) (by omega)
  by_cases c : (i : Int) + ((4 - (j + 1) : Nat) : Int) > (s.length : Int)
  ·
   obtain ⟨out, ho, hV⟩ := ih (by omega) (acc ++ [61]) (by simp; omega)
   simp only [List.length_append, List.length_cons, List.length_nil] at ho
   refine ⟨out, by omega, fun V h => vc ?_⟩
   have := hV V h
   rw [← ofL_append] at this
   simp only [spec_l5Base.l1, size_ofL, w1 (), w2 ()]
   clear w1 w2
   exact vp (by omega) (vp c (vp (by omega) this))
  ·
   have hsh := shr_in x5 (wrap64 (18 - wrap64 (6 * ((4 - (j + 1) : Nat) : Int)))) h5
   have hq := and63 _ hsh.1 (by omega)
   have hw : Unit → wrap64 (18 - wrap64 (6 * ((4 - (j + 1) : Nat) : Int))) = 18 - 6 * ((4 - (j + 1) : Nat) : Int) := fun _ => by
    rw [wrap_id (x := 6 * _) (by omega) (by omega), wrap_id (by omega) (by omega)]
   generalize hX : Go.bits .and .i64 (shr .i64 x5 (wrap64 (18 - wrap64 (6 * ((4 - (j + 1) : Nat) : Int))))) 63 = X at hq
   have w3 : Unit → wrap64 (X + 1) = X + 1 := fun _ => wrap_id (by omega) (by omega)
   obtain ⟨T, hT, hTs⟩ : ∃ T : Str, spec_l5Letters.f = some (ofL T) ∧ T.length = 64 := ⟨_, rfl, by decide⟩
   obtain ⟨out, ho, hV⟩ := ih (by omega) (acc ++ (T.drop X.toNat).take ((X + 1).toNat - X.toNat)) (by simp; omega)
   simp only [List.length_append, List.length_take] at ho
   refine ⟨out, by omega, fun V h => vc ?_⟩
   have := hV V h
   rw [← ofL_append] at this
   simp only [spec_l5Base.l1, hX, size_ofL, w1 (), w2 (), w3 ()]
   refine vp (by omega) (vn c (vp (by rw [hw ()]; omega) (ev_bind0 hT ?_)))
   simp only [size_ofL, extract_ofL]
   exact vp (by omega) (vp (by omega) (vp (by omega) (vp (by simp; omega) this)))
theorem bt_in (s : Str) (i : Nat) : 0 ≤ bt (ofL s) (i : Int) ∧ bt (ofL s) (i : Int) ≤ 255 := by
 unfold bt
 split
 ·
  rename_i h
  have := ((ofL s)[(i : Int).toNat]).toNat_lt
  omega
 ·
  omega
theorem l5Base_ev (s : Str) (hs : s.length ≤ 1000) : ∃ out : Str, Ev (fun k => spec_l5Base.f k (ofL s)) (ofL out) ∧ out.length ≤ 4 * s.length := by
 have key : ∀ (n i : Nat) (acc : Str), s.length ≤ i + n → i ≤ s.length + 3 → acc.length + 4 * n ≤ 4 * s.length → ∃ out : Str, Ev (fun k => spec_l5Base.l0 k (ofL s) (ofL acc) (i : Int)) (ofL out) ∧ out.length ≤ 4 * s.length := by
  intro n
  induction n with
  | zero =>
   intro i acc h h1 h2
   refine ⟨acc, vc ?_, by omega⟩
   simp only [spec_l5Base.l0, size_ofL]
   exact vn (by omega) (vs _)
  | succ n ih =>
   intro i acc h h1 h2
   by_cases c : (i : Int) < (s.length : Int)
   ·
    have w1 : Unit → wrap64 ((i : Int) + 1) = ((i + 1 : Nat) : Int) := fun _ => by rw [wrap_id (by omega) (by omega)]; omega
    have w2 : Unit → wrap64 ((i : Int) + 2) = ((i + 2 : Nat) : Int) := fun _ => by rw [wrap_id (by omega) (by omega)]; omega
    have w3 : Unit → wrap64 ((i : Int) + 3) = ((i + 3 : Nat) : Int) := fun _ => by rw [wrap_id (by omega) (by omega)]; omega
    have b0 := bt_in s i
    have b1 := bt_in s (i + 1)
    have b2 := bt_in s (i + 2)
    generalize hb0 : bt (ofL s) (i : Int) = B0 at b0
    generalize hb1 : bt (ofL s) ((i + 1 : Nat) : Int) = B1 at b1
    generalize hb2 : bt (ofL s) ((i + 2 : Nat) : Int) = B2 at b2
    have v0 : Unit → wrap64 (wrap64 B0 * 65536) = B0 * 65536 := fun _ => by rw [wrap_id (x := B0) (by omega) (by omega), wrap_id (by omega) (by omega)]
    have v1 : Unit → wrap64 (B0 * 65536 + wrap64 (wrap64 B1 * 256)) = B0 * 65536 + B1 * 256 := fun _ => by rw [wrap_id (x := B1) (by omega) (by omega), wrap_id (x := B1 * 256) (by omega) (by omega), wrap_id (by omega) (by omega)]
    have v2 : ∀ x : Int, 0 ≤ x → x ≤ 100000000 → wrap64 (x + wrap64 B2) = x + B2 := fun x _ _ => by rw [wrap_id (x := B2) (by omega) (by omega), wrap_id (by omega) (by omega)]
    have step : ∀ x : Int, 0 ≤ x → x ≤ 1000000000 → ∃ out : Str, Ev (fun k => spec_l5Base.j2 k (ofL s) (ofL acc) (i : Int) x) (ofL out) ∧ out.length ≤ 4 * s.length := by
     intro x x0 x1
     obtain ⟨o1, g1, g2⟩ := l5Base_l1 s hs i (by omega) x x0 x1 4 (Nat.le_refl _) acc (by omega)
     obtain ⟨out, g3, g4⟩ := ih (i + 3) o1 (by omega) (by omega) (by omega)
     refine ⟨out, vc ?_, g4⟩
     simp only [spec_l5Base.j2]
     rw [w3 ()] at g2
     exact g2 _ g3
    have step1 : ∀ x : Int, 0 ≤ x → x ≤ 100000000 → ∃ out : Str, Ev (fun k => spec_l5Base.j1 k (ofL s) (ofL acc) (i : Int) x) (ofL out) ∧ out.length ≤ 4 * s.length := by
     intro x x0 x1
     by_cases c2 : ((i + 2 : Nat) : Int) < (s.length : Int)
     ·
      obtain ⟨out, g3, g4⟩ := step (x + B2) (by omega) (by omega)
      refine ⟨out, vc ?_, g4⟩
      simp only [spec_l5Base.j1, size_ofL, w2 (), hb2, v2 x x0 x1]
      clear w1 w2 w3 v0 v1 v2
      exact vp c2 (vp (by omega) g3)
     ·
      obtain ⟨out, g3, g4⟩ := step x (by omega) (by omega)
      refine ⟨out, vc ?_, g4⟩
      simp only [spec_l5Base.j1, size_ofL, w2 ()]
      exact vn c2 g3
    by_cases c1 : ((i + 1 : Nat) : Int) < (s.length : Int)
    ·
     obtain ⟨out, g3, g4⟩ := step1 (B0 * 65536 + B1 * 256) (by omega) (by omega)
     refine ⟨out, vc ?_, g4⟩
     simp only [spec_l5Base.l0, size_ofL, w1 (), hb0, hb1, v0 (), v1 ()]
     clear w1 w2 w3 v0 v1 v2
     exact vp c (vp (by omega) (vp c1 (vp (by omega) g3)))
    ·
     obtain ⟨out, g3, g4⟩ := step1 (B0 * 65536) (by omega) (by omega)
     refine ⟨out, vc ?_, g4⟩
     simp only [spec_l5Base.l0, size_ofL, w1 (), hb0, v0 ()]
     clear w1 w2 w3 v0 v1 v2
     exact vp c (vp (by omega) (vn c1 g3))
   ·
    refine ⟨acc, vc ?_, by omega⟩
    simp only [spec_l5Base.l0, size_ofL]
    exact vn c (vs _)
 unfold spec_l5Base.f
 exact key s.length 0 [] (by omega) (by omega) (by simp)
theorem EncodeBase_ev (s : Str) (hs : s.length ≤ 1000) : ∃ (ls : List Str) (ok : Bool), Ev (fun k => spec_EncodeBase.f k (ofL s)) (ls.map ofL, ok) ∧ ls.length + szs ls ≤ 8001 := by
 unfold spec_EncodeBase.f
 rw [size_ofL]
 by_cases c : (s.length : Int) > 300
 ·
  exact ⟨[], false, vp c (vs _), by simp [szs]⟩
 ·
  obtain ⟨o, g1, g2⟩ := l5Base_ev s hs
  obtain ⟨ls, g3, g4, g5⟩ := l5Lines_ev o (by omega)
  exact ⟨ls, true, vn c (vb g1 (vb g3 (vs _))), by omega⟩
theorem l5Size_ev (ls : List Str) (h : ls.length + szs ls ≤ 100000) : ∃ n : Int, Ev (fun k => spec_l5Size.f k (ls.map ofL)) n := by
 have key : ∀ (r p : List Str) (acc : Nat), ls = p ++ r → acc = szs p + p.length → ∃ n : Int, Ev (fun k => spec_l5Size.l0 k (ls.map ofL) (acc : Int) (p.length : Int)) n := by
  intro r
  induction r with
  | nil =>
   intro p acc h1 _
   have hz : ls.length = p.length := by rw [h1]; simp
   refine ⟨acc, vc ?_⟩
   simp only [spec_l5Size.l0, List.length_map]
   exact vn (by omega) (vs _)
  | cons c r ih =>
   intro p acc h1 h2
   have hz : ls.length = p.length + (r.length + 1) := by rw [h1]; simp
   have hsz : szs ls = szs p + (c.length + szs r) := by rw [h1, szs_append]; rfl
   have e1 := rdOf_ofL h1
   have w1 : Unit → wrap64 ((p.length : Int) + 1) = (((p ++ [c]).length : Nat) : Int) := fun _ => by rw [wrap_id (by omega) (by omega)]; simp
   have w2 : Unit → wrap64 (wrap64 ((acc : Int) + (c.length : Int)) + 1) = ((acc + c.length + 1 : Nat) : Int) := fun _ => by rw [wrap_id (x := (acc : Int) + _) (by omega) (by omega), wrap_id (by omega) (by omega)]; omega
   obtain ⟨n, g⟩ := ih (p ++ [c]) (acc + c.length + 1) (by rw [h1]; simp) (by rw [szs_snoc]; simp; omega)
   refine ⟨n, vc ?_⟩
   simp only [spec_l5Size.l0, List.length_map, e1, size_ofL, w1 (), w2 ()]
   clear w1 w2
   exact vp (by omega) (vp (by omega) g)
 unfold spec_l5Size.f
 exact key ls [] 0 rfl rfl
theorem BestCode_ev (s : Str) (hs : s.length ≤ 1000) : ∃ (n : Int) (ok : Bool), Ev (fun k => spec_BestCode.f k (ofL s)) (n, ok) ∧ 0 ≤ n ∧ n ≤ 2 := by
 unfold spec_BestCode.f
 rw [size_ofL]
 by_cases c : (s.length : Int) > 300
 ·
  exact ⟨0, false, vp c (vs _), by omega, by omega⟩
 obtain ⟨l1, b1, g1, h1⟩ := l5Plain_ev s hs
 by_cases c1 : b1 = true
 ·
  exact ⟨0, true, vn c (vb g1 (vp c1 (vs _))), by omega, by omega⟩
 obtain ⟨l2, b2, g2, h2⟩ := EncodeQuoted_ev s hs
 obtain ⟨l3, b3, g3, h3⟩ := EncodeBase_ev s hs
 obtain ⟨n, g4⟩ := l5Size_ev l2 (by omega)
 obtain ⟨m, g5⟩ := l5Size_ev l3 (by omega)
 by_cases c2 : n ≤ m
 ·
  exact ⟨1, true, vn c (vb g1 (vn c1 (vb g2 (vb g3 (vb g4 (vb g5 (vp c2 (vs _)))))))), by omega, by omega⟩
 ·
  exact ⟨2, true, vn c (vb g1 (vn c1 (vb g2 (vb g3 (vb g4 (vb g5 (vn c2 (vs _)))))))), by omega, by omega⟩
theorem EncodeBytes_ev (s : Str) (hs : s.length ≤ 1000) (n : Int) : ∃ (ls : List Str) (ok : Bool), Ev (fun k => spec_EncodeBytes.f k (ofL s) n) (ls.map ofL, ok) ∧ ls.length + szs ls ≤ 8001 := by
 obtain ⟨l1, b1, g1, h1⟩ := l5Plain_ev s hs
 obtain ⟨l2, b2, g2, h2⟩ := EncodeQuoted_ev s hs
 obtain ⟨l3, b3, g3, h3⟩ := EncodeBase_ev s hs
 unfold spec_EncodeBytes.f
 by_cases c0 : n = 0
 ·
  by_cases c1 : b1 = true
  ·
   exact ⟨l1, true, vp c0 (vb g1 (vp c1 (vs _))), by omega⟩
  ·
   exact ⟨[], false, vp c0 (vb g1 (vn c1 (vs _))), by simp [szs]⟩
 by_cases c1 : n = 1
 ·
  exact ⟨l2, b2, vn c0 (vp c1 (vb g2 (vs _))), by omega⟩
 by_cases c2 : n = 2
 ·
  exact ⟨l3, b3, vn c0 (vn c1 (vp c2 (vb g3 (vs _)))), by omega⟩
 ·
  exact ⟨[], false, vn c0 (vn c1 (vn c2 (vs _))), by simp [szs]⟩
theorem not_eq_pair (a b c d : Str) : (!(((ofL a).toList) == ((ofL b).toList)) || (!(((ofL c).toList) == ((ofL d).toList)))) = true ↔ ¬ ((a, c) = (b, d)) := by
 simp only [toList_ofL, Prod.mk.injEq]
 by_cases h1 : a = b <;> by_cases h2 : c = d <;> simp [h1, h2]
theorem spec_FieldsSame_ev (a b : List (Str × Str)) (hn : a.length ≤ 1000000000000) : Ev (fun k => spec_FieldsSame.f k (a.map e76) (b.map e76)) (decide (a = b)) := by
 unfold spec_FieldsSame.f
 simp only [List.length_map]
 by_cases hl : a.length = b.length
 ·
  refine vp (by omega) ?_
  refine vq (run_start (xs := a) (F := fun k (_ : List (Str × Str)) i => spec_FieldsSame.l0 k (a.map e76) (b.map e76) i) (st := stp) (fin := fun _ => true) (s := b) (fun p r => ∃ q, b = q ++ r ∧ q.length = p.length) ⟨[], rfl, rfl⟩ ?_ ?_) (same_run a b hl)
  ·
   rintro p c r s h ⟨q, hq, hql⟩
   have hz := len_mid h
   have e1 := rd76_mid h
   have w1 : wrap64 ((p.length : Int) + 1) = (p.length : Int) + 1 := wrap_id (by omega) (by omega)
   cases s with
   | nil => rw [hq] at hl; simp at hl; omega
   | cons d s =>
    have e2 := rd76_mid hq
    rw [hql] at e2
    have e3 := not_eq_pair c.1 d.1 c.2 d.2
    simp only [spec_FieldsSame.l0, e1, e2, w1, List.length_map, e76, e3, stp]
    clear w1 e1 e2 e3
    by_cases e : c = d
    ·
     simp only [if_pos e]
     refine ⟨(fun v hv => by cases hv), fun s' hs => ⟨?_, fun v hv => ?_⟩⟩
     ·
      cases hs; exact ⟨q ++ [d], by rw [hq]; simp, by simp [hql]⟩
     ·
      exact vp (by omega) (vp (by omega) (vp (by omega) (vn (by simp [e]) hv)))
    ·
     simp only [if_neg e]
     refine ⟨(fun v hv => ?_), fun s' hs => by cases hs⟩
     cases hv
     exact vp (by omega) (vp (by omega) (vp (by omega) (vp e (vs _))))
  ·
   intro s _
   simp only [spec_FieldsSame.l0, List.length_map]
   exact vn (by omega) (vs _)
 ·
  refine vn (by omega) (vq (vs _) ?_)
  rw [eq_comm]; exact decide_eq_false (fun h => hl (by rw [h]))
theorem impl_FieldsSame_ev (a b : List (Str × Str)) (hn : a.length ≤ 1000000000000) : Ev (fun k => impl_Field_62.f k (a.map e76) (b.map e76)) (decide (a = b)) := by
 unfold impl_Field_62.f
 simp only [List.length_map]
 by_cases hl : a.length = b.length
 ·
  refine vp (by omega) ?_
  refine vq (run_start (xs := a) (F := fun k (_ : List (Str × Str)) i => impl_Field_62.l0 k (a.map e76) (b.map e76) (a.length : Int) i) (st := stp) (fin := fun _ => true) (s := b) (fun p r => ∃ q, b = q ++ r ∧ q.length = p.length) ⟨[], rfl, rfl⟩ ?_ ?_) (same_run a b hl)
  ·
   rintro p c r s h ⟨q, hq, hql⟩
   have hz := len_mid h
   have e1 := rd76_mid h
   have w1 : wrap64 ((p.length : Int) + 1) = (p.length : Int) + 1 := wrap_id (by omega) (by omega)
   cases s with
   | nil => rw [hq] at hl; simp at hl; omega
   | cons d s =>
    have e2 := rd76_mid hq
    rw [hql] at e2
    have e3 := not_eq_pair c.1 d.1 c.2 d.2
    simp only [impl_Field_62.l0, e1, e2, w1, List.length_map, e76, e3, stp]
    clear w1 e1 e2 e3
    by_cases e : c = d
    ·
     simp only [if_pos e]
     refine ⟨(fun v hv => by cases hv), fun s' hs => ⟨?_, fun v hv => ?_⟩⟩
     ·
      cases hs; exact ⟨q ++ [d], by rw [hq]; simp, by simp [hql]⟩
     ·
      exact vp (by omega) (vp (by omega) (vp (by omega) (vp (by omega) (vn (by simp [e]) hv))))
    ·
     simp only [if_neg e]
     refine ⟨(fun v hv => ?_), fun s' hs => by cases hs⟩
     cases hv
     exact vp (by omega) (vp (by omega) (vp (by omega) (vp (by omega) (vp e (vs _)))))
  ·
   intro s _
   simp only [impl_Field_62.l0, List.length_map]
   exact vn (by omega) (vs _)
 ·
  refine vn (by omega) (vq (vs _) ?_)
  rw [eq_comm]; exact decide_eq_false (fun h => hl (by rw [h]))
theorem eqS_ev (a b : List Str) (hn : a.length ≤ 1000000000000) : Ev (fun k => slices_Equal_string_string.f k (a.map ofL) (b.map ofL)) (decide (a = b)) := by
 unfold slices_Equal_string_string.f
 simp only [List.length_map]
 by_cases hl : a.length = b.length
 ·
  refine vp (by omega) ?_
  refine vq (run_start (xs := a) (F := fun k (_ : List Str) i => slices_Equal_string_string.l0 k (a.map ofL) (b.map ofL) (a.length : Int) i) (st := stp) (fin := fun _ => true) (s := b) (fun p r => ∃ q, b = q ++ r ∧ q.length = p.length) ⟨[], rfl, rfl⟩ ?_ ?_) (same_run a b hl)
  ·
   rintro p c r s h ⟨q, hq, hql⟩
   have hz := len_mid h
   have e1 := rdOf_ofL h
   have w1 : wrap64 ((p.length : Int) + 1) = (p.length : Int) + 1 := wrap_id (by omega) (by omega)
   cases s with
   | nil => rw [hq] at hl; simp at hl; omega
   | cons d s =>
    have e2 := rdOf_ofL hq
    rw [hql] at e2
    simp only [slices_Equal_string_string.l0, e1, e2, w1, List.length_map, toList_ofL, stp]
    clear w1 e1 e2
    by_cases e : c = d
    ·
     simp only [if_pos e]
     refine ⟨(fun v hv => by cases hv), fun s' hs => ⟨?_, fun v hv => ?_⟩⟩
     ·
      cases hs; exact ⟨q ++ [d], by rw [hq]; simp, by simp [hql]⟩
     ·
      exact vp (by omega) (vp (by omega) (vp (by omega) (vp (by omega) hv)))
    ·
     simp only [if_neg e]
     refine ⟨(fun v hv => ?_), fun s' hs => by cases hs⟩
     cases hv
     exact vp (by omega) (vp (by omega) (vp (by omega) (vp (by omega) (vs _))))
  ·
   intro s _
   simp only [slices_Equal_string_string.l0, List.length_map]
   exact vn (by omega) (vs _)
 ·
  refine vn (by omega) (vq (vs _) ?_)
  rw [eq_comm]; exact decide_eq_false (fun h => hl (by rw [h]))
theorem impl_kids (k l : List Pt) (hn : k.length ≤ 1000000000000) (ih : ∀ p ∈ k, ∀ q, Ev (fun n => impl_PartSame.f n (e32 p).f0 (e32 p).f1 (e32 p).f2 (e32 q).f0 (e32 q).f1 (e32 q).f2) (smt p q)) :
  ∀ (r s p q : List Pt), k = p ++ r → l = q ++ s → q.length = p.length → r.length = s.length → Ev (fun n => impl_Part_PartSame.l0 n (l.map e32) (k.map e32) (k.length : Int) (p.length : Int)) (smts r s) := by
 intro r
 induction r with
 | nil =>
  intro s p q h1 h2 h3 h4
  have hz : k.length = p.length := by rw [h1, List.append_nil]
  refine vc ?_
  simp only [impl_Part_PartSame.l0, smts]
  exact vn (by omega) (vs _)
 | cons c r ihr =>
  intro s p q h1 h2 h3 h4
  cases s with
  | nil => simp at h4
  | cons d s =>
   have hz := len_mid h1
   have hz2 := len_mid h2
   have e1 := rd32_mid h1
   have e2 := rd32_mid h2
   rw [h3] at e2
   have w1 : wrap64 ((p.length : Int) + 1) = (p.length : Int) + 1 := wrap_id (by omega) (by omega)
   have hk := ih c (by rw [h1]; simp) d
   have hr := ihr s (p ++ [c]) (q ++ [d]) (by rw [h1]; simp) (by rw [h2]; simp) (by simp [h3]) (by simpa using h4)
   rw [len_snoc] at hr
   refine vc ?_
   simp only [impl_Part_PartSame.l0, e1, e2, w1, List.length_map, smts]
   clear w1 e1 e2
   refine vp (by omega) (vp (by omega) (vp (by omega) (vp (by omega) (vb hk ?_))))
   cases smt c d with
   | true => exact vp rfl hr
   | false => exact vn (by simp) (vs _)
theorem impl_PartSame_ev (p : Pt) : ∀ q, szt p ≤ 1000000000000 → Ev (fun n => impl_PartSame.f n (e32 p).f0 (e32 p).f1 (e32 p).f2 (e32 q).f0 (e32 q).f1 (e32 q).f2) (smt p q) := by
 refine pt_ind (P := fun p => ∀ q, szt p ≤ 1000000000000 → Ev (fun n => impl_PartSame.f n (e32 p).f0 (e32 p).f1 (e32 p).f2 (e32 q).f0 (e32 q).f1 (e32 q).f2) (smt p q)) (fun f b k ih q hs => ?_) p
 cases q with
 | mk g c l =>
  rw [szt] at hs
  simp only [e32_mk]
  refine vc ?_
  simp only [impl_PartSame.f, List.length_map]
  rw [smt]
  refine vb (impl_FieldsSame_ev f g (by omega)) ?_
  by_cases h1 : f = g
  ·
   refine vp (by simp [h1]) (vb (eqS_ev b c (by omega)) ?_)
   by_cases h2 : b = c
   ·
    refine vp (by simp [h2]) ?_
    by_cases h3 : k.length = l.length
    ·
     refine vb (vp (by omega) (impl_kids k l (by omega) (fun p hp q => ih p hp q (by have := szts_mem hp; omega)) k l [] [] rfl rfl rfl h3)) (vq (vs _) ?_)
     simp [h1, h2, h3]
    ·
     refine vb (vn (by omega) (vs _)) (vq (vs _) ?_)
     simp [h3]
   ·
    exact vn (by simp [h2]) (vq (vs _) (by simp [h2]))
  ·
   exact vn (by simp [h1]) (vq (vs _) (by simp [h1]))
theorem l8_kids (f g : List (Str × Str)) (b c : List Str) (k l : List Pt) (hn : k.length ≤ 1000000000000) (ih : ∀ p ∈ k, ∀ q, Ev (fun n => spec_l8Same.f n (e32 p).f0 (e32 p).f1 (e32 p).f2 (e32 q).f0 (e32 q).f1 (e32 q).f2) (smt p q)) :
  ∀ (r s p q : List Pt), k = p ++ r → l = q ++ s → q.length = p.length → r.length = s.length → Ev (fun n => spec_l8Same.l1 n (p.length : Int) (f.map e76) (b.map ofL) (k.map e32) (g.map e76) (c.map ofL) (l.map e32)) (smts r s) := by
 intro r
 induction r with
 | nil =>
  intro s p q h1 h2 h3 h4
  have hz : k.length = p.length := by rw [h1, List.append_nil]
  refine vc ?_
  simp only [spec_l8Same.l1, smts, List.length_map]
  exact vn (by omega) (vs _)
 | cons d r ihr =>
  intro s p q h1 h2 h3 h4
  cases s with
  | nil => simp at h4
  | cons t s =>
   have hz := len_mid h1
   have hz2 := len_mid h2
   have e1 := rd32_mid h1
   have e2 := rd32_mid h2
   rw [h3] at e2
   have w1 : wrap64 ((p.length : Int) + 1) = (p.length : Int) + 1 := wrap_id (by omega) (by omega)
   have hk := ih d (by rw [h1]; simp) t
   have hr := ihr s (p ++ [d]) (q ++ [t]) (by rw [h1]; simp) (by rw [h2]; simp) (by simp [h3]) (by simpa using h4)
   rw [len_snoc] at hr
   refine vc ?_
   simp only [spec_l8Same.l1, e1, e2, w1, List.length_map, smts]
   clear w1 e1 e2
   refine vp (by omega) (vp (by omega) (vp (by omega) (vb hk ?_)))
   cases smt d t with
   | true => exact vp rfl hr
   | false => exact vn (by simp) (vs _)
theorem l8_body (f g : List (Str × Str)) (b c : List Str) (k l : List Pt) (hn : b.length ≤ 1000000000000) (hl : b.length = c.length) {v : Bool} (hk : Ev (fun n => spec_l8Same.l1 n 0 (f.map e76) (b.map ofL) (k.map e32) (g.map e76) (c.map ofL) (l.map e32)) v) :
  Ev (fun n => spec_l8Same.l0 n 0 (f.map e76) (b.map ofL) (k.map e32) (g.map e76) (c.map ofL) (l.map e32)) (decide (b = c) && v) := by
 have key : ∀ (r s p q : List Str), b = p ++ r → c = q ++ s → q.length = p.length → r.length = s.length → Ev (fun n => spec_l8Same.l0 n (p.length : Int) (f.map e76) (b.map ofL) (k.map e32) (g.map e76) (c.map ofL) (l.map e32)) (decide (r = s) && v) := by
  intro r
  induction r with
  | nil =>
   intro s p q h1 h2 h3 h4
   have hz : b.length = p.length := by rw [h1, List.append_nil]
   cases s with
   | cons d s => simp at h4
   | nil =>
    refine vc ?_
    simp only [spec_l8Same.l0, List.length_map]
    exact vn (by omega) (vq hk (by simp))
  | cons d r ihr =>
   intro s p q h1 h2 h3 h4
   cases s with
   | nil => simp at h4
   | cons t s =>
    have hz := len_mid h1
    have hz2 := len_mid h2
    have e1 := rdOf_ofL h1
    have e2 := rdOf_ofL h2
    rw [h3] at e2
    have w1 : wrap64 ((p.length : Int) + 1) = (p.length : Int) + 1 := wrap_id (by omega) (by omega)
    have hr := ihr s (p ++ [d]) (q ++ [t]) (by rw [h1]; simp) (by rw [h2]; simp) (by simp [h3]) (by simpa using h4)
    rw [len_snoc] at hr
    refine vc ?_
    simp only [spec_l8Same.l0, e1, e2, w1, List.length_map, toList_ofL]
    clear w1 e1 e2
    refine vp (by omega) (vp (by omega) (vp (by omega) ?_))
    by_cases e : d = t
    ·
     exact vp e (vq hr (by simp [e]))
    ·
     exact vn e (vq (vs _) (by simp [e]))
 exact key b c [] [] rfl rfl rfl hl
theorem spec_l8Same_ev (p : Pt) : ∀ q, szt p ≤ 1000000000000 → Ev (fun n => spec_l8Same.f n (e32 p).f0 (e32 p).f1 (e32 p).f2 (e32 q).f0 (e32 q).f1 (e32 q).f2) (smt p q) := by
 refine pt_ind (P := fun p => ∀ q, szt p ≤ 1000000000000 → Ev (fun n => spec_l8Same.f n (e32 p).f0 (e32 p).f1 (e32 p).f2 (e32 q).f0 (e32 q).f1 (e32 q).f2) (smt p q)) (fun f b k ih q hs => ?_) p
 cases q with
 | mk g c l =>
  rw [szt] at hs
  simp only [e32_mk]
  have jt : Ev (fun n => spec_l8Same.j0 n true (f.map e76) (b.map ofL) (k.map e32) (g.map e76) (c.map ofL) (l.map e32)) false := by
   refine vc ?_
   simp only [spec_l8Same.j0]
   exact vp (by simp) (vs _)
  refine vc ?_
  simp only [spec_l8Same.f, List.length_map]
  rw [smt]
  refine vb (spec_FieldsSame_ev f g (by omega)) ?_
  by_cases h1 : f = g
  ·
   refine vp (by simp [h1]) ?_
   by_cases h2 : b.length = c.length
   ·
    refine vp (by omega) ?_
    by_cases h3 : k.length = l.length
    ·
     have hk := l8_kids f g b c k l (by omega) (fun p hp q => ih p hp q (by have := szts_mem hp; omega)) k l [] [] rfl rfl rfl h3
     have hb := l8_body f g b c k l (by omega) h2 hk
     rw [show ((k.length : Int) != (l.length : Int)) = false by simp [h3]]
     refine vc ?_
     simp only [spec_l8Same.j0]
     exact vn (by simp) (vq hb (by simp [h1, h3]))
    ·
     rw [show ((k.length : Int) != (l.length : Int)) = true by simp; omega]
     exact vq jt (by simp [h3])
   ·
    exact vn (by omega) (vq jt (by
     have : b ≠ c := fun e => h2 (by rw [e])
     simp [this]))
  ·
   exact vn (by simp [h1]) (vq jt (by simp [h1]))
theorem spec_PartSame_ev (p q : Pt) (hs : szt p ≤ 1000000000000) : Ev (fun n => spec_PartSame.f n (e32 p).f0 (e32 p).f1 (e32 p).f2 (e32 q).f0 (e32 q).f1 (e32 q).f2) (smt p q) := by
 unfold spec_PartSame.f
 exact vb (spec_l8Same_ev p q hs) (vs _)
/-! Parts that are drawn: each is some part of a bounded size. -/
def sz3 (f : List (Str × Str)) (b : List Str) (k : List Pt) : Nat := f.length + szp f + b.length + szs b + k.length + szts k
theorem eta32 (x : S28) : (⟨x.f0, x.f1, x.f2⟩ : S28) = x := by cases x; rfl
theorem szts_append (a b : List Pt) : szts (a ++ b) = szts a + szts b := by
 induction a with
 | nil => simp [szts]
 | cons c a ih => simp only [List.cons_append, szts, ih]; omega
def szR : List S69 → Nat
 | [] => 0
 | x :: r => x.f0.size + x.f1.size + szR r
theorem fields_of (R : List S69) : ∃ f : List (Str × Str), R = f.map e76 ∧ szp f = szR R ∧ f.length = R.length := by
 induction R with
 | nil => exact ⟨[], rfl, rfl, rfl⟩
 | cons x r ih =>
  obtain ⟨f, h1, h2, h3⟩ := ih
  refine ⟨(L x.f0, L x.f1) :: f, by rw [List.map_cons, ← h1]; rfl, by simp only [szp, szR, h2, size_L], by simp [h3]⟩
theorem of_b (l : List Int) (p : Int) (ws : List ByteArray) (M : Nat) (hl : IsB l) (h0 : 0 ≤ p) (h1 : p ≤ 1000000000) (hn : 1 ≤ ws.length) (hn2 : ws.length ≤ 1000000) (hM : ∀ x ∈ ws, x.size ≤ M) :
  ∃ s : Str, Ev (fun k => spec_l13Rd_of.f k l p ws) (ofL s, p + 1) ∧ s.length ≤ M := by
 obtain ⟨v, h, hm⟩ := of_ev l p ws hl h0 h1 hn hn2
 exact ⟨L v, h, by rw [← size_L]; exact hM v hm⟩
theorem OwnPart_ev (p : Pt) : szt p ≤ 1000000000 → Ev (fun n => spec_l13OwnPart.f n (e32 p).f0 (e32 p).f1 (e32 p).f2) ((e32 p).f0, (e32 p).f1, (e32 p).f2) := by
 refine pt_ind (P := fun p => szt p ≤ 1000000000 → Ev (fun n => spec_l13OwnPart.f n (e32 p).f0 (e32 p).f1 (e32 p).f2) ((e32 p).f0, (e32 p).f1, (e32 p).f2)) ?_ p
 intro f b k ih hs
 rw [szt] at hs
 simp only [e32_mk]
 have key : ∀ (r q : List Pt), k = q ++ r → Ev (fun n => spec_l13OwnListPart.l0 n (q.map e32) (k.map e32) (k.length : Int) (q.length : Int)) (k.map e32) := by
  intro r
  induction r with
  | nil =>
   intro q h
   have hz : k.length = q.length := by rw [h]; simp
   refine vc ?_
   simp only [spec_l13OwnListPart.l0]
   exact vn (by omega) (vq (vs _) (by rw [h, List.append_nil]))
  | cons c r ihr =>
   intro q h
   have hz : k.length = q.length + (r.length + 1) := by rw [h]; simp
   have e1 := rd32_mid h
   have hm : c ∈ k := by rw [h]; simp
   have hc := szts_mem hm
   have g := ih c hm (by omega)
   have w1 : Unit → wrap64 ((q.length : Int) + 1) = (((q ++ [c]).length : Nat) : Int) := fun _ => by rw [wrap_id (by omega) (by omega)]; simp
   have g2 := ihr (q ++ [c]) (by rw [h]; simp)
   rw [List.map_append, List.map_singleton] at g2
   refine vc ?_
   simp only [spec_l13OwnListPart.l0, List.length_map, e1, w1 ()]
   refine vp (by omega) (vp (by omega) (vp (by omega) (vb g ?_)))
   simp only [eta32]
   exact vp (by omega) g2
 have k0 := key k [] rfl
 refine vc ?_
 simp only [spec_l13OwnPart.f, List.length_map]
 refine ev_bind0 rfl (vp (by simp; omega) (ev_bind0 rfl (vp (by simp; omega) (vb k0 (vq (vs _) (by simp))))))
theorem l8Copy_ev (p : Pt) : szt p ≤ 1000000000 → Ev (fun n => spec_l8Copy.f n (e32 p).f0 (e32 p).f1 (e32 p).f2) ((e32 p).f0, (e32 p).f1, (e32 p).f2) := by
 refine pt_ind (P := fun p => szt p ≤ 1000000000 → Ev (fun n => spec_l8Copy.f n (e32 p).f0 (e32 p).f1 (e32 p).f2) ((e32 p).f0, (e32 p).f1, (e32 p).f2)) ?_ p
 intro f b k ih hs
 rw [szt] at hs
 simp only [e32_mk]
 have key : ∀ (r q : List Pt), k = q ++ r → Ev (fun n => spec_l8Copy.l0 n (q.length : Int) (f.map e76) (b.map ofL) (k.map e32) (f.map e76) (b.map ofL) (q.map e32)) (f.map e76, b.map ofL, k.map e32) := by
  intro r
  induction r with
  | nil =>
   intro q h
   have hz : k.length = q.length := by rw [h]; simp
   refine vc ?_
   simp only [spec_l8Copy.l0, List.length_map]
   exact vn (by omega) (vq (vs _) (by rw [h, List.append_nil]))
  | cons c r ihr =>
   intro q h
   have hz : k.length = q.length + (r.length + 1) := by rw [h]; simp
   have e1 := rd32_mid h
   have hm : c ∈ k := by rw [h]; simp
   have hc := szts_mem hm
   have g := ih c hm (by omega)
   have w1 : Unit → wrap64 ((q.length : Int) + 1) = (((q ++ [c]).length : Nat) : Int) := fun _ => by rw [wrap_id (by omega) (by omega)]; simp
   have g2 := ihr (q ++ [c]) (by rw [h]; simp)
   rw [List.map_append, List.map_singleton] at g2
   refine vc ?_
   simp only [spec_l8Copy.l0, List.length_map, e1, w1 ()]
   refine vp (by omega) (vp (by omega) (vb g ?_))
   simp only [eta32]
   exact vp (by omega) g2
 have k0 := key k [] rfl
 refine vc ?_
 simp only [spec_l8Copy.f, List.length_map]
 exact ev_bind0 rfl (vp (by simp; omega) (ev_bind0 rfl (vp (by simp; omega) k0)))
theorem RawMakeText_ev (n s : Str) (hn : n.length ≤ 1000) (hs : s.length ≤ 1000) : ∃ (f : List (Str × Str)) (b : List Str) (ok : Bool), Ev (fun k => spec_l8RawMakeText.f k (ofL n) (ofL s)) (f.map e76, b.map ofL, ([] : List S28), ok) ∧ sz3 f b [] ≤ 19000 := by
 obtain ⟨u, o1, g1, h1⟩ := spec_EncodeName_ev n (by omega)
 obtain ⟨c, o2, g2, h2, h3⟩ := BestCode_ev s hs
 obtain ⟨ls, o3, g3, h4⟩ := EncodeBytes_ev s hs c
 have hv := spec_FieldValid_ev ([83, 117, 98, 106, 101, 99, 116], u) (by simp) (by show u.length ≤ _; omega)
 have hb := spec_l8Body_ev ls (fun x hx => by have := szs_mem hx; omega) (by omega)
 have bad : sz3 [] [] [] ≤ 19000 := by decide
 unfold spec_l8RawMakeText.f
 by_cases c1 : o1 = true
 ·
  by_cases c2 : o2 = true
  ·
   by_cases c3 : o3 = true
   ·
    by_cases c4 : fv ([83, 117, 98, 106, 101, 99, 116], u) = true
    ·
     by_cases c5 : tbs ls = true
     ·
      have fin : ∀ v : ByteArray, v.size ≤ 16 → ∃ f : List (Str × Str), ([(⟨(⟨#[83, 117, 98, 106, 101, 99, 116]⟩ : ByteArray), ofL u⟩ : S69), (⟨(⟨#[67, 111, 110, 116, 101, 110, 116, 45, 84, 121, 112, 101]⟩ : ByteArray), (⟨#[116, 101, 120, 116, 47, 112, 108, 97, 105, 110, 59, 32, 99, 104, 97, 114, 115, 101, 116, 61, 117, 116, 102, 45, 56]⟩ : ByteArray)⟩ : S69), (⟨(⟨#[67, 111, 110, 116, 101, 110, 116, 45, 84, 114, 97, 110, 115, 102, 101, 114, 45, 69, 110, 99, 111, 100, 105, 110, 103]⟩ : ByteArray), v⟩ : S69)] : List S69) = f.map e76 ∧ sz3 f ls [] ≤ 19000 := by
       intro v hv
       obtain ⟨f, k1, k2, k3⟩ := fields_of ([(⟨(⟨#[83, 117, 98, 106, 101, 99, 116]⟩ : ByteArray), ofL u⟩ : S69), (⟨(⟨#[67, 111, 110, 116, 101, 110, 116, 45, 84, 121, 112, 101]⟩ : ByteArray), (⟨#[116, 101, 120, 116, 47, 112, 108, 97, 105, 110, 59, 32, 99, 104, 97, 114, 115, 101, 116, 61, 117, 116, 102, 45, 56]⟩ : ByteArray)⟩ : S69), (⟨(⟨#[67, 111, 110, 116, 101, 110, 116, 45, 84, 114, 97, 110, 115, 102, 101, 114, 45, 69, 110, 99, 111, 100, 105, 110, 103]⟩ : ByteArray), v⟩ : S69)])
       refine ⟨f, k1, ?_⟩
       have e : szp f = 7 + u.length + (12 + 25 + (25 + v.size + 0)) := by rw [k2]; simp only [szR, size_ofL]; rfl
       have e2 : f.length = 3 := k3
       unfold sz3
       simp only [szts, List.length_nil]
       omega
      have hc : c = 0 ∨ c = 1 ∨ c = 2 := by omega
      obtain ⟨v, hv1, hv2⟩ : ∃ v, rdOf ByteArray.empty ([(⟨#[55, 98, 105, 116]⟩ : ByteArray), (⟨#[113, 117, 111, 116, 101, 100, 45, 112, 114, 105, 110, 116, 97, 98, 108, 101]⟩ : ByteArray), (⟨#[98, 97, 115, 101, 54, 52]⟩ : ByteArray)] : List ByteArray) c = v ∧ v.size ≤ 16 := by
       rcases hc with rfl | rfl | rfl
       ·
        exact ⟨_, rfl, by decide⟩
       ·
        exact ⟨_, rfl, by decide⟩
       ·
        exact ⟨_, rfl, by decide⟩
      obtain ⟨f, k1, k2⟩ := fin v hv2
      refine ⟨f, ls, true, vb g1 (vb g2 (vb g3 (vp c1 (vp c2 (vp c3 (vb hv (vp c4 (vb hb (vp c5 (ev_bind0 rfl (vp h2 (vp ?_ ?_)))))))))))), k2⟩
      ·
       show c < ((3 : Nat) : Int)
       omega
      ·
       refine vq (vs _) ?_
       rw [← k1, hv1]
     ·
      exact ⟨[], [], false, vb g1 (vb g2 (vb g3 (vp c1 (vp c2 (vp c3 (vb hv (vp c4 (vb hb (vn c5 (vs _)))))))))), bad⟩
    ·
     exact ⟨[], [], false, vb g1 (vb g2 (vb g3 (vp c1 (vp c2 (vp c3 (vb hv (vn c4 (vs _)))))))), bad⟩
   ·
    exact ⟨[], [], false, vb g1 (vb g2 (vb g3 (vp c1 (vp c2 (vn c3 (vs _)))))), bad⟩
  ·
   exact ⟨[], [], false, vb g1 (vb g2 (vb g3 (vp c1 (vn c2 (vs _))))), bad⟩
 ·
  exact ⟨[], [], false, vb g1 (vb g2 (vb g3 (vn c1 (vs _)))), bad⟩
theorem MakeText_ev (n s : Str) (hn : n.length ≤ 1000) (hs : s.length ≤ 1000) : ∃ (f : List (Str × Str)) (b : List Str) (ok : Bool), Ev (fun k => spec_MakeText.f k (ofL n) (ofL s)) (f.map e76, b.map ofL, ([] : List S28), ok) ∧ sz3 f b [] ≤ 19000 := by
 obtain ⟨f, b, ok, g1, h1⟩ := RawMakeText_ev n s hn hs
 have g2 := OwnPart_ev (.mk f b []) (by rw [szt]; unfold sz3 at h1; omega)
 rw [e32_mk] at g2
 refine ⟨f, b, ok, ?_, h1⟩
 unfold spec_MakeText.f
 exact vb g1 (vb g2 (vs _))
theorem l5Draw_l1 (l : List Int) (q : Int) : ∀ (n : Nat) (s : Str), 301 ≤ s.length + 10 * n → s.length ≤ 1000 → ∃ t : Str, Ev (fun k => spec_l5Draw.l1 k (ofL s) l q) (ofL t, q) ∧ t.length ≤ 1000 := by
 intro n
 induction n with
 | zero =>
  intro s h h1
  refine ⟨s, vc ?_, h1⟩
  simp only [spec_l5Draw.l1, size_ofL]
  exact vn (by omega) (vs _)
 | succ n ih =>
  intro s h h1
  by_cases c : (s.length : Int) ≤ 300
  ·
   obtain ⟨t, g, g2⟩ := ih (s ++ [48, 49, 50, 51, 52, 53, 54, 55, 56, 57]) (by simp; omega) (by simp; omega)
   rw [← ofL_append] at g
   refine ⟨t, vc ?_, g2⟩
   simp only [spec_l5Draw.l1, size_ofL]
   exact vp c (vp (by omega) g)
  ·
   refine ⟨s, vc ?_, h1⟩
   simp only [spec_l5Draw.l1, size_ofL]
   exact vn c (vs _)
theorem l5Draw_ev (l : List Int) (hl : IsB l) (p : Int) (h0 : 0 ≤ p) (h1 : p ≤ 100000000) : ∃ (s : Str) (q : Int), Ev (fun k => spec_l5Draw.f k l p) (ofL s, q) ∧ s.length ≤ 1000 ∧ p ≤ q ∧ q ≤ p + 20 := by
 have key : ∀ (n : Nat) (s : Str) (p : Int), 0 ≤ p → p + n ≤ 200000000 → s.length + 60 * n ≤ 600 → ∃ (t : Str) (q : Int), Ev (fun k => spec_l5Draw.l0 k (ofL s) (n : Int) l p) (ofL t, q) ∧ t.length ≤ 1000 ∧ p ≤ q ∧ q ≤ p + n + 1 := by
  intro n
  induction n with
  | zero =>
   intro s p h0 h1 h2
   obtain ⟨i, hi, i0, i1⟩ := pick_ev l p 40 hl h0 (by omega) (by omega) (by omega)
   by_cases c : i = 0
   ·
    obtain ⟨t, g, g2⟩ := l5Draw_l1 l (p + 1) 31 s (by omega) (by omega)
    refine ⟨t, p + 1, vc ?_, g2, by omega, by omega⟩
    simp only [spec_l5Draw.l0]
    exact vn (by omega) (vb hi (vp c g))
   ·
    refine ⟨s, p + 1, vc ?_, by omega, by omega, by omega⟩
    simp only [spec_l5Draw.l0]
    exact vn (by omega) (vb hi (vn c (vs _)))
  | succ n ih =>
   intro s p h0 h1 h2
   obtain ⟨v, hv, hm⟩ := of_b l p (([(⟨#[104, 101, 108, 108, 111]⟩ : ByteArray), (⟨#[32]⟩ : ByteArray), (⟨#[61]⟩ : ByteArray), (⟨#[10]⟩ : ByteArray), (⟨#[255, 0]⟩ : ByteArray), (⟨#[99, 97, 102, 195, 169]⟩ : ByteArray), (⟨#[97, 32, 108, 111, 110, 103, 101, 114, 32, 114, 111, 119, 32, 111, 102, 32, 119, 111, 114, 100, 115, 32, 116, 104, 97, 116, 32, 105, 115, 32, 98, 114, 111, 107, 101, 110, 32, 104, 101, 114, 101]⟩ : ByteArray), (⟨#[120]⟩ : ByteArray), (⟨#[46]⟩ : ByteArray), (⟨#[9]⟩ : ByteArray)] : List ByteArray)) 60 hl h0 (by omega) (by simp) (by simp) (by decide)
   obtain ⟨t, q, g1, g2, g3, g4⟩ := ih (s ++ v) (p + 1) (by omega) (by omega) (by simp; omega)
   have w1 : Unit → wrap64 (((n + 1 : Nat) : Int) - 1) = (n : Int) := fun _ => by rw [wrap_id (by omega) (by omega)]; omega
   rw [← ofL_append] at g1
   refine ⟨t, q, vc ?_, g2, by omega, by omega⟩
   simp only [spec_l5Draw.l0, w1 ()]
   refine vp (by omega) (vb hv ?_)
   simp only [size_ofL]
   exact vp (by omega) g1
 obtain ⟨n, hn, hm⟩ := num_ev l p [3, 2, 5, 1, 0, 8] hl h0 (by omega) (by simp) (by simp)
 obtain ⟨m, rfl, hm⟩ := small_nat hm 8 (by decide)
 obtain ⟨t, q, g1, g2, g3, g4⟩ := key m [] (p + 1) (by omega) (by omega) (by simp; omega)
 refine ⟨t, q, ?_, g2, by omega, by omega⟩
 unfold spec_l5Draw.f
 exact vb hn g1
theorem l3Draw_ev (l : List Int) (hl : IsB l) (p : Int) (h0 : 0 ≤ p) (h1 : p ≤ 500000000) : ∃ a b : Str, Ev (fun k => spec_l3Draw.f k l p) (ofL a, ofL b, p + 2) ∧ a.length ≤ 100 ∧ b.length ≤ 100 := by
 obtain ⟨a, g1, h2⟩ := of_b l p ([(⟨#[84, 111]⟩ : ByteArray), (⟨#[70, 114, 111, 109]⟩ : ByteArray), (⟨#[83, 117, 98, 106, 101, 99, 116]⟩ : ByteArray), (⟨#[88, 45, 89]⟩ : ByteArray), (⟨#[82, 101, 99, 101, 105, 118, 101, 100]⟩ : ByteArray), (⟨#[116, 111]⟩ : ByteArray), (⟨#[68, 97, 116, 101]⟩ : ByteArray)] : List ByteArray) 100 hl h0 (by omega) (by simp) (by simp) (by decide)
 obtain ⟨b, g2, h3⟩ := of_b l (p + 1) ([(⟨#[]⟩ : ByteArray), (⟨#[120]⟩ : ByteArray), (⟨#[97, 32, 98]⟩ : ByteArray), (⟨#[104, 101, 108, 108, 111, 32, 116, 104, 101, 114, 101, 44, 32, 116, 104, 105, 115, 32, 105, 115, 32, 97, 32, 108, 111, 110, 103, 101, 114, 32, 118, 97, 108, 117, 101, 32, 116, 104, 97, 116, 32, 105, 115, 32, 98, 114, 111, 107, 101, 110]⟩ : ByteArray), (⟨#[97, 97, 97, 97, 97, 97, 97, 97, 97, 97, 97, 97, 97, 97, 97, 97, 97, 97, 97, 97, 97, 97, 97, 97, 97, 97, 97, 97, 97, 97, 97, 97, 97, 97, 97, 97, 97, 97, 97, 97, 97, 97, 97, 97, 97, 97, 97, 97, 97, 97, 97, 32, 98]⟩ : ByteArray), (⟨#[116, 119, 111, 32, 32, 115, 112, 97, 99, 101, 115, 32, 115, 116, 97, 121, 32, 32, 116, 111, 103, 101, 116, 104, 101, 114, 32, 105, 110, 32, 104, 101, 114, 101, 44, 32, 97, 110, 100, 32, 115, 111, 32, 100, 111, 32, 116, 104, 101, 115, 101, 32, 32, 111, 110, 101, 115]⟩ : ByteArray), (⟨#[97, 58, 98]⟩ : ByteArray), (⟨#[111, 110, 101, 32, 116, 119, 111, 32, 116, 104, 114, 101, 101, 32, 102, 111, 117, 114, 32, 102, 105, 118, 101, 32, 115, 105, 120, 32, 115, 101, 118, 101, 110, 32, 101, 105, 103, 104, 116, 32, 110, 105, 110, 101, 32, 116, 101, 110, 32, 101, 108, 101, 118, 101, 110]⟩ : ByteArray)] : List ByteArray) 100 hl (by omega) (by omega) (by simp) (by simp) (by decide)
 refine ⟨a, b, ?_, h2, h3⟩
 unfold spec_l3Draw.f
 have e : p + 1 + 1 = p + 2 := by omega
 rw [e] at g2
 exact vb g1 (vb g2 (vs _))
theorem l3List_ev (l : List Int) (hl : IsB l) (p : Int) (h0 : 0 ≤ p) (h1 : p ≤ 100000000) : ∃ (f : List (Str × Str)) (q : Int), Ev (fun k => spec_l3List.f k l p) (f.map e76, q) ∧ f.length + szp f ≤ 1000 ∧ p ≤ q ∧ q ≤ p + 20 := by
 have key : ∀ (n : Nat) (f : List (Str × Str)) (p : Int), 0 ≤ p → p + 2 * n ≤ 200000000 → f.length + szp f + 201 * n ≤ 1000 → ∃ (f2 : List (Str × Str)) (q : Int), Ev (fun k => spec_l3List.l0 k (f.map e76) (n : Int) l p) (f2.map e76, q) ∧ f2.length + szp f2 ≤ 1000 ∧ p ≤ q ∧ q ≤ p + 2 * n := by
  intro n
  induction n with
  | zero =>
   intro f p h0 h1 h2
   refine ⟨f, p, vc ?_, by omega, by omega, by omega⟩
   simp only [spec_l3List.l0]
   exact vn (by omega) (vs _)
  | succ n ih =>
   intro f p h0 h1 h2
   obtain ⟨a, b, g1, h3, h4⟩ := l3Draw_ev l hl p h0 (by omega)
   obtain ⟨f2, q, g2, h5, h6, h7⟩ := ih (f ++ [(a, b)]) (p + 2) (by omega) (by omega) (by rw [szp_append]; simp [szp]; omega)
   have w1 : Unit → wrap64 (((n + 1 : Nat) : Int) - 1) = (n : Int) := fun _ => by rw [wrap_id (by omega) (by omega)]; omega
   rw [List.map_append, List.map_singleton] at g2
   refine ⟨f2, q, vc ?_, h5, by omega, by omega⟩
   simp only [spec_l3List.l0, w1 (), List.length_map]
   exact vp (by omega) (vb g1 (vp (by omega) g2))
 obtain ⟨n, hn, hm⟩ := num_ev l p [2, 3, 1, 0, 4] hl h0 (by omega) (by simp) (by simp)
 obtain ⟨m, rfl, hm⟩ := small_nat hm 4 (by decide)
 obtain ⟨f, q, g1, g2, g3, g4⟩ := key m [] (p + 1) (by omega) (by omega) (by simp [szp]; omega)
 refine ⟨f, q, ?_, g2, by omega, by omega⟩
 unfold spec_l3List.f
 exact vb hn g1
theorem l8Leaf_ev (l : List Int) (hl : IsB l) (p : Int) (h0 : 0 ≤ p) (h1 : p ≤ 10000000) : ∃ (f : List (Str × Str)) (b : List Str) (q : Int), Ev (fun k => spec_l8Leaf.f k l p) (f.map e76, b.map ofL, ([] : List S28), q) ∧ sz3 f b [] ≤ 19000 ∧ p ≤ q ∧ q ≤ p + 60 := by
 have key : ∀ (f : List (Str × Str)) (n : Nat) (b : List Str) (p : Int), 0 ≤ p → p + n ≤ 200000000 → b.length + szs b + 101 * n ≤ 1000 → ∃ (b2 : List Str) (q : Int), Ev (fun k => spec_l8Leaf.l0 k (n : Int) l p (f.map e76) (b.map ofL)) (f.map e76, b2.map ofL, ([] : List S28), q) ∧ b2.length + szs b2 ≤ 1000 ∧ p ≤ q ∧ q ≤ p + n := by
  intro f n
  induction n with
  | zero =>
   intro b p h0 h1 h2
   refine ⟨b, p, vc ?_, by omega, by omega, by omega⟩
   simp only [spec_l8Leaf.l0]
   exact vn (by omega) (vs _)
  | succ n ih =>
   intro b p h0 h1 h2
   obtain ⟨v, g1, h3⟩ := of_b l p ([(⟨#[97]⟩ : ByteArray), (⟨#[]⟩ : ByteArray), (⟨#[116, 101, 120, 116, 32, 111, 102, 32, 97, 32, 108, 105, 110, 101]⟩ : ByteArray), (⟨#[45, 45, 98, 49]⟩ : ByteArray), (⟨#[45, 45, 120]⟩ : ByteArray)] : List ByteArray) 100 hl h0 (by omega) (by simp) (by simp) (by decide)
   obtain ⟨b2, q, g2, h5, h6, h7⟩ := ih (b ++ [v]) (p + 1) (by omega) (by omega) (by rw [szs_snoc]; simp; omega)
   have w1 : Unit → wrap64 (((n + 1 : Nat) : Int) - 1) = (n : Int) := fun _ => by rw [wrap_id (by omega) (by omega)]; omega
   rw [List.map_append, List.map_singleton] at g2
   refine ⟨b2, q, vc ?_, h5, by omega, by omega⟩
   simp only [spec_l8Leaf.l0, w1 (), List.length_map]
   exact vp (by omega) (vb g1 (vp (by omega) g2))
 obtain ⟨i, hi, i0, i1⟩ := pick_ev l p 2 hl h0 (by omega) (by omega) (by omega)
 unfold spec_l8Leaf.f
 by_cases c : i = 0
 ·
  obtain ⟨v, g1, h2⟩ := of_b l (p + 1) ([(⟨#[104, 101, 108, 108, 111]⟩ : ByteArray), (⟨#[90, 111, 195, 171]⟩ : ByteArray), (⟨#[]⟩ : ByteArray)] : List ByteArray) 100 hl (by omega) (by omega) (by simp) (by simp) (by decide)
  obtain ⟨s, q, g2, h3, h4, h5⟩ := l5Draw_ev l hl (p + 1 + 1) (by omega) (by omega)
  obtain ⟨f, b, ok, g3, h6⟩ := MakeText_ev v s (by omega) h3
  exact ⟨f, b, q, vb hi (vp c (vb g1 (vb g2 (vb g3 (vs _))))), h6, by omega, by omega⟩
 ·
  obtain ⟨f, q, g1, h2, h3, h4⟩ := l3List_ev l hl (p + 1) (by omega) (by omega)
  obtain ⟨n, hn, hm⟩ := num_ev l q [1, 2, 0, 3] hl (by omega) (by omega) (by simp) (by simp)
  obtain ⟨m, rfl, hm⟩ := small_nat hm 3 (by decide)
  obtain ⟨b, q2, g2, h5, h6, h7⟩ := key f m [] (q + 1) (by omega) (by omega) (by simp [szs]; omega)
  exact ⟨f, b, q2, vb hi (vn c (vb g1 (vb hn g2))), by unfold sz3; simp only [szts, List.length_nil]; omega, by omega, by omega⟩
def dB : Nat → Nat
 | 0 => 19000
 | d + 1 => 3 * dB d + 1000
def dQ : Nat → Nat
 | 0 => 64
 | d + 1 => 3 * dQ d + 10
theorem szt_mk (f : List (Str × Str)) (b : List Str) (k : List Pt) : szt (.mk f b k) = sz3 f b k := by rw [szt]; rfl
theorem dB_ge (d : Nat) : 19000 ≤ dB d ∧ 64 ≤ dQ d := by
 induction d with
 | zero => exact ⟨Nat.le_refl _, Nat.le_refl _⟩
 | succ d ih => unfold dB dQ; omega
theorem l8Draw_ev (l : List Int) (hl : IsB l) : ∀ d : Nat, d ≤ 2 → ∀ p : Int, 0 ≤ p → p + dQ d ≤ 1000000 → ∃ (f : List (Str × Str)) (b : List Str) (k : List Pt) (q : Int), Ev (fun n => spec_l8Draw.f n l p ((d + 1 : Nat) : Int)) (f.map e76, b.map ofL, k.map e32, q) ∧ sz3 f b k ≤ dB d ∧ p ≤ q ∧ q ≤ p + dQ d := by
 have leaf : ∀ (d : Nat) (x1 p p0 : Int), 0 ≤ p → p ≤ 2000000 → p0 ≤ p → p ≤ p0 + 1 → ∃ (f : List (Str × Str)) (b : List Str) (k : List Pt) (q : Int), Ev (fun n => spec_l8Draw.j0 n x1 true l p) (f.map e76, b.map ofL, k.map e32, q) ∧ sz3 f b k ≤ dB d ∧ p0 ≤ q ∧ q ≤ p0 + dQ d := by
  intro d x1 p p0 h0 h1 h2 h3
  obtain ⟨f, b, q, g1, h4, h5, h6⟩ := l8Leaf_ev l hl p h0 (by omega)
  have hd := dB_ge d
  refine ⟨f, b, [], q, vc ?_, by omega, by omega, by omega⟩
  simp only [spec_l8Draw.j0]
  exact vp trivial (vb g1 (vs _))
 intro d
 induction d with
 | zero =>
  intro _ p h0 h1
  obtain ⟨f, b, k, q, g1, h2, h3, h4⟩ := leaf 0 ((0 + 1 : Nat) : Int) p p h0 (by omega) (by omega) (by omega)
  refine ⟨f, b, k, q, vc ?_, h2, h3, h4⟩
  simp only [spec_l8Draw.f]
  exact vp (by omega) g1
 | succ d ih =>
  intro hd2 p h0 h1
  have hdb : dB d ≤ 100000 ∧ dQ d ≤ 1000 := by
   have : d = 0 ∨ d = 1 := by omega
   rcases this with rfl | rfl <;> decide
  have eB : dB (d + 1) = 3 * dB d + 1000 := rfl
  have eQ : dQ (d + 1) = 3 * dQ d + 10 := rfl
  have w0 : Unit → wrap64 (((d + 1 + 1 : Nat) : Int) - 1) = ((d + 1 : Nat) : Int) := fun _ => by rw [wrap_id (by omega) (by omega)]; omega
  have key : ∀ (F : List S69) (n : Nat), n ≤ 3 → ∀ (kk : List Pt) (p : Int), 0 ≤ p → p + n * dQ d ≤ 1000000 → kk.length + szts kk + n * (dB d + 1) ≤ 3 * dB d + 3 → ∃ (k : List Pt) (q : Int), Ev (fun m => spec_l8Draw.l0 m ((d + 1 + 1 : Nat) : Int) (n : Int) l p F (kk.map e32)) (F, ([] : List ByteArray), k.map e32, q) ∧ k.length + szts k ≤ 3 * dB d + 3 ∧ p ≤ q ∧ q ≤ p + n * dQ d := by
   intro F n
   induction n with
   | zero =>
    intro _ kk p h0 h1 h2
    refine ⟨kk, p, vc ?_, by omega, by omega, by omega⟩
    simp only [spec_l8Draw.l0]
    exact vn (by omega) (vs _)
   | succ n ihn =>
    intro hn3 kk p h0 h1 h2
    rw [Nat.succ_mul] at h2
    have m1 : (((n + 1 : Nat) : Int)) * (dQ d : Int) = (n : Int) * (dQ d : Int) + (dQ d : Int) := by rw [Int.natCast_add, Int.add_mul]; simp
    have m2 : (0 : Int) ≤ (n : Int) * (dQ d : Int) := Int.mul_nonneg (by omega) (by omega)
    rw [m1] at h1
    obtain ⟨f, b, k, q, g1, h3, h4, h5⟩ := ih (by omega) p h0 (by omega)
    have hs := szt_mk f b k
    obtain ⟨k2, q2, g2, h6, h7, h8⟩ := ihn (by omega) (kk ++ [.mk f b k]) q (by omega) (by omega) (by rw [szts_append]; simp only [List.length_append, List.length_cons, List.length_nil, szts]; omega)
    have w1 : Unit → wrap64 (((n + 1 : Nat) : Int) - 1) = (n : Int) := fun _ => by rw [wrap_id (by omega) (by omega)]; omega
    have hkk : kk.length ≤ 1000000 := by
     have : 0 ≤ n * (dB d + 1) := Nat.zero_le _
     omega
    rw [List.map_append, List.map_singleton, e32_mk] at g2
    refine ⟨k2, q2, vc ?_, h6, by omega, by rw [m1]; omega⟩
    simp only [spec_l8Draw.l0, w1 (), w0 (), List.length_map]
    clear w1 w0
    exact vp (by omega) (vb g1 (vp (by omega) g2))
  obtain ⟨i, hi, i0, i1⟩ := pick_ev l p 2 hl h0 (by omega) (by omega) (by omega)
  by_cases c : i = 0
  ·
   obtain ⟨f, b, k, q, g1, h2, h3, h4⟩ := leaf (d + 1) ((d + 1 + 1 : Nat) : Int) (p + 1) p (by omega) (by omega) (by omega) (by omega)
   refine ⟨f, b, k, q, vc ?_, h2, h3, h4⟩
   simp only [spec_l8Draw.f]
   refine vn (by omega) (vb hi ?_)
   rw [c]
   exact g1
  ·
   obtain ⟨v, g1, h2⟩ := of_b l (p + 1) ([(⟨#[109, 117, 108, 116, 105, 112, 97, 114, 116, 47, 109, 105, 120, 101, 100, 59, 32, 98, 111, 117, 110, 100, 97, 114, 121, 61, 98, 48]⟩ : ByteArray), (⟨#[77, 117, 108, 116, 105, 112, 97, 114, 116, 47, 97, 108, 116, 101, 114, 110, 97, 116, 105, 118, 101, 59, 32, 66, 111, 117, 110, 100, 97, 114, 121, 61, 98, 50]⟩ : ByteArray), (⟨#[109, 117, 108, 116, 105, 112, 97, 114, 116, 47, 109, 105, 120, 101, 100, 59, 32, 98, 111, 117, 110, 100, 97, 114, 121, 61, 120, 121, 122]⟩ : ByteArray)] : List ByteArray) 100 hl (by omega) (by omega) (by simp) (by simp) (by decide)
   obtain ⟨n, hn, hm⟩ := num_ev l (p + 1 + 1) [2, 1, 3] hl (by omega) (by omega) (by simp) (by simp)
   obtain ⟨m, rfl, hm2⟩ := small_nat hm 3 (by decide)
   obtain ⟨f, k1, k2, k3⟩ := fields_of ([(⟨(⟨#[83, 117, 98, 106, 101, 99, 116]⟩ : ByteArray), (⟨#[109, 97, 110, 121]⟩ : ByteArray)⟩ : S69), (⟨(⟨#[67, 111, 110, 116, 101, 110, 116, 45, 84, 121, 112, 101]⟩ : ByteArray), ofL v⟩ : S69)] : List (S69))
   have e : szp f ≤ 300 := by
    rw [k2]
    have : szR ([(⟨(⟨#[83, 117, 98, 106, 101, 99, 116]⟩ : ByteArray), (⟨#[109, 97, 110, 121]⟩ : ByteArray)⟩ : S69), (⟨(⟨#[67, 111, 110, 116, 101, 110, 116, 45, 84, 121, 112, 101]⟩ : ByteArray), ofL v⟩ : S69)] : List (S69)) = _ := rfl
    simp only [szR, size_ofL]
    have hA : ∀ a b c x : Nat, a + b ≤ 100 → c ≤ 100 → x ≤ 100 → a + b + (c + x + 0) ≤ 300 := by intros; omega
    exact hA _ _ _ _ (by decide) (by decide) h2
   have e2 : f.length = 2 := k3
   have hmq : (m : Int) * (dQ d : Int) ≤ 3 * (dQ d : Int) := Int.mul_le_mul_of_nonneg_right (by omega) (by omega)
   have hmb : m * (dB d + 1) ≤ 3 * (dB d + 1) := Nat.mul_le_mul_right _ hm2
   obtain ⟨k, q, g2, h3, h4, h5⟩ := key ([(⟨(⟨#[83, 117, 98, 106, 101, 99, 116]⟩ : ByteArray), (⟨#[109, 97, 110, 121]⟩ : ByteArray)⟩ : S69), (⟨(⟨#[67, 111, 110, 116, 101, 110, 116, 45, 84, 121, 112, 101]⟩ : ByteArray), ofL v⟩ : S69)] : List (S69)) m hm2 [] (p + 1 + 1 + 1) (by omega) (by omega) (by simp [szts]; omega)
   refine ⟨f, [], k, q, vc ?_, by unfold sz3; simp only [szs, List.length_nil]; omega, by omega, by omega⟩
   rw [← k1]
   simp only [spec_l8Draw.f]
   refine vn (by omega) (vb hi ?_)
   have hf : (i == 0) = false := by simp [c]
   simp only [hf]
   refine vc ?_
   simp only [spec_l8Draw.j0]
   exact vn (by simp) (vb g1 (vb hn g2))
theorem l8Wrong_ev (l : List Int) (hl : IsB l) (p : Int) (h0 : 0 ≤ p) (h1 : p ≤ 1000000) (f : List (Str × Str)) (b : List Str) (k : List Pt) (hs : sz3 f b k ≤ 500000) :
  ∃ (f2 : List (Str × Str)) (b2 : List Str) (k2 : List Pt) (q : Int), Ev (fun n => spec_l8Wrong.f n l p (f.map e76) (b.map ofL) (k.map e32)) (f2.map e76, b2.map ofL, k2.map e32, q) ∧ sz3 f2 b2 k2 ≤ sz3 f b k + 20000 ∧ p ≤ q ∧ q ≤ p + 70 := by
 have cp := l8Copy_ev (.mk f b k) (by rw [szt_mk]; omega)
 rw [e32_mk] at cp
 obtain ⟨i, hi, i0, i1⟩ := pick_ev l p 20 hl h0 (by omega) (by omega) (by omega)
 have hs0 := hs
 unfold sz3 at hs0
 unfold spec_l8Wrong.f
 by_cases c0 : i = 0
 ·
  obtain ⟨v, g1, h2⟩ := of_b l (p + 1) ([(⟨#[10]⟩ : ByteArray), (⟨#[120]⟩ : ByteArray)] : List ByteArray) 100 hl (by omega) (by omega) (by simp) (by simp) (by decide)
  refine ⟨f, b ++ [v], k, p + 1 + 1, vb cp (vb hi (vp c0 (vb g1 (vp (by rw [List.length_map]; omega) (vq (vs _) (by simp)))))), by unfold sz3; rw [szs_snoc]; simp; omega, by omega, by omega⟩
 by_cases c1 : i = 1
 ·
  obtain ⟨v, g1, h2⟩ := of_b l (p + 1) ([(⟨#[97, 32, 98]⟩ : ByteArray), (⟨#[79, 107]⟩ : ByteArray)] : List ByteArray) 100 hl (by omega) (by omega) (by simp) (by simp) (by decide)
  obtain ⟨u, g2, h3⟩ := of_b l (p + 1 + 1) ([(⟨#[32, 120]⟩ : ByteArray), (⟨#[120]⟩ : ByteArray)] : List ByteArray) 100 hl (by omega) (by omega) (by simp) (by simp) (by decide)
  refine ⟨f ++ [(v, u)], b, k, p + 1 + 1 + 1, vb cp (vb hi (vn c0 (vp c1 (vb g1 (vb g2 (vp (by rw [List.length_map]; omega) (vq (vs _) (by simp [e76])))))))), by unfold sz3; rw [szp_append]; simp [szp]; omega, by omega, by omega⟩
 by_cases c2 : i = 2
 ·
  obtain ⟨g, c, q, g1, h2, h3, h4⟩ := l8Leaf_ev l hl (p + 1) (by omega) (by omega)
  have e : k.map e32 ++ [(⟨g.map e76, c.map ofL, ([] : List S28)⟩ : S28)] = (k ++ [Pt.mk g c []]).map e32 := by
   rw [List.map_append, List.map_singleton, e32_mk]; rfl
  refine ⟨f, b, k ++ [Pt.mk g c []], q, vb cp (vb hi (vn c0 (vn c1 (vp c2 (vb g1 (vp (by rw [List.length_map]; omega) (vq (vs _) (by rw [← e]))))))))
   , by unfold sz3; rw [szts_append]; simp only [szts, szt_mk, List.length_append, List.length_cons, List.length_nil]; omega, by omega, by omega⟩
 ·
  exact ⟨f, b, k, p + 1, vb cp (vb hi (vn c0 (vn c1 (vn c2 (vs _))))), by omega, by omega, by omega⟩
theorem DrawPartSame_ev (l : List Int) (h : ∀ x ∈ l, (Lit.int .u8 x).wf = true) : ∃ p r : Pt, Ev (fun k => spec_DrawPartSame.f k l) ((e32 p).f0, (e32 p).f1, (e32 p).f2, (e32 r).f0, (e32 r).f1, (e32 r).f2) ∧ szt p ≤ 500000 ∧ szt r ≤ 500000 := by
 obtain ⟨l2, ho, hl⟩ := open_ev l h
 have e1 : dB 2 = 175000 := by decide
 have e2 : dQ 2 = 616 := by decide
 obtain ⟨f, b, k, q, g1, h1, h2, h3⟩ := l8Draw_ev l2 hl 2 (by omega) 0 (by omega) (by omega)
 obtain ⟨i, hi, i0, i1⟩ := pick_ev l2 q 3 hl (by omega) (by omega) (by omega) (by omega)
 unfold spec_DrawPartSame.f
 by_cases c : i = 0
 ·
  obtain ⟨f2, b2, k2, q2, g2, h4, h5, h6⟩ := l8Draw_ev l2 hl 2 (by omega) (q + 1) (by omega) (by omega)
  refine ⟨.mk f b k, .mk f2 b2 k2, ?_, by rw [szt_mk]; omega, by rw [szt_mk]; omega⟩
  rw [e32_mk, e32_mk]
  exact ev_bind0 ho (vb g1 (vb hi (vp c (vb g2 (vs _)))))
 ·
  obtain ⟨f2, b2, k2, q2, g2, h4, h5, h6⟩ := l8Wrong_ev l2 hl (q + 1) (by omega) (by omega) f b k (by omega)
  obtain ⟨f3, b3, k3, q3, g3, h7, h8, h9⟩ := l8Wrong_ev l2 hl q2 (by omega) (by omega) f2 b2 k2 (by omega)
  refine ⟨.mk f b k, .mk f3 b3 k3, ?_, by rw [szt_mk]; omega, by rw [szt_mk]; omega⟩
  rw [e32_mk, e32_mk]
  exact ev_bind0 ho (vb g1 (vb hi (vn c (vb g2 (vb g3 (vs _))))))
theorem smts_eq : ∀ (k l : List Pt), (∀ p ∈ k, ∀ q, smt p q = true ↔ p = q) → k.length = l.length → (smts k l = true ↔ k = l) := by
 intro k
 induction k with
 | nil =>
  intro l _ hl
  cases l with
  | nil => simp [smts]
  | cons => simp at hl
 | cons p k ih =>
  intro l h hl
  cases l with
  | nil => simp at hl
  | cons q l =>
   have h1 := h p (by simp) q
   have h2 := ih l (fun x hx => h x (by simp [hx])) (by simpa using hl)
   rw [smts, Bool.and_eq_true, h1, h2, List.cons.injEq]
theorem smt_eq (p : Pt) : ∀ q, smt p q = true ↔ p = q := by
 refine pt_ind (P := fun p => ∀ q, smt p q = true ↔ p = q) ?_ p
 intro f b k ih q
 cases q with
 | mk g c l =>
  rw [smt, Bool.and_eq_true, Bool.and_eq_true, Bool.and_eq_true, decide_eq_true_eq, decide_eq_true_eq, decide_eq_true_eq, Pt.mk.injEq]
  constructor
  ·
   rintro ⟨h1, h2, h3, h4⟩
   exact ⟨h1, h2, (smts_eq k l ih h3).mp h4⟩
  ·
   rintro ⟨h1, h2, h3⟩
   have hl : k.length = l.length := by rw [h3]
   exact ⟨h1, h2, hl, (smts_eq k l ih hl).mpr h3⟩
theorem smt_comm (p q : Pt) : smt q p = smt p q := by
 rw [Bool.eq_iff_iff, smt_eq, smt_eq]
 exact eq_comm
theorem FnPartSame : laws_FnPartSame.Pure := by
 intro l0 _ _ h
 by_cases h0 : (l0.length : Int) > 1048576
 ·
  exact ⟨0, Or.inl h0⟩
 obtain ⟨p, q, hd, hp, hq⟩ := DrawPartSame_ev l0 h
 obtain ⟨k, a1, a2, a3, a4, a5, a6, a7⟩ := evp_some (evp_and (evp_of hd) (evp_and (evp_of (impl_PartSame_ev p q (by omega))) (evp_and (evp_of (spec_PartSame_ev p q (by omega))) (evp_and (evp_of (impl_PartSame_ev q p (by omega))) (evp_and (evp_of (impl_PartSame_ev p p (by omega))) (evp_and (evp_of (impl_PartValid_ev p (by omega))) (evp_of (impl_PartValid_ev q (by omega)))))))))
 rw [smt_comm] at a4
 rw [(smt_eq p p).mpr rfl] at a5
 refine ⟨k, Or.inr ⟨h0, e32 p, e32 q, smt p q, (lines 3 p).isSome, a1, a2, a3, a4, a5, ?_⟩⟩
 cases e : smt p q with
 | false => exact Or.inl rfl
 | true =>
  have := (smt_eq p q).mp e
  subst this
  exact Or.inr ⟨rfl, a6, a7⟩
end Go.Proofs.YtncdadcmghglkaaGreatDoor.Pure
