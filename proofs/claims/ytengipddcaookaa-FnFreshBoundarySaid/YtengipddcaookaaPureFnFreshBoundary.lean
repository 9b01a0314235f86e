/- Proved here: the pure form of the law FnFreshBoundary (a fresh boundary divides nothing) returns true for all arguments; conditions: none beyond those that the printed statement bears. -/
import Derived.Test.YtengipddcaookaaPFnFreshBoundaryx4
import Derived.Test.YtengipddcaookaaZb
namespace Go.Proofs.Ytengipddcaookaa.Pure
open Go.RowKit Go.Proofs.Ytengipddcaookaa.X Go.Proofs.Ytengipddcaookaa.PFnFreshBoundary Go.Proofs.YtengipddcaookaaW.PrintWords Go.Proofs.YtengipddcaookaaW.PrintLast Go.Proofs.Ytengipddcaookaa.Z
set_option linter.unusedVariables false
set_option linter.unusedSimpArgs false

/-! The reader of draws. -/
theorem xor_nonneg (a b : Nat) (ha : a < 9223372036854775808) (hb : b < 9223372036854775808) : Go.bits .xor .i64 (a : Int) (b : Int) = ((a ^^^ b : Nat) : Int) := by
  have hx : a ^^^ b < 2 ^ 63 := Nat.xor_lt_two_pow (by omega) (by omega)
  have h1 : (BitVec.ofInt 64 (a : Int)).toNat = a := by
    rw [BitVec.ofInt_natCast, BitVec.toNat_ofNat]; exact Nat.mod_eq_of_lt (by omega)
  have h2 : (BitVec.ofInt 64 (b : Int)).toNat = b := by
    rw [BitVec.ofInt_natCast, BitVec.toNat_ofNat]; exact Nat.mod_eq_of_lt (by omega)
  show IntKind.i64.wrap ((BitVec.ofInt 64 (a : Int) ^^^ BitVec.ofInt 64 (b : Int)).toNat : Int) = _
  rw [BitVec.toNat_xor, h1, h2]
  rw [i64_w]
  exact wrap_id (by omega) (by omega)
theorem tmod_in {a b : Int} (ha : 0 ≤ a) (hb : 1 ≤ b) : 0 ≤ Int.tmod a b ∧ Int.tmod a b < b := by
  rw [Int.tmod_eq_emod_of_nonneg ha]
  exact ⟨Int.emod_nonneg _ (by omega), Int.emod_lt_of_pos _ (by omega)⟩
/-- What is known of the bytes that are drawn from. -/
def IsB (l : List Int) : Prop := l.length ≤ 2000 ∧ ∀ x ∈ l, 0 ≤ x ∧ x ≤ 255
theorem rd_in {l : List Int} (h : IsB l) (i : Int) : 0 ≤ rd l i ∧ rd l i ≤ 255 := by
  unfold rd
  rw [List.getD_eq_getElem?_getD]
  cases e : l[i.toNat]? with
  | none => simp
  | some x => exact h.2 x (List.mem_of_getElem? e)
theorem pick_ev (l : List Int) (p n : Int) (hl : IsB l) (h0 : 0 ≤ p) (h1 : p ≤ 1000000000) (hn : 1 ≤ n) (hn2 : n ≤ 1000000000) :
    ∃ v, Ev (fun k => spec_l13Rd_pick.f k l p n) (v, p + 1) ∧ 0 ≤ v ∧ v < n := by
  have hw : wrap64 (p + 1) = p + 1 := wrap_id (by omega) (by omega)
  have hw2 : wrap64 (p + 1 - 1) = p := by rw [wrap_id (by omega) (by omega)]; omega
  have hlen := hl.1
  unfold spec_l13Rd_pick.f
  rw [hw]
  by_cases he : (l.length : Int) = 0
  · refine ⟨0, ev_neg (by omega) (ev_succ ?_), by omega, by omega⟩
    simp only [spec_l13Rd_pick.j0]
    refine ev_pos ?_ (ev_some _)
    rw [he]; rfl
  have hb : ((l.length : Int) == 0) = false := by simp at he ⊢; exact he
  rw [hb]
  by_cases hlt : p < (l.length : Int)
  · have hv := tmod_in (rd_in hl p).1 hn
    have hr : wrap64 (rd l p) = rd l p := by have := rd_in hl p; exact wrap_id (by omega) (by omega)
    refine ⟨Int.tmod (rd l p) n, ev_neg (by omega) (ev_succ ?_), hv.1, hv.2⟩
    simp only [spec_l13Rd_pick.j0, hw2, hr]
    exact ev_neg (by simp) (ev_pos hlt (ev_pos h0 (ev_neg (by omega) (ev_some _))))
  · have hq := tmod_in h0 (b := (l.length : Int)) (by omega)
    have hm : wrap64 (wrap64 (p * 7) + 3) = p * 7 + 3 := by rw [wrap_id (x := p * 7) (by omega) (by omega), wrap_id (by omega) (by omega)]
    have hq2 := tmod_in (a := p * 7 + 3) (by omega) (b := (l.length : Int)) (by omega)
    have r1 := rd_in hl (Int.tmod p l.length)
    have r2 := rd_in hl (Int.tmod (p * 7 + 3) l.length)
    generalize hA : rd l (Int.tmod p l.length) = A at r1
    generalize hB : rd l (Int.tmod (p * 7 + 3) l.length) = B at r2
    have hd : 0 ≤ Int.tdiv p l.length ∧ Int.tdiv p l.length ≤ p := by
      rw [Int.tdiv_eq_ediv_of_nonneg h0]
      refine ⟨Int.ediv_nonneg h0 (by omega), Int.ediv_le_self _ h0⟩
    generalize hD : Int.tdiv p l.length = D at hd
    have w1 : wrap64 A = A := wrap_id (by omega) (by omega)
    have w2 : wrap64 B = B := wrap_id (by omega) (by omega)
    have w3 : wrap64 (A * 131) = A * 131 := wrap_id (by omega) (by omega)
    have w4 : wrap64 (B * 1117) = B * 1117 := wrap_id (by omega) (by omega)
    have w5 : wrap64 (A * 131 + B * 1117) = A * 131 + B * 1117 := wrap_id (by omega) (by omega)
    have w6 : wrap64 (p * 29) = p * 29 := wrap_id (by omega) (by omega)
    have w7 : wrap64 (A * 131 + B * 1117 + p * 29) = A * 131 + B * 1117 + p * 29 := wrap_id (by omega) (by omega)
    have w8 : wrap64 D = D := wrap_id (by omega) (by omega)
    have w9 : wrap64 (D * 53) = D * 53 := wrap_id (by omega) (by omega)
    have w10 : wrap64 (A * 131 + B * 1117 + p * 29 + D * 53) = A * 131 + B * 1117 + p * 29 + D * 53 := wrap_id (by omega) (by omega)
    have hX : 0 ≤ A * 131 + B * 1117 + p * 29 + D * 53 ∧ A * 131 + B * 1117 + p * 29 + D * 53 < 9223372036854775808 := by omega
    generalize hXX : A * 131 + B * 1117 + p * 29 + D * 53 = X at hX w10
    have hX2 : 0 ≤ Int.tdiv X 64 ∧ Int.tdiv X 64 ≤ X := by
      rw [Int.tdiv_eq_ediv_of_nonneg hX.1]
      refine ⟨Int.ediv_nonneg hX.1 (by omega), Int.ediv_le_self _ hX.1⟩
    have w11 : wrap64 (Int.tdiv X 64) = Int.tdiv X 64 := wrap_id (by omega) (by omega)
    have hxor : 0 ≤ Go.bits .xor .i64 X (Int.tdiv X 64) := by
      obtain ⟨a, ha⟩ := Int.eq_ofNat_of_zero_le hX.1
      obtain ⟨b, hb⟩ := Int.eq_ofNat_of_zero_le hX2.1
      rw [hb, ha, xor_nonneg _ _ (by omega) (by omega)]
      omega
    have hv := tmod_in hxor hn
    refine ⟨Int.tmod (Go.bits .xor .i64 X (Int.tdiv X 64)) n, ev_neg (by omega) (ev_succ ?_), hv.1, hv.2⟩
    simp only [spec_l13Rd_pick.j0, hw2, hm, hA, hB, hD, w1, w2, w3, w4, w5, w6, w7, w8, w9, hXX, w10, w11]
    exact ev_neg (by simp) (ev_neg hlt (ev_neg he (ev_pos hq.1 (ev_pos hq.2 (ev_pos hq2.1 (ev_pos hq2.2 (ev_neg (by omega) (ev_some _))))))))
theorem isB_take {l : List Int} (h : ∀ x ∈ l, (Lit.int .u8 x).wf = true) (n : Nat) (hn : (l.take n).length ≤ 2000) : IsB (l.take n) := by
  refine ⟨hn, fun x hx => ?_⟩
  have := h x (List.mem_of_mem_take hx)
  simp [Lit.wf, IntKind.min, IntKind.max, IntKind.bits, IntKind.signed] at this
  omega
theorem of_ev (l : List Int) (p : Int) (ws : List ByteArray) (hl : IsB l) (h0 : 0 ≤ p) (h1 : p ≤ 1000000000) (hn : 1 ≤ ws.length) (hn2 : ws.length ≤ 1000000) :
    ∃ v, Ev (fun k => spec_l13Rd_of.f k l p ws) (v, p + 1) ∧ v ∈ ws := by
  obtain ⟨i, hi, i0, i1⟩ := pick_ev l p ws.length hl h0 h1 (by omega) (by omega)
  have hlt : i.toNat < ws.length := by omega
  refine ⟨rdOf ByteArray.empty ws i, ?_, ?_⟩
  · unfold spec_l13Rd_of.f
    exact ev_bind hi (ev_pos i0 (ev_pos i1 (ev_some _)))
  · unfold rdOf
    rw [List.getD_eq_getElem?_getD, List.getElem?_eq_getElem hlt]
    exact List.getElem_mem hlt
theorem num_ev (l : List Int) (p : Int) (ws : List Int) (hl : IsB l) (h0 : 0 ≤ p) (h1 : p ≤ 1000000000) (hn : 1 ≤ ws.length) (hn2 : ws.length ≤ 1000000) :
    ∃ v, Ev (fun k => spec_l13Rd_num.f k l p ws) (v, p + 1) ∧ v ∈ ws := by
  obtain ⟨i, hi, i0, i1⟩ := pick_ev l p ws.length hl h0 h1 (by omega) (by omega)
  have hlt : i.toNat < ws.length := by omega
  refine ⟨rd ws i, ?_, ?_⟩
  · unfold spec_l13Rd_num.f
    exact ev_bind hi (ev_pos i0 (ev_pos i1 (ev_some _)))
  · unfold rd
    rw [List.getD_eq_getElem?_getD, List.getElem?_eq_getElem hlt]
    exact List.getElem_mem hlt
theorem open_ev (l : List Int) (h : ∀ x ∈ l, (Lit.int .u8 x).wf = true) : ∃ l', spec_l13Open.f l = some (l', 0) ∧ IsB l' := by
  unfold spec_l13Open.f
  by_cases hc : (l.length : Int) > 2000
  · refine ⟨l.take 2000, ?_, isB_take h 2000 (by rw [List.length_take]; omega)⟩
    rw [if_pos hc, if_pos (by omega)]
  · refine ⟨l, by rw [if_neg hc], ?_⟩
    have := isB_take h l.length (by rw [List.take_length]; omega)
    rwa [List.take_length] at this

theorem mem_L {v : ByteArray} {ws : List ByteArray} (h : v ∈ ws) : L v ∈ ws.map L := List.mem_map_of_mem h
theorem small_nat {n : Int} {ws : List Int} (h : n ∈ ws) (m : Nat) (hm : ∀ x ∈ ws, 0 ≤ x ∧ x ≤ (m : Int)) : ∃ k : Nat, n = (k : Int) ∧ k ≤ m := by
  have := hm n h
  exact ⟨n.toNat, by omega, by omega⟩

theorem laws_mwTexts_ev (a b : List Str) (hn : a.length ≤ 1000000000000000) : Ev (fun k => laws_mwTexts.f k (a.map ofL) (b.map ofL)) (decide (a = b)) := by
  unfold laws_mwTexts.f
  simp only [List.length_map]
  by_cases hl : a.length = b.length
  · refine ev_pos (by omega) ?_
    refine ev_eq (run_start (xs := a) (F := fun k (_ : List Str) i => laws_mwTexts.l0 k (a.map ofL) (b.map ofL) i) (st := fun r c => match r with
      | [] => .inl false
      | d :: r => if c = d then .inr r else .inl false) (fin := fun _ => true) (s := b) (fun p r => ∃ q, b = q ++ r ∧ q.length = p.length) ⟨[], rfl, rfl⟩ ?_ ?_) ?_
    · rintro p c r s h ⟨q, hq, hql⟩
      have hz := len_mid h
      have e1 := rdOf_ofL h
      have w1 : wrap64 ((p.length : Int) + 1) = (p.length : Int) + 1 := wrap_id (by omega) (by omega)
      cases s with
      | nil => rw [hq] at hl; simp at hl; omega
      | cons d s =>
        have e2 := rdOf_ofL hq
        rw [hql] at e2
        simp only [laws_mwTexts.l0, e1, e2, w1, List.length_map, toList_ofL]
        clear w1 e1 e2
        by_cases e : c = d
        · simp only [if_pos e]
          refine ⟨(fun v hv => by cases hv), fun s' hs => ⟨?_, fun v hv => ?_⟩⟩
          · cases hs; exact ⟨q ++ [d], by rw [hq]; simp, by simp [hql]⟩
          · exact ev_pos (by omega) (ev_pos (by omega) (ev_pos (by omega) hv))
        · simp only [if_neg e]
          refine ⟨(fun v hv => ?_), fun s' hs => by cases hs⟩
          cases hv
          exact ev_pos (by omega) (ev_pos (by omega) (ev_pos (by omega) (ev_some _)))
    · intro s _
      simp only [laws_mwTexts.l0, List.length_map]
      exact ev_neg (by omega) (ev_some _)
    · clear hn
      induction a generalizing b with
      | nil => cases b with
        | nil => rfl
        | cons d b => simp at hl
      | cons c a ih => cases b with
        | nil => simp at hl
        | cons d b =>
          unfold run
          by_cases e : c = d
          · simp only [if_pos e]; rw [ih b (by simpa using hl)]; simp [e]
          · simp only [if_neg e]; simp [e]
  · refine ev_neg (by omega) (ev_eq (ev_some _) ?_)
    rw [eq_comm]; exact decide_eq_false (fun h => hl (by rw [h]))

theorem rdLL_mid {ps p r : List (List Str)} {c : List Str} (h : ps = p ++ c :: r) : rd_L3 (ps.map (List.map ofL)) (p.length : Int) = c.map ofL := by
  unfold rd_L3
  rw [List.getD_eq_getElem?_getD, h]
  simp
/-- How many lines there are, one more counted for each part. -/
def tl : List (List Str) → Nat
  | [] => 0
  | c :: r => c.length + 1 + tl r
theorem tl_append (a b : List (List Str)) : tl (a ++ b) = tl a + tl b := by
  induction a with
  | nil => simp [tl]
  | cons c a ih => simp only [List.cons_append, tl, ih]; omega
theorem tl_len (a : List (List Str)) : a.length ≤ tl a := by
  induction a with
  | nil => simp [tl]
  | cons c a ih => simp only [List.length_cons, tl]; omega
theorem tl_mem {a : List (List Str)} {c : List Str} (h : c ∈ a) : c.length ≤ tl a := by
  induction a with
  | nil => cases h
  | cons d a ih =>
    simp only [tl]
    rcases List.mem_cons.mp h with rfl | h
    · omega
    · have := ih h; omega

/-! Letters and digits, boundaries: the model. -/
def letB (c : UInt8) : Bool := decide (97 ≤ (c.toNat : Int) ∧ (c.toNat : Int) ≤ 122) || decide (65 ≤ (c.toNat : Int) ∧ (c.toNat : Int) ≤ 90)
def digB (c : UInt8) : Bool := decide (48 ≤ (c.toNat : Int) ∧ (c.toNat : Int) ≤ 57)
def alnB (c : UInt8) : Bool := letB c || digB c
def isBd (l : Str) : Bool := decide (1 ≤ l.length) && decide (l.length ≤ 20) && l.all alnB
theorem isBd_len {l : Str} (h : isBd l = true) : l.length ≤ 20 := by
  unfold isBd at h; simp at h; exact h.1.2

theorem impl_isLetter_eq (c : UInt8) : impl_isLetter.f (c.toNat : Int) = some (letB c) := by
  unfold impl_isLetter.f letB
  by_cases h1 : 97 ≤ (c.toNat : Int) <;> by_cases h2 : (c.toNat : Int) ≤ 122 <;> by_cases h3 : 65 ≤ (c.toNat : Int) <;> by_cases h4 : (c.toNat : Int) ≤ 90 <;> simp [h1, h2, h3, h4]

theorem impl_isDigit_eq (c : UInt8) : impl_isDigit.f (c.toNat : Int) = some (digB c) := by
  unfold impl_isDigit.f digB
  by_cases h1 : 48 ≤ (c.toNat : Int) <;> by_cases h2 : (c.toNat : Int) ≤ 57 <;> simp [h1, h2]

theorem impl_isBoundary_1_eq (c : UInt8) : impl_isBoundary_1.f (c.toNat : Int) = some (alnB c) := by
  unfold impl_isBoundary_1.f alnB
  rw [impl_isLetter_eq, impl_isDigit_eq]
  cases letB c <;> simp
theorem impl_allBytes_isBoundary_1_ev (l : Str) (hl : l.length ≤ 1000000000000000) : Ev (fun k => impl_allBytes_isBoundary_1.f k (ofL l)) (l.all alnB) := by
  unfold impl_allBytes_isBoundary_1.f
  rw [size_ofL]
  refine ev_eq (run_start (xs := l) (F := fun k (_ : Unit) i => impl_allBytes_isBoundary_1.l0 k (ofL l) (l.length : Int) i) (st := fun _ c => if alnB c = true then .inr () else .inl false) (fin := fun _ => true) (s := ()) (fun _ _ => True) trivial ?_ ?_) ?_
  · intro p c r s h _
    have hz := len_mid h
    have e1 := bt_ofL_mid h
    have w1 : wrap64 ((p.length : Int) + 1) = (p.length : Int) + 1 := wrap_id (by omega) (by omega)
    simp only [impl_allBytes_isBoundary_1.l0, e1, w1, size_ofL]
    clear w1 e1
    cases e : alnB c with
    | true =>
      simp only [if_true]
      refine ⟨(fun v hv => by cases hv), fun s' hs => ⟨trivial, fun v hv => ?_⟩⟩
      refine ev_pos (by omega) (ev_pos (by omega) (ev_pos (by omega) (ev_bind0 (impl_isBoundary_1_eq c) (ev_pos e hv))))
    | false =>
      refine ⟨(fun v hv => ?_), fun s' hs => by simp at hs⟩
      simp only [Bool.false_eq_true, if_false, Sum.inl.injEq] at hv
      subst hv
      refine ev_pos (by omega) (ev_pos (by omega) (ev_pos (by omega) (ev_bind0 (impl_isBoundary_1_eq c) (ev_neg (by rw [e]; simp) (ev_some _)))))
  · intro s _
    simp only [impl_allBytes_isBoundary_1.l0]
    exact ev_neg (by omega) (ev_some _)
  · clear hl
    induction l with
    | nil => rfl
    | cons c r ih =>
      unfold run
      cases e : alnB c with
      | true => simp [e, ih]
      | false => simp [e]
theorem impl_isBoundary_ev (l : Str) (hl : l.length ≤ 1000000000000000) : Ev (fun k => impl_isBoundary.f k (ofL l)) (isBd l) := by
  unfold impl_isBoundary.f isBd
  rw [size_ofL]
  by_cases h1 : 1 ≤ l.length
  · rw [decide_eq_true h1]
    refine ev_pos (by omega) ?_
    by_cases h2 : l.length ≤ 20
    · rw [decide_eq_true h2]
      exact ev_pos (by omega) (ev_bind (impl_allBytes_isBoundary_1_ev l hl) (ev_some _))
    · rw [decide_eq_false h2]
      exact ev_neg (by omega) (ev_some _)
  · rw [decide_eq_false h1]
    exact ev_neg (by omega) (ev_some _)

/-! Lines that divide: the model. -/
def dash (b : Str) : Str := [45, 45] ++ b
def fin2 (b : Str) : Str := [45, 45] ++ b ++ [45, 45]
def dv (ls : List Str) (b : Str) : Bool := decide (dash b ∈ ls) || decide (fin2 b ∈ ls)
def lk (l b : Str) : Bool := decide (l = dash b) || decide (l = fin2 b)
theorem dv_lk (ls : List Str) (b : Str) : dv ls b = ls.any (fun l => lk l b) := by
  unfold dv
  rw [Bool.eq_iff_iff]
  simp only [lk, Bool.or_eq_true, decide_eq_true_iff, List.any_eq_true]
  constructor
  · rintro (h | h)
    · exact ⟨_, h, Or.inl rfl⟩
    · exact ⟨_, h, Or.inr rfl⟩
  · rintro ⟨x, h, rfl | rfl⟩
    · exact Or.inl h
    · exact Or.inr h
theorem dash_ne_fin (b : Str) : dash b ≠ fin2 b := by
  unfold dash fin2
  intro h
  have := congrArg List.length h
  simp at this
theorem dash_ofL (b : Str) : (⟨#[45, 45]⟩ : ByteArray) ++ ofL b = ofL (dash b) := by rw [mk_ofL, lit_list, ofL_append]; rfl
theorem fin_ofL (b : Str) : ofL (dash b) ++ (⟨#[45, 45]⟩ : ByteArray) = ofL (fin2 b) := by rw [mk_ofL, lit_list, ofL_append]; rfl
theorem dash_len (b : Str) : (dash b).length = b.length + 2 := by unfold dash; simp
theorem fin_len (b : Str) : (fin2 b).length = b.length + 4 := by unfold fin2; simp

theorem slices_Index_ev (ls : List Str) (x : Str) (hn : ls.length ≤ 1000000000000000) : ∃ i : Int, Ev (fun k => slices_Index_string_string.f k (ls.map ofL) (ofL x)) i ∧ (i = -1 ∨ 0 ≤ i) ∧ (0 ≤ i ↔ x ∈ ls) := by
  unfold slices_Index_string_string.f
  rw [List.length_map]
  refine ⟨_, run_start (xs := ls) (F := fun k (_ : Nat) i => slices_Index_string_string.l0 k (ls.map ofL) (ofL x) (ls.length : Int) i) (st := fun n c => if x = c then .inl (n : Int) else .inr (n + 1)) (fin := fun _ => (-1 : Int)) (s := 0) (fun p n => n = p.length) rfl ?_ ?_, ?_, ?_⟩
  · intro p c r n h hn
    subst hn
    have hz := len_mid h
    have e1 := rdOf_ofL h
    have w1 : wrap64 ((p.length : Int) + 1) = (p.length : Int) + 1 := wrap_id (by omega) (by omega)
    simp only [slices_Index_string_string.l0, e1, w1, List.length_map, toList_ofL]
    clear w1 e1
    by_cases e : x = c
    · simp only [if_pos e]
      refine ⟨(fun v hv => ?_), fun s' hs => by cases hs⟩
      cases hv
      exact ev_pos (by omega) (ev_pos (by omega) (ev_pos (by omega) (ev_some _)))
    · simp only [if_neg e]
      refine ⟨(fun v hv => by cases hv), fun s' hs => ⟨?_, fun v hv => ?_⟩⟩
      · cases hs; simp
      · exact ev_pos (by omega) (ev_pos (by omega) (ev_pos (by omega) hv))
  · intro s _
    simp only [slices_Index_string_string.l0]
    exact ev_neg (by omega) (ev_some _)
  · have key : ∀ (r : List Str) (n : Nat), run (fun (n : Nat) c => if x = c then .inl (n : Int) else .inr (n + 1)) (fun _ => (-1 : Int)) r n = -1 ∨ 0 ≤ run (fun (n : Nat) c => if x = c then .inl (n : Int) else .inr (n + 1)) (fun _ => (-1 : Int)) r n := by
      intro r
      induction r with
      | nil => intro n; exact Or.inl rfl
      | cons c r ih =>
        intro n
        unfold run
        by_cases e : x = c
        · simp only [if_pos e]; exact Or.inr (by omega)
        · simp only [if_neg e]; exact ih (n + 1)
    exact key ls 0
  · have key : ∀ (r : List Str) (n : Nat), 0 ≤ run (fun (n : Nat) c => if x = c then .inl (n : Int) else .inr (n + 1)) (fun _ => (-1 : Int)) r n ↔ x ∈ r := by
      intro r
      induction r with
      | nil => intro n; simp [run]
      | cons c r ih =>
        intro n
        unfold run
        by_cases e : x = c
        · simp only [if_pos e]; simp [e]
        · simp only [if_neg e]; rw [ih]; simp [e]
    exact key ls 0
theorem slices_Contains_ev (ls : List Str) (x : Str) (hn : ls.length ≤ 1000000000000000) : Ev (fun k => slices_Contains_string_string.f k (ls.map ofL) (ofL x)) (decide (x ∈ ls)) := by
  obtain ⟨i, hi, h1, h2⟩ := slices_Index_ev ls x hn
  unfold slices_Contains_string_string.f
  refine ev_bind hi (ev_eq (ev_some _) ?_)
  by_cases h : x ∈ ls
  · rw [decide_eq_true h]; exact decide_eq_true (h2.mpr h)
  · rw [decide_eq_false h]; exact decide_eq_false (fun hh => h (h2.mp hh))

theorem impl_divides_ev (ls : List Str) (b : Str) (hb : b.length ≤ 1000000000000000) (hn : ls.length ≤ 1000000000000000) : Ev (fun k => impl_divides.f k (ls.map ofL) (ofL b)) (dv ls b) := by
  unfold impl_divides.f dv
  have hd := dash_len b
  simp only [dash_ofL, fin_ofL, size_ofL]
  refine ev_pos (by omega) (ev_bind (slices_Contains_ev ls (dash b) hn) ?_)
  cases e : decide (dash b ∈ ls) with
  | true => exact ev_pos rfl (ev_some _)
  | false => exact ev_neg (by simp) (ev_pos (by omega) (ev_bind (slices_Contains_ev ls (fin2 b) hn) (ev_some _)))

theorem spec_l7Looks_eq (l b : Str) (hb : b.length ≤ 1000000000000000) : spec_l7Looks.f (ofL l) (ofL b) = some (lk l b) := by
  unfold spec_l7Looks.f lk
  have hd := dash_len b
  simp only [dash_ofL, fin_ofL, size_ofL, toList_ofL]
  rw [if_pos (by omega)]
  by_cases h : l = dash b
  · rw [if_pos h, decide_eq_true h]; rfl
  · rw [if_neg h, decide_eq_false h, if_pos (by omega)]
    simp only [Bool.false_or]
    congr 1
    rw [Bool.eq_iff_iff]; simp

/-- The lines that are drawn. -/
def l7Set : List Str := [[45, 45, 98, 48], [97], [], [45, 45, 98, 48, 45, 45], [45, 45, 98, 49], [116, 101, 120, 116], [45, 45, 98, 48, 32], [98, 101, 102, 111, 114, 101], [97, 102, 116, 101, 114]]
theorem l7Set_len {x : Str} (h : x ∈ l7Set) : x.length ≤ 100 := by
  have : ∀ y ∈ l7Set, y.length ≤ 100 := by decide
  exact this x h
theorem l7Lines_loop (l : List Int) (hl : IsB l) (n : Nat) : ∀ (s : List Str) (p : Int), 0 ≤ p → p + n ≤ 1000000 → s.length + n ≤ 1000000 → (∀ x ∈ s, x ∈ l7Set) →
    ∃ (t : List Str) (q : Int), Ev (fun k => spec_l7Lines.l0 k (s.map ofL) (n : Int) l p) (t.map ofL, q) ∧ t.length ≤ s.length + n + 4 ∧ (∀ x ∈ t, x ∈ l7Set) ∧ 0 ≤ q ∧ q ≤ p + n + 1 := by
  induction n with
  | zero =>
    intro s p h0 h1 h2 h3
    obtain ⟨i, hi, i0, i1⟩ := pick_ev l p 2 hl h0 (by omega) (by omega) (by omega)
    by_cases e : i = 0
    · refine ⟨[[98, 101, 102, 111, 114, 101], [45, 45, 98, 48]] ++ s ++ [[45, 45, 98, 48, 45, 45], [97, 102, 116, 101, 114]], p + 1, ev_succ ?_, ?_, ?_, by omega, by omega⟩
      · simp only [spec_l7Lines.l0, Option.bind_some]
        refine ev_neg (by omega) (ev_bind hi (ev_pos e (ev_pos ?_ (ev_pos ?_ (ev_eq (ev_some _) ?_)))))
        · simp only [List.length_cons, List.length_nil, List.length_map]; omega
        · simp only [List.length_append, List.length_cons, List.length_nil, List.length_map]; omega
        · rw [List.map_append, List.map_append]; rfl
      · simp only [List.length_append, List.length_cons, List.length_nil]; omega
      · intro x hx
        rcases List.mem_append.mp hx with hx | hx
        · rcases List.mem_append.mp hx with hx | hx
          · have : ∀ y ∈ ([[98, 101, 102, 111, 114, 101], [45, 45, 98, 48]] : List Str), y ∈ l7Set := by decide
            exact this x hx
          · exact h3 x hx
        · have : ∀ y ∈ ([[45, 45, 98, 48, 45, 45], [97, 102, 116, 101, 114]] : List Str), y ∈ l7Set := by decide
          exact this x hx
    · refine ⟨s, p + 1, ev_succ ?_, by omega, h3, by omega, by omega⟩
      simp only [spec_l7Lines.l0, Option.bind_some]
      exact ev_neg (by omega) (ev_bind hi (ev_neg e (ev_some _)))
  | succ n ih =>
    intro s p h0 h1 h2 h3
    obtain ⟨v, hv, hm⟩ := of_ev l p [(⟨#[45, 45, 98, 48]⟩ : ByteArray), (⟨#[97]⟩ : ByteArray), (⟨#[]⟩ : ByteArray), (⟨#[45, 45, 98, 48]⟩ : ByteArray), (⟨#[45, 45, 98, 48, 45, 45]⟩ : ByteArray), (⟨#[45, 45, 98, 49]⟩ : ByteArray), (⟨#[116, 101, 120, 116]⟩ : ByteArray), (⟨#[45, 45, 98, 48, 32]⟩ : ByteArray)] hl h0 (by omega) (by simp) (by simp)
    have hmem : L v ∈ l7Set := by
      have := mem_L hm
      have h5 : ∀ y ∈ ([[45, 45, 98, 48], [97], [], [45, 45, 98, 48], [45, 45, 98, 48, 45, 45], [45, 45, 98, 49], [116, 101, 120, 116], [45, 45, 98, 48, 32]] : List Str), y ∈ l7Set := by decide
      exact h5 _ this
    obtain ⟨t, q, ht, hq, hx, hq0, hq1⟩ := ih (s ++ [L v]) (p + 1) (by omega) (by omega) (by rw [List.length_append]; simp only [List.length_cons, List.length_nil]; omega) (fun x hx => by
      rcases List.mem_append.mp hx with h | h
      · exact h3 x h
      · rw [List.mem_singleton.mp h]; exact hmem)
    simp only [List.length_append, List.length_cons, List.length_nil] at hq
    refine ⟨t, q, ev_succ ?_, by omega, hx, hq0, by omega⟩
    have e : (((n + 1 : Nat) : Int) - 1) = (n : Int) := by omega
    have w : wrap64 (n : Int) = n := wrap_id (by omega) (by omega)
    simp only [spec_l7Lines.l0, e, w]
    refine ev_pos (by omega) (ev_bind hv ?_)
    rw [List.map_append] at ht
    exact ev_pos (by rw [List.length_map]; omega) ht
theorem l7Lines_ev (l : List Int) (hl : IsB l) : ∃ (t : List Str) (q : Int), Ev (fun k => spec_l7Lines.f k l 0) (t.map ofL, q) ∧ t.length ≤ 10 ∧ (∀ x ∈ t, x ∈ l7Set) ∧ 0 ≤ q ∧ q ≤ 10 := by
  obtain ⟨n, hn, hm⟩ := num_ev l 0 [4, 3, 6, 2, 0] hl (by omega) (by omega) (by simp) (by simp)
  obtain ⟨m, rfl, hm⟩ := small_nat hm 6 (by decide)
  obtain ⟨t, q, ht, hq, hx, hq0, hq1⟩ := l7Lines_loop l hl m [] (0 + 1) (by omega) (by omega) (by simp; omega) (by simp)
  simp only [List.length_nil] at hq
  refine ⟨t, q, ?_, by omega, hx, hq0, by omega⟩
  unfold spec_l7Lines.f
  exact ev_bind hn ht

/-! The first boundary that no line divides at: the model. -/
def dg (m : Nat) : UInt8 := UInt8.ofNat (48 + m)
def dec (n : Nat) : Str := if n < 10 then [dg n] else [dg (n / 10), dg (n % 10)]
def bn (n : Nat) : Str := 98 :: dec n
def fb (ls : List Str) : Nat → Nat → Option Str
  | 0, _ => none
  | m + 1, i => if dv ls (bn i) = true then fb ls m (i + 1) else some (bn i)
def fbres (o : Option Str) : ByteArray × Bool := match o with
  | none => (⟨#[]⟩, false)
  | some b => (ofL b, true)
theorem dec_len (n : Nat) : (dec n).length ≤ 2 := by
  unfold dec; split <;> simp
theorem bn_len (n : Nat) : (bn n).length ≤ 3 := by
  have := dec_len n
  unfold bn; simp only [List.length_cons]; omega
theorem bn_ofL (n : Nat) : (⟨#[98]⟩ : ByteArray) ++ ofL (dec n) = ofL (bn n) := by rw [mk_ofL, ofL_append]; rfl
theorem dg_slice (m : Nat) (h : m < 10) : (⟨#[48, 49, 50, 51, 52, 53, 54, 55, 56, 57]⟩ : ByteArray).extract m (m + 1) = ofL [dg m] := by
  rw [mk_ofL, extract_ofL]
  have : ∀ m < 10, List.take (m + 1 - m) (List.drop m [48, 49, 50, 51, 52, 53, 54, 55, 56, 57]) = [dg m] := by decide
  rw [← this m h]
theorem dg_num (m : Nat) (h : m < 10) : (wrap64 (48 + (m : Int))) % 256 = ((dg m).toNat : Int) := by
  have : ∀ m : Nat, m < 10 → (wrap64 (48 + (m : Int))) % 256 = ((dg m).toNat : Int) := by decide +kernel
  exact this m h
theorem impl_dec_step (n : Nat) (hn : n < 1000) (x : Int) (t : Str) (ht : t.length ≤ 100) (hc : n > 0 ∨ x > 0) {V : ByteArray} (hv : Ev (fun k => impl_decimal.l0 k ((n / 10 : Nat) : Int) (wrap64 (x - 1)) (ofL (dg (n % 10) :: t))) V) : Ev (fun k => impl_decimal.l0 k (n : Int) x (ofL t)) V := by
  have hm : n % 10 < 10 := Nat.mod_lt _ (by omega)
  have hd : n / 10 < 1000 := by omega
  have e1 : Int.tmod (n : Int) 10 = ((n % 10 : Nat) : Int) := (Int.ofNat_tmod n 10).symm
  have e2 : wrap64 (Int.tdiv (n : Int) 10) = ((n / 10 : Nat) : Int) := by
    rw [show Int.tdiv (n : Int) 10 = ((n / 10 : Nat) : Int) from (Int.ofNat_tdiv n 10).symm]
    exact wrap_id (by omega) (by omega)
  have e3 : wrap64 (((n % 10 : Nat) : Int) + 1) = ((n % 10 + 1 : Nat) : Int) := (wrap_id (by omega) (by omega)).trans (by omega)
  refine ev_succ ?_
  simp only [impl_decimal.l0, e1, e2, e3, Int.toNat_natCast, dg_slice _ hm, size_ofL, ofL_append, List.length_cons, List.length_nil, List.cons_append, List.nil_append]
  clear e1 e2 e3
  by_cases h : (n : Int) > 0
  · exact ev_pos h (ev_pos (by omega) (ev_pos (by omega) (ev_pos (by omega) (ev_pos (by omega) hv))))
  · exact ev_neg h (ev_pos (by omega) (ev_pos (by omega) (ev_pos (by omega) (ev_pos (by omega) (ev_pos (by omega) hv)))))
theorem impl_dec_end (x : Int) (hx : ¬ x > 0) (t : Str) : Ev (fun k => impl_decimal.l0 k 0 x (ofL t)) (ofL t) := by
  refine ev_succ ?_
  simp only [impl_decimal.l0]
  exact ev_neg (by omega) (ev_neg hx (ev_some _))
theorem impl_decimal_ev (n : Nat) (h : n < 100) : Ev (fun k => impl_decimal.f k (n : Int) 1) (ofL (dec n)) := by
  unfold impl_decimal.f
  refine impl_dec_step n (by omega) 1 [] (by simp) (Or.inr (by omega)) ?_
  unfold dec
  by_cases h1 : n < 10
  · rw [if_pos h1]
    have e : n / 10 = 0 := by omega
    have e2 : n % 10 = n := by omega
    rw [e, e2]
    exact impl_dec_end _ (by decide +kernel) _
  · rw [if_neg h1]
    refine impl_dec_step (n / 10) (by omega) _ _ (by simp) (Or.inl (by omega)) ?_
    have e : n / 10 / 10 = 0 := by omega
    have e2 : n / 10 % 10 = n / 10 := by omega
    rw [e, e2]
    exact impl_dec_end _ (by decide +kernel) _
theorem spec_dec_ev (n : Nat) (h : n < 100) : Ev (fun k => spec_l13Dec.f k (n : Int)) (ofL (dec n)) := by
  have last : ∀ (m : Nat) (t : Str), m < 10 → t.length ≤ 10 → Ev (fun k => spec_l13Dec.l0 k (m : Int) (ofL t)) (ofL (dg m :: t)) := by
    intro m t hm ht
    refine ev_succ ?_
    have e1 : strOfNums [((dg m).toNat : Int)] = ofL [dg m] := strOfNums_zn [dg m]
    simp only [spec_l13Dec.l0, Option.bind_some, dg_num m hm, e1, size_ofL, ofL_append, List.length_cons, List.length_nil, List.cons_append, List.nil_append]
    exact ev_neg (by omega) (ev_pos (by omega) (ev_some _))
  refine ev_succ ?_
  simp only [spec_l13Dec.f]
  refine ev_neg (by omega) (ev_neg (by omega) ?_)
  unfold dec
  by_cases h1 : n < 10
  · rw [if_pos h1]
    exact last n [] h1 (by simp)
  · rw [if_neg h1]
    have hm : n % 10 < 10 := Nat.mod_lt _ (by omega)
    have hl := last (n / 10) [dg (n % 10)] (by omega) (by simp)
    have e0 : Int.tmod (n : Int) 10 = ((n % 10 : Nat) : Int) := (Int.ofNat_tmod n 10).symm
    have e2 : wrap64 (Int.tdiv (n : Int) 10) = ((n / 10 : Nat) : Int) := by
      rw [show Int.tdiv (n : Int) 10 = ((n / 10 : Nat) : Int) from (Int.ofNat_tdiv n 10).symm]
      exact wrap_id (by omega) (by omega)
    have e1 : strOfNums [((dg (n % 10)).toNat : Int)] = ofL [dg (n % 10)] := strOfNums_zn [dg (n % 10)]
    have e3 : (⟨#[]⟩ : ByteArray) = ofL [] := rfl
    refine ev_succ ?_
    simp only [spec_l13Dec.l0, Option.bind_some, e0, e2, e3, dg_num _ hm, e1, size_ofL, ofL_append, List.length_cons, List.length_nil, List.cons_append, List.nil_append]
    clear e0 e2
    exact ev_pos (by omega) (ev_pos (by omega) hl)
theorem impl_FreshBoundary_loop (ls : List Str) (hn : ls.length ≤ 1000000000000) (m : Nat) : ∀ (i : Nat), i + m = 100 → Ev (fun k => impl_FreshBoundary.l0 k (ls.map ofL) (i : Int)) (fbres (fb ls m i)) := by
  induction m with
  | zero =>
    intro i hi
    refine ev_succ ?_
    simp only [impl_FreshBoundary.l0]
    exact ev_neg (by omega) (ev_some _)
  | succ m ih =>
    intro i hi
    have hd := impl_decimal_ev i (by omega)
    have hb := bn_len i
    have hdv := impl_divides_ev ls (bn i) (by omega) (by omega)
    have hl := dec_len i
    have := ih (i + 1) (by omega)
    have w1 : wrap64 ((i : Int) + 1) = ((i + 1 : Nat) : Int) := (wrap_id (by omega) (by omega)).trans (by omega)
    refine ev_succ ?_
    simp only [impl_FreshBoundary.l0, w1, fb]
    clear w1
    refine ev_pos (by omega) (ev_bind hd ?_)
    simp only [size_ofL, bn_ofL]
    refine ev_pos (by omega) (ev_bind hdv ?_)
    cases e : dv ls (bn i) with
    | true => exact ev_pos rfl this
    | false => exact ev_neg (by simp) (ev_some _)
theorem impl_FreshBoundary_ev (ls : List Str) (hn : ls.length ≤ 1000000000000) : Ev (fun k => impl_FreshBoundary.f k (ls.map ofL)) (fbres (fb ls 100 0)) := by
  unfold impl_FreshBoundary.f
  exact impl_FreshBoundary_loop ls hn 100 0 rfl
theorem lk_run {R : Type} (b : Str) (fin : Bool → R) (r : List Str) : ∀ s : Bool, run (fun (s : Bool) l => (.inr (s && !lk l b) : R ⊕ Bool)) fin r s = fin (s && !(r.any (fun l => lk l b))) := by
  induction r with
  | nil => intro s; simp [run]
  | cons c r ih =>
    intro s
    unfold run
    simp only [ih, List.any_cons, Bool.not_or, Bool.and_assoc]
theorem spec_FreshBoundary_loop (ls : List Str) (hn : ls.length ≤ 1000000000000) (m : Nat) : ∀ (i : Nat), i + m = 100 → Ev (fun k => spec_FreshBoundary.l0 k (ls.map ofL) (i : Int)) (fbres (fb ls m i)) := by
  induction m with
  | zero =>
    intro i hi
    refine ev_succ ?_
    simp only [spec_FreshBoundary.l0]
    exact ev_neg (by omega) (ev_some _)
  | succ m ih =>
    intro i hi
    have hd := spec_dec_ev i (by omega)
    have hb := bn_len i
    have hl := dec_len i
    have hi2 := ih (i + 1) (by omega)
    refine ev_succ ?_
    simp only [spec_FreshBoundary.l0]
    refine ev_pos (by omega) (ev_bind hd ?_)
    simp only [size_ofL, bn_ofL]
    refine ev_pos (by omega) ?_
    refine ev_eq (run_start (xs := ls) (F := fun k (s : Bool) j => spec_FreshBoundary.l1 k (ls.map ofL) (i : Int) (ofL (bn i)) s j) (st := fun s l => .inr (s && !lk l (bn i))) (fin := fun s => if s = true then (ofL (bn i), true) else fbres (fb ls m (i + 1))) (s := true) (fun _ _ => True) trivial ?_ ?_) ?_
    · intro p c r s h _
      have hz := len_mid h
      have e1 := rdOf_ofL h
      have w1 : wrap64 ((p.length : Int) + 1) = (p.length : Int) + 1 := wrap_id (by omega) (by omega)
      simp only [spec_FreshBoundary.l1, e1, w1, List.length_map]
      clear w1 e1
      refine ⟨(fun v hv => by cases hv), fun s' hs => ⟨trivial, fun v hv => ?_⟩⟩
      cases hs
      refine ev_pos (by omega) ?_
      cases s with
      | true => exact ev_pos rfl (ev_pos (by omega) (ev_bind0 (spec_l7Looks_eq c (bn i) (by omega)) hv))
      | false => exact ev_neg (by simp) hv
    · intro s _
      have w1 : wrap64 ((i : Int) + 1) = ((i + 1 : Nat) : Int) := (wrap_id (by omega) (by omega)).trans (by omega)
      simp only [spec_FreshBoundary.l1, List.length_map, w1]
      clear w1
      refine ev_neg (by omega) ?_
      cases s with
      | true => exact ev_pos rfl (ev_some _)
      | false => exact ev_neg (by simp) hi2
    · rw [lk_run, ← dv_lk]
      cases e : dv ls (bn i) <;> simp [fb, e, fbres]
theorem spec_FreshBoundary_ev (ls : List Str) (hn : ls.length ≤ 1000000000000) : Ev (fun k => spec_FreshBoundary.f k (ls.map ofL)) (fbres (fb ls 100 0)) := by
  unfold spec_FreshBoundary.f
  exact spec_FreshBoundary_loop ls hn 100 0 rfl

/-- The lines that are drawn for a fresh boundary. -/
def fSet : List Str := l7Set ++ [[45, 45, 98, 49], [45, 45, 98, 50, 45, 45], [120]]
theorem DrawFreshBoundary_ev (l : List Int) (h : ∀ x ∈ l, (Lit.int .u8 x).wf = true) : ∃ (t : List Str), Ev (fun k => spec_DrawFreshBoundary.f k l) (t.map ofL) ∧ t.length ≤ 11 ∧ (∀ x ∈ t, x ∈ fSet) := by
  obtain ⟨l', ho, hb⟩ := open_ev l h
  obtain ⟨t, q, ht, hq, hx, hq0, hq1⟩ := l7Lines_ev l' hb
  obtain ⟨v, hv, hm⟩ := of_ev l' q [(⟨#[45, 45, 98, 49]⟩ : ByteArray), (⟨#[45, 45, 98, 50, 45, 45]⟩ : ByteArray), (⟨#[120]⟩ : ByteArray)] hb hq0 (by omega) (by simp) (by simp)
  refine ⟨t ++ [L v], ?_, by simp; omega, ?_⟩
  · unfold spec_DrawFreshBoundary.f
    refine ev_bind0 ho (ev_bind ht (ev_bind hv (ev_pos (by simp; omega) (ev_eq (ev_some _) ?_))))
    rw [List.map_append]; rfl
  · intro x hx2
    unfold fSet
    rcases List.mem_append.mp hx2 with h1 | h1
    · exact List.mem_append_left _ (hx x h1)
    · rw [List.mem_singleton.mp h1]
      exact List.mem_append_right _ (mem_L hm)
theorem fSet_b3 {ls : List Str} (h : ∀ x ∈ ls, x ∈ fSet) : dv ls (bn 3) = false := by
  unfold dv
  rw [Bool.or_eq_false_iff]
  have h1 : dash (bn 3) ∉ fSet := by decide
  have h2 : fin2 (bn 3) ∉ fSet := by decide
  exact ⟨decide_eq_false (fun hh => h1 (h _ hh)), decide_eq_false (fun hh => h2 (h _ hh))⟩
theorem fb_three {ls : List Str} (h : dv ls (bn 3) = false) : ∃ i, i ≤ 3 ∧ fb ls 100 0 = some (bn i) := by
  simp only [fb]
  cases e0 : dv ls (bn 0) with
  | false => exact ⟨0, by omega, by simp⟩
  | true =>
    cases e1 : dv ls (bn 1) with
    | false => exact ⟨1, by omega, by simp [e1]⟩
    | true =>
      cases e2 : dv ls (bn 2) with
      | false => exact ⟨2, by omega, by simp [e1, e2]⟩
      | true => exact ⟨3, by omega, by simp [e1, e2, h]⟩
theorem fb_none {ls : List Str} (h : ∀ x ∈ ls, x.head? ≠ some 45) : fb ls 100 0 = some (bn 0) := by
  have : dv ls (bn 0) = false := by
    unfold dv
    rw [Bool.or_eq_false_iff]
    exact ⟨decide_eq_false (fun hh => h _ hh rfl), decide_eq_false (fun hh => h _ hh rfl)⟩
  simp only [fb, this]
  simp

/-! Parts joined: the model. -/
def jb (b : Str) : List (List Str) → List Str
  | [] => []
  | c :: r => dash b :: (c ++ jb b r)
def jR (b : Str) (ps : List (List Str)) : Option (List Str) := if isBd b = true ∧ ps ≠ [] ∧ ps.any (fun c => dv c b) = false then some (jb b ps ++ [fin2 b]) else none
def jres (o : Option (List Str)) : List ByteArray × Bool := match o with
  | none => ([], false)
  | some l => (l.map ofL, true)
theorem jb_len (b : Str) (ps : List (List Str)) : (jb b ps).length = tl ps := by
  induction ps with
  | nil => rfl
  | cons c r ih => simp only [jb, tl, List.length_cons, List.length_append, ih]; omega
theorem jb_append (b : Str) (a c : List (List Str)) : jb b (a ++ c) = jb b a ++ jb b c := by
  induction a with
  | nil => rfl
  | cons d a ih => simp [jb, ih]
theorem jR_bad1 {b : Str} (ps : List (List Str)) (h : isBd b = false) : jR b ps = none := by
  unfold jR; rw [if_neg (by rw [h]; simp)]
theorem jR_bad2 (b : Str) : jR b [] = none := by
  unfold jR; rw [if_neg (by simp)]
theorem jR_val {b : Str} {ps : List (List Str)} (h1 : isBd b = true) (h2 : ps ≠ []) : jres (jR b ps) = if ps.any (fun c => dv c b) = true then ([], false) else ((jb b ps ++ [fin2 b]).map ofL, true) := by
  unfold jR
  cases e : ps.any (fun c => dv c b) with
  | true => rw [if_neg (by simp), if_pos rfl]; rfl
  | false => rw [if_pos ⟨h1, h2, rfl⟩, if_neg (by simp)]; rfl

theorem impl_JoinParts_1_ev (ls : List Str) (b : Str) (hb : b.length ≤ 1000000000000) (hn : ls.length ≤ 1000000000000) : Ev (fun k => impl_JoinParts_1.f k (ls.map ofL) (ofL b)) (dv ls b) := by
  unfold impl_JoinParts_1.f
  exact ev_bind (impl_divides_ev ls b (by omega) (by omega)) (ev_some _)
theorem impl_ContainsParts_ev (ps : List (List Str)) (b : Str) (hb : b.length ≤ 1000000000000) (hn : tl ps ≤ 1000000000000) : Ev (fun k => slices_ContainsFunc_string_string_JoinParts_1.f k (ps.map (List.map ofL)) (ofL b)) (ps.any (fun c => dv c b)) := by
  unfold slices_ContainsFunc_string_string_JoinParts_1.f slices_IndexFunc_string_string_JoinParts_1.f
  have hl := tl_len ps
  have key : ∀ (r : List (List Str)) (n : Nat), decide (run (fun (n : Nat) c => if dv c b = true then .inl (n : Int) else .inr (n + 1)) (fun _ => (-1 : Int)) r n ≥ 0) = r.any (fun c => dv c b) := by
    intro r
    induction r with
    | nil => intro n; rfl
    | cons c r ih =>
      intro n
      unfold run
      cases e : dv c b with
      | true => simp [e]
      | false => simp only [Bool.false_eq_true, if_false, ih, List.any_cons, e, Bool.false_or]
  rw [List.length_map]
  refine ev_bind (run_start (xs := ps) (F := fun k (_ : Nat) i => slices_IndexFunc_string_string_JoinParts_1.l0 k (ps.map (List.map ofL)) (ps.length : Int) i (ofL b)) (st := fun n c => if dv c b = true then .inl (n : Int) else .inr (n + 1)) (fin := fun _ => (-1 : Int)) (s := 0) (fun p n => n = p.length) rfl ?_ ?_) (ev_eq (ev_some _) (key ps 0))
  · intro p c r n h hn'
    subst hn'
    have hz := len_mid h
    have hc : c.length ≤ tl ps := tl_mem (by rw [h]; simp)
    have e1 := rdLL_mid h
    have w1 : wrap64 ((p.length : Int) + 1) = (p.length : Int) + 1 := wrap_id (by omega) (by omega)
    simp only [slices_IndexFunc_string_string_JoinParts_1.l0, e1, w1, List.length_map]
    clear w1 e1
    have hd := impl_JoinParts_1_ev c b hb (by omega)
    cases e : dv c b with
    | true =>
      simp only [if_true]
      rw [e] at hd
      refine ⟨(fun v hv => ?_), fun s' hs => by cases hs⟩
      cases hv
      exact ev_pos (by omega) (ev_pos (by omega) (ev_pos (by omega) (ev_bind hd (ev_pos rfl (ev_some _)))))
    | false =>
      rw [e] at hd
      refine ⟨(fun v hv => by cases hv), fun s' hs => ⟨?_, fun v hv => ?_⟩⟩
      · cases hs; simp
      · exact ev_pos (by omega) (ev_pos (by omega) (ev_pos (by omega) (ev_bind hd (ev_neg (by simp) hv))))
  · intro s _
    simp only [slices_IndexFunc_string_string_JoinParts_1.l0]
    exact ev_neg (by omega) (ev_some _)
theorem impl_JoinParts_ev (ps : List (List Str)) (b : Str) (hb : b.length ≤ 1000000000000) (hn : tl ps ≤ 1000000000000) : Ev (fun k => impl_JoinParts.f k (ps.map (List.map ofL)) (ofL b)) (jres (jR b ps)) := by
  have hl := tl_len ps
  have hd := dash_len b
  have hbad : ∀ ps : List (List Str), Ev (fun k => impl_JoinParts.j0 k (ps.map (List.map ofL)) true (ofL b)) (jres none) := by
    intro ps
    refine ev_succ ?_
    simp only [impl_JoinParts.j0]
    exact ev_pos trivial (ev_some _)
  unfold impl_JoinParts.f
  refine ev_bind (impl_isBoundary_ev b (by omega)) ?_
  unfold jR
  cases e1 : isBd b with
  | false =>
    rw [if_neg (by simp)]
    exact ev_neg (by simp) (hbad ps)
  | true =>
    refine ev_pos rfl ?_
    rw [List.length_map]
    by_cases e2 : ps = []
    · rw [if_neg (by simp [e2])]
      exact ev_pos (by simp [e2]) (hbad ps)
    · have h2 : ps.length ≠ 0 := by rw [ne_eq, List.length_eq_zero_iff]; exact e2
      refine ev_neg (by omega) (ev_bind (impl_ContainsParts_ev ps b hb hn) ?_)
      cases e3 : ps.any (fun c => dv c b) with
      | true =>
        rw [if_neg (by simp)]
        exact hbad ps
      | false =>
        rw [if_pos ⟨rfl, e2, rfl⟩]
        refine ev_succ ?_
        simp only [impl_JoinParts.j0, Bool.false_eq_true, if_false, List.length_map]
        refine ev_eq (run_start (xs := ps) (F := fun k (out : List Str) i => impl_JoinParts.l0 k (out.map ofL) (ps.map (List.map ofL)) (ps.length : Int) i (ofL b)) (st := fun out c => .inr (out ++ (dash b :: c))) (fin := fun out => jres (some (out ++ [fin2 b]))) (s := []) (fun p out => out = jb b p) rfl ?_ ?_) ?_
        · intro p c r out h ho
          have hz := len_mid h
          have e1 := rdLL_mid h
          have hlen : out.length = tl p := by rw [ho, jb_len]
          have htl : tl ps = tl p + (c.length + 1 + tl r) := by rw [h, tl_append]; rfl
          have w1 : wrap64 ((p.length : Int) + 1) = (p.length : Int) + 1 := wrap_id (by omega) (by omega)
          simp only [impl_JoinParts.l0, e1, w1, List.length_map, dash_ofL, size_ofL, Option.bind_some, List.length_append, List.length_cons, List.length_nil]
          clear w1 e1
          refine ⟨(fun v hv => by cases hv), fun s' hs => ⟨?_, fun v hv => ?_⟩⟩
          · cases hs; rw [ho, jb_append]; simp [jb]
          · cases hs
            refine ev_pos (by omega) (ev_pos (by omega) (ev_pos (by omega) (ev_pos (by omega) (ev_pos (by omega) (ev_pos (by omega) ?_)))))
            have e5 : out.map ofL ++ [ofL (dash b)] ++ c.map ofL = (out ++ (dash b :: c)).map ofL := by simp
            rw [e5]
            exact hv
        · intro out ho
          have hlen : out.length = tl ps := by rw [ho, jb_len]
          have hd4 := fin_len b
          simp only [impl_JoinParts.l0, dash_ofL, fin_ofL, size_ofL, List.length_map]
          refine ev_neg (by omega) (ev_pos (by omega) (ev_pos (by omega) (ev_pos (by omega) (ev_eq (ev_some _) ?_))))
          simp [jres]
        · have key : ∀ (r : List (List Str)) (out : List Str), run (fun out c => .inr (out ++ (dash b :: c))) (fun out => jres (some (out ++ [fin2 b]))) r out = jres (some (out ++ jb b r ++ [fin2 b])) := by
            intro r
            induction r with
            | nil => intro out; simp [run, jb]
            | cons c r ih => intro out; unfold run; simp only; rw [ih]; simp [jb]
          exact key ps []

/-! Parts split: the model. The state: none, or the parts that are whole and the one that is open. -/
def sp (b : Str) : List Str → Option (List (List Str) × List Str) → Option (List (List Str))
  | [], _ => none
  | l :: r, none => if l = dash b then sp b r (some ([], [])) else sp b r none
  | l :: r, some (q, c) => if l = dash b then sp b r (some (q ++ [c], [])) else if l = fin2 b then some (q ++ [c]) else sp b r (some (q, c ++ [l]))
def spR (b : Str) (ls : List Str) : Option (List (List Str)) := if isBd b = true then sp b ls none else none
def spres (o : Option (List (List Str))) : List (List ByteArray) × Bool := match o with
  | none => ([], false)
  | some l => (l.map (List.map ofL), true)
def spSt (b : Str) (s : Option (List (List Str) × List Str)) (l : Str) : (List (List ByteArray) × Bool) ⊕ Option (List (List Str) × List Str) := match s with
  | none => if l = dash b then .inr (some ([], [])) else .inr none
  | some (q, c) => if l = dash b then .inr (some (q ++ [c], [])) else if l = fin2 b then .inl (spres (some (q ++ [c]))) else .inr (some (q, c ++ [l]))
theorem sp_run (b : Str) (r : List Str) : ∀ s, run (spSt b) (fun _ => spres none) r s = spres (sp b r s) := by
  induction r with
  | nil => intro s; rfl
  | cons l r ih =>
    intro s
    unfold run
    cases s with
    | none =>
      simp only [spSt, sp]
      by_cases h : l = dash b
      · simp only [if_pos h, ih]
      · simp only [if_neg h, ih]
    | some s =>
      obtain ⟨q, c⟩ := s
      simp only [spSt, sp]
      by_cases h : l = dash b
      · simp only [if_pos h, ih]
      · by_cases h2 : l = fin2 b
        · simp only [if_neg h, if_pos h2]
        · simp only [if_neg h, if_neg h2, ih]
def spSize : Option (List (List Str) × List Str) → Nat
  | none => 0
  | some (q, c) => q.length + 1 + c.length
/-- What is split is no longer than what came in. -/
theorem sp_size (b : Str) (r : List Str) : ∀ (s : Option (List (List Str) × List Str)) (o : List (List Str)), sp b r s = some o → tl o + 1 ≤ r.length + (match s with
    | none => 0
    | some (q, c) => tl q + 1 + c.length) ∧ o ≠ [] := by
  induction r with
  | nil => intro s o h; cases h
  | cons l r ih =>
    intro s o h
    simp only [List.length_cons]
    cases s with
    | none =>
      simp only [sp] at h ⊢
      by_cases h1 : l = dash b
      · rw [if_pos h1] at h
        obtain ⟨h2, h3⟩ := ih _ _ h
        simp only [tl, List.length_nil] at h2
        exact ⟨by omega, h3⟩
      · rw [if_neg h1] at h
        obtain ⟨h2, h3⟩ := ih _ _ h
        simp only at h2
        exact ⟨by omega, h3⟩
    | some s =>
      obtain ⟨q, c⟩ := s
      simp only [sp] at h ⊢
      by_cases h1 : l = dash b
      · rw [if_pos h1] at h
        obtain ⟨h2, h3⟩ := ih _ _ h
        simp only [tl_append, tl, List.length_nil] at h2
        exact ⟨by omega, h3⟩
      · rw [if_neg h1] at h
        by_cases h4 : l = fin2 b
        · rw [if_pos h4] at h
          cases h
          simp only [tl_append, tl]
          exact ⟨by omega, by simp⟩
        · rw [if_neg h4] at h
          obtain ⟨h2, h3⟩ := ih _ _ h
          simp only [List.length_append, List.length_cons, List.length_nil] at h2
          exact ⟨by omega, h3⟩
/-- No part holds a line that divides. -/
theorem sp_clean (b : Str) (r : List Str) : ∀ (s : Option (List (List Str) × List Str)) (o : List (List Str)), sp b r s = some o → (∀ q c, s = some (q, c) → (q.any (fun x => dv x b) = false ∧ dv c b = false)) → o.any (fun x => dv x b) = false := by
  induction r with
  | nil => intro s o h; cases h
  | cons l r ih =>
    intro s o h hs
    have hnil : dv [] b = false := by unfold dv; simp
    cases s with
    | none =>
      simp only [sp] at h
      by_cases h1 : l = dash b
      · rw [if_pos h1] at h
        exact ih _ _ h (fun q c e => by cases e; exact ⟨rfl, hnil⟩)
      · rw [if_neg h1] at h
        exact ih _ _ h (fun q c e => by cases e)
    | some s =>
      obtain ⟨q, c⟩ := s
      obtain ⟨hq, hc⟩ := hs q c rfl
      simp only [sp] at h
      have hqc : (q ++ [c]).any (fun x => dv x b) = false := by rw [List.any_append, hq]; simp [hc]
      by_cases h1 : l = dash b
      · rw [if_pos h1] at h
        exact ih _ _ h (fun q' c' e => by cases e; exact ⟨hqc, hnil⟩)
      · rw [if_neg h1] at h
        by_cases h4 : l = fin2 b
        · rw [if_pos h4] at h
          cases h
          exact hqc
        · rw [if_neg h4] at h
          refine ih _ _ h (fun q' c' e => by
            cases e
            refine ⟨hq, ?_⟩
            rw [dv_lk] at hc ⊢
            rw [List.any_append, hc]
            simp [lk, h1, h4])
/-- What is joined is split again. -/
theorem sp_part (b : Str) (c : List Str) : ∀ (rest : List Str) (q : List (List Str)) (d : List Str), dv c b = false → sp b (c ++ rest) (some (q, d)) = sp b rest (some (q, d ++ c)) := by
  induction c with
  | nil => intro rest q d _; simp
  | cons l c ih =>
    intro rest q d h
    rw [dv_lk, List.any_cons, Bool.or_eq_false_iff, ← dv_lk] at h
    obtain ⟨h1, h2⟩ := h
    simp only [lk, Bool.or_eq_false_iff, decide_eq_false_iff_not] at h1
    rw [List.cons_append, sp, if_neg h1.1, if_neg h1.2, ih rest q (d ++ [l]) h2]
    simp
theorem sp_jb (b : Str) (ps : List (List Str)) : ∀ (q : List (List Str)) (d : List Str) (rest : List Str), ps.any (fun x => dv x b) = false → sp b (jb b ps ++ fin2 b :: rest) (some (q, d)) = some (q ++ [d] ++ ps) := by
  induction ps with
  | nil =>
    intro q d rest _
    simp only [jb, List.nil_append, sp]
    rw [if_neg (fun h => dash_ne_fin b h.symm), if_pos trivial]
    simp
  | cons c r ih =>
    intro q d rest h
    rw [List.any_cons, Bool.or_eq_false_iff] at h
    simp only [jb, List.cons_append, sp]
    rw [if_pos trivial, List.append_assoc, sp_part b c _ _ _ h.1, ih _ _ _ h.2]
    simp
theorem sp_join (b : Str) (ps : List (List Str)) (rest : List Str) (h : ps.any (fun x => dv x b) = false) (hne : ps ≠ []) : sp b (jb b ps ++ fin2 b :: rest) none = some ps := by
  cases ps with
  | nil => exact absurd rfl hne
  | cons c r =>
    rw [List.any_cons, Bool.or_eq_false_iff] at h
    simp only [jb, List.cons_append, sp]
    rw [if_pos trivial, List.append_assoc, sp_part b c _ _ _ h.1, sp_jb b r _ _ _ h.2]
    simp
/-- Lines ahead of the first part, and behind the last, are left out. -/
theorem sp_before (b : Str) (x : Str) (hx : x ≠ dash b) (r : List Str) : sp b (x :: r) none = sp b r none := by
  rw [sp, if_neg hx]
theorem sp_behind (b : Str) (r : List Str) : ∀ (s : Option (List (List Str) × List Str)) (o : List (List Str)) (more : List Str), sp b r s = some o → sp b (r ++ more) s = some o := by
  induction r with
  | nil => intro s o more h; cases h
  | cons l r ih =>
    intro s o more h
    rw [List.cons_append]
    cases s with
    | none =>
      simp only [sp] at h ⊢
      split at h
      · rename_i h1; rw [if_pos h1]; exact ih _ _ _ h
      · rename_i h1; rw [if_neg h1]; exact ih _ _ _ h
    | some s =>
      obtain ⟨q, c⟩ := s
      simp only [sp] at h ⊢
      split at h
      · rename_i h1; rw [if_pos h1]; exact ih _ _ _ h
      · rename_i h1
        rw [if_neg h1]
        split at h
        · rename_i h2; rw [if_pos h2]; exact h
        · rename_i h2; rw [if_neg h2]; exact ih _ _ _ h

def spOut : Option (List (List Str) × List Str) → List (List Str)
  | none => []
  | some (q, c) => q ++ [c]
theorem rdLL_last (q : List (List Str)) (c : List Str) : rd_L3 ((q ++ [c]).map (List.map ofL)) (q.length : Int) = c.map ofL := rdLL_mid (p := q) (r := []) rfl
theorem impl_SplitParts_ev (ls : List Str) (b : Str) (hb : b.length ≤ 1000000000000) (hn : ls.length ≤ 1000000000000) : Ev (fun k => impl_SplitParts.f k (ls.map ofL) (ofL b)) (spres (spR b ls)) := by
  have hd := dash_len b
  unfold impl_SplitParts.f spR
  refine ev_bind (impl_isBoundary_ev b (by omega)) ?_
  cases e1 : isBd b with
  | false => exact ev_neg (by simp) (ev_some _)
  | true =>
    refine ev_pos rfl ?_
    rw [if_pos rfl, ← sp_run, List.length_map]
    refine run_start (xs := ls) (F := fun k (s : Option (List (List Str) × List Str)) i => impl_SplitParts.l0 k (ofL b) ((spOut s).map (List.map ofL)) (ls.map ofL) (ls.length : Int) i) (s := none) (fun p s => spSize s ≤ p.length) (by simp [spSize]) ?_ ?_
    · intro p l r s h hs
      have hz := len_mid h
      have e1 := rdOf_ofL h
      have w1 : wrap64 ((p.length : Int) + 1) = (p.length : Int) + 1 := wrap_id (by omega) (by omega)
      simp only [impl_SplitParts.l0, e1, w1, List.length_map, toList_ofL, dash_ofL, fin_ofL, size_ofL]
      clear w1 e1
      cases s with
      | none =>
        simp only [spSt, spOut, List.length_nil]
        by_cases h1 : l = dash b
        · simp only [if_pos h1]
          refine ⟨(fun v hv => by cases hv), fun s' hs' => ⟨?_, fun v hv => ?_⟩⟩
          · cases hs'; simp [spSize]
          · cases hs'
            exact ev_pos (by omega) (ev_pos (by omega) (ev_pos (by omega) (ev_pos (by omega) (ev_pos (by omega) hv))))
        · simp only [if_neg h1]
          refine ⟨(fun v hv => by cases hv), fun s' hs' => ⟨?_, fun v hv => ?_⟩⟩
          · cases hs'; simp [spSize]
          · cases hs'
            exact ev_pos (by omega) (ev_pos (by omega) (ev_pos (by omega) (ev_pos (by omega) (ev_pos (by simp) hv))))
      | some s =>
        obtain ⟨q, c⟩ := s
        simp only [spSize] at hs
        have w2 : wrap64 (((q.length + 1 : Nat) : Int) - 1) = (q.length : Int) := (wrap_id (by omega) (by omega)).trans (by omega)
        have hl2 : (q ++ [c]).length = q.length + 1 := by simp
        simp only [spSt, spOut, hl2, w2, rdLL_last, List.length_map]
        clear w2 hl2
        by_cases h1 : l = dash b
        · simp only [if_pos h1]
          refine ⟨(fun v hv => by cases hv), fun s' hs' => ⟨?_, fun v hv => ?_⟩⟩
          · cases hs'; simp [spSize]; omega
          · cases hs'
            refine ev_pos (by omega) (ev_pos (by omega) (ev_pos (by omega) (ev_pos (by omega) (ev_pos (by omega) ?_))))
            have e5 : (q ++ [c]).map (List.map ofL) ++ [[]] = (q ++ [c] ++ [[]]).map (List.map ofL) := by simp
            rw [e5]; exact hv
        · simp only [if_neg h1]
          by_cases h2 : l = fin2 b
          · simp only [if_pos h2]
            refine ⟨(fun v hv => ?_), fun s' hs' => by cases hs'⟩
            cases hv
            exact ev_pos (by omega) (ev_pos (by omega) (ev_pos (by omega) (ev_pos (by omega) (ev_neg (by omega) (ev_pos (by omega) (ev_some _))))))
          · simp only [if_neg h2]
            refine ⟨(fun v hv => by cases hv), fun s' hs' => ⟨?_, fun v hv => ?_⟩⟩
            · cases hs'; simp [spSize]; omega
            · cases hs'
              refine ev_pos (by omega) (ev_pos (by omega) (ev_pos (by omega) (ev_pos (by omega) (ev_neg (by omega) (ev_pos (by omega) (ev_pos (by omega) (ev_pos (by omega) (ev_pos (by omega) ?_))))))))
              have e5 : ((q ++ [c]).map (List.map ofL)).set (q.length : Int).toNat (c.map ofL ++ [ofL l]) = (q ++ [c ++ [l]]).map (List.map ofL) := by
                rw [Int.toNat_natCast]; simp
              rw [e5]; exact hv
    · intro s hs
      simp only [impl_SplitParts.l0]
      exact ev_neg (by omega) (ev_some _)

theorem run_unit {α R : Type} (fin : Unit → R) (r : List α) : run (fun (_ : Unit) (_ : α) => (.inr () : R ⊕ Unit)) fin r () = fin () := by
  induction r with
  | nil => rfl
  | cons c r ih => unfold run; exact ih
theorem jR_some {b : Str} {ps : List (List Str)} {s : List Str} (h : jR b ps = some s) : isBd b = true ∧ ps ≠ [] ∧ ps.any (fun c => dv c b) = false ∧ s = jb b ps ++ [fin2 b] := by
  unfold jR at h
  split at h
  · rename_i h1
    cases h
    exact ⟨h1.1, h1.2.1, h1.2.2, rfl⟩
  · cases h
theorem spR_some {b : Str} {ls : List Str} {ps : List (List Str)} (h : spR b ls = some ps) : isBd b = true ∧ sp b ls none = some ps ∧ tl ps + 1 ≤ ls.length ∧ ps ≠ [] ∧ ps.any (fun c => dv c b) = false := by
  unfold spR at h
  split at h
  · rename_i h1
    obtain ⟨h2, h3⟩ := sp_size b ls none ps h
    exact ⟨h1, h, by simpa using h2, h3, sp_clean b ls none ps h (fun q c e => by cases e)⟩
  · cases h
theorem spR_join {b : Str} {ps : List (List Str)} (rest : List Str) (h1 : isBd b = true) (h2 : ps ≠ []) (h3 : ps.any (fun c => dv c b) = false) : spR b (jb b ps ++ fin2 b :: rest) = some ps := by
  unfold spR
  rw [if_pos h1]
  exact sp_join b ps rest h3 h2

theorem fb_first {ls : List Str} (h : dv ls (bn 3) = false) : ∃ i, i ≤ 3 ∧ fb ls 100 0 = some (bn i) ∧ dv ls (bn i) = false := by
  simp only [fb]
  cases e0 : dv ls (bn 0) with
  | false => exact ⟨0, by omega, by simp, e0⟩
  | true =>
    cases e1 : dv ls (bn 1) with
    | false => exact ⟨1, by omega, by simp [e1], e1⟩
    | true =>
      cases e2 : dv ls (bn 2) with
      | false => exact ⟨2, by omega, by simp [e1, e2], e2⟩
      | true => exact ⟨3, by omega, by simp [e1, e2, h], h⟩
theorem FnFreshBoundary : laws_FnFreshBoundary.Pure := by
  intro l hlen hlen2 h
  apply ev_rounds
  unfold laws_FnFreshBoundary.f
  by_cases hc : (l.length : Int) > 1048576
  · exact ev_pos hc (ev_some _)
  · obtain ⟨ls, hd, hn, hx⟩ := DrawFreshBoundary_ev l h
    have i1 := impl_FreshBoundary_ev ls (by omega)
    have i2 := spec_FreshBoundary_ev ls (by omega)
    obtain ⟨i, hi, e, hdv⟩ := fb_first (fSet_b3 hx)
    have hbd : isBd (bn i) = true := by
      have : ∀ i, i ≤ 3 → isBd (bn i) = true := by decide +kernel
      exact this i hi
    have hbl := isBd_len hbd
    rw [e] at i1 i2
    have ij := impl_JoinParts_ev [ls, ls] (bn i) (by omega) (by simp only [tl]; omega)
    have hany : ([ls, ls] : List (List Str)).any (fun c => dv c (bn i)) = false := by simp [hdv]
    have ej : jR (bn i) [ls, ls] = some (jb (bn i) [ls, ls] ++ [fin2 (bn i)]) := by
      unfold jR
      rw [if_pos ⟨hbd, by simp, hany⟩]
    rw [ej] at ij
    have hj := jb_len (bn i) [ls, ls]
    simp only [tl] at hj
    have i4 := impl_SplitParts_ev (jb (bn i) [ls, ls] ++ [fin2 (bn i)]) (bn i) (by omega) (by rw [List.length_append, hj]; simp only [List.length_cons, List.length_nil]; omega)
    rw [spR_join [] hbd (by simp) hany] at i4
    have m := laws_mwTexts_ev ls ls (by omega)
    refine ev_neg hc (ev_bind hd (ev_bind i1 (ev_bind i2 (ev_pos rfl (ev_neg (by simp) (ev_succ ?_))))))
    simp only [laws_FnFreshBoundary.j0, fbres]
    refine ev_neg (by simp) (ev_bind ij (ev_bind i4 (ev_pos rfl (ev_pos rfl (ev_pos (by simp [spres]) (ev_pos (by simp [spres]) (ev_bind m (ev_pos (decide_eq_true rfl) (ev_pos (by simp [spres]) (ev_bind m (ev_eq (ev_some _) (decide_eq_true rfl))))))))))))

end Go.Proofs.Ytengipddcaookaa.Pure
