/- Proved here: the pure form of the law FnFreshFirst (the first one is taken) returns true for all arguments; conditions: none beyond those that the printed statement bears. -/
import Derived.Test.YtengipddcaookaaPFnFreshFirstx3
import Derived.Test.YtengipddcaookaaZb
namespace Go.Proofs.Ytengipddcaookaa.Pure
open Go.RowKit Go.Proofs.Ytengipddcaookaa.PFnFreshFirst Go.Proofs.YtengipddcaookaaW.PrintWords Go.Proofs.YtengipddcaookaaW.PrintLast Go.Proofs.Ytengipddcaookaa.Z
set_option linter.unusedVariables false
set_option linter.unusedSimpArgs false

/-! The reader of draws. -/
theorem xor_nonneg (a b : Nat) (ha : a < 9223372036854775808) (hb : b < 9223372036854775808) : Go.bits .xor .i64 (a : Int) (b : Int) = ((a ^^^ b : Nat) : Int) := by
  have hx : a ^^^ b < 2 ^ 63 := Nat.xor_lt_two_pow (by omega) (by omega)
  have h1 : (BitVec.ofInt 64 (a : Int)).toNat = a := by
    rw [BitVec.ofInt_natCast, BitVec.toNat_ofNat]; exact Nat.mod_eq_of_lt (by omega)
  have h2 : (BitVec.ofInt 64 (b : Int)).toNat = b := by
    rw [BitVec.ofInt_natCast, BitVec.toNat_ofNat]; exact Nat.mod_eq_of_lt (by omega)
  show IntKind.i64.wrap ((BitVec.ofInt 64 (a : Int) ^^^ BitVec.ofInt 64 (b : Int)).toNat : Int) = _
  rw [BitVec.toNat_xor, h1, h2]
  rw [i64_w]
  exact wrap_id (by omega) (by omega)
theorem tmod_in {a b : Int} (ha : 0 ≤ a) (hb : 1 ≤ b) : 0 ≤ Int.tmod a b ∧ Int.tmod a b < b := by
  rw [Int.tmod_eq_emod_of_nonneg ha]
  exact ⟨Int.emod_nonneg _ (by omega), Int.emod_lt_of_pos _ (by omega)⟩
/-- What is known of the bytes that are drawn from. -/
def IsB (l : List Int) : Prop := l.length ≤ 2000 ∧ ∀ x ∈ l, 0 ≤ x ∧ x ≤ 255
theorem rd_in {l : List Int} (h : IsB l) (i : Int) : 0 ≤ rd l i ∧ rd l i ≤ 255 := by
  unfold rd
  rw [List.getD_eq_getElem?_getD]
  cases e : l[i.toNat]? with
  | none => simp
  | some x => exact h.2 x (List.mem_of_getElem? e)
theorem pick_ev (l : List Int) (p n : Int) (hl : IsB l) (h0 : 0 ≤ p) (h1 : p ≤ 1000000000) (hn : 1 ≤ n) (hn2 : n ≤ 1000000000) :
    ∃ v, Ev (fun k => spec_l13Rd_pick.f k l p n) (v, p + 1) ∧ 0 ≤ v ∧ v < n := by
  have hw : wrap64 (p + 1) = p + 1 := wrap_id (by omega) (by omega)
  have hw2 : wrap64 (p + 1 - 1) = p := by rw [wrap_id (by omega) (by omega)]; omega
  have hlen := hl.1
  unfold spec_l13Rd_pick.f
  rw [hw]
  by_cases he : (l.length : Int) = 0
  · refine ⟨0, ev_neg (by omega) (ev_succ ?_), by omega, by omega⟩
    simp only [spec_l13Rd_pick.j0]
    refine ev_pos ?_ (ev_some _)
    rw [he]; rfl
  have hb : ((l.length : Int) == 0) = false := by simp at he ⊢; exact he
  rw [hb]
  by_cases hlt : p < (l.length : Int)
  · have hv := tmod_in (rd_in hl p).1 hn
    have hr : wrap64 (rd l p) = rd l p := by have := rd_in hl p; exact wrap_id (by omega) (by omega)
    refine ⟨Int.tmod (rd l p) n, ev_neg (by omega) (ev_succ ?_), hv.1, hv.2⟩
    simp only [spec_l13Rd_pick.j0, hw2, hr]
    exact ev_neg (by simp) (ev_pos hlt (ev_pos h0 (ev_neg (by omega) (ev_some _))))
  · have hq := tmod_in h0 (b := (l.length : Int)) (by omega)
    have hm : wrap64 (wrap64 (p * 7) + 3) = p * 7 + 3 := by rw [wrap_id (x := p * 7) (by omega) (by omega), wrap_id (by omega) (by omega)]
    have hq2 := tmod_in (a := p * 7 + 3) (by omega) (b := (l.length : Int)) (by omega)
    have r1 := rd_in hl (Int.tmod p l.length)
    have r2 := rd_in hl (Int.tmod (p * 7 + 3) l.length)
    generalize hA : rd l (Int.tmod p l.length) = A at r1
    generalize hB : rd l (Int.tmod (p * 7 + 3) l.length) = B at r2
    have hd : 0 ≤ Int.tdiv p l.length ∧ Int.tdiv p l.length ≤ p := by
      rw [Int.tdiv_eq_ediv_of_nonneg h0]
      refine ⟨Int.ediv_nonneg h0 (by omega), Int.ediv_le_self _ h0⟩
    generalize hD : Int.tdiv p l.length = D at hd
    have w1 : wrap64 A = A := wrap_id (by omega) (by omega)
    have w2 : wrap64 B = B := wrap_id (by omega) (by omega)
    have w3 : wrap64 (A * 131) = A * 131 := wrap_id (by omega) (by omega)
    have w4 : wrap64 (B * 1117) = B * 1117 := wrap_id (by omega) (by omega)
    have w5 : wrap64 (A * 131 + B * 1117) = A * 131 + B * 1117 := wrap_id (by omega) (by omega)
    have w6 : wrap64 (p * 29) = p * 29 := wrap_id (by omega) (by omega)
    have w7 : wrap64 (A * 131 + B * 1117 + p * 29) = A * 131 + B * 1117 + p * 29 := wrap_id (by omega) (by omega)
    have w8 : wrap64 D = D := wrap_id (by omega) (by omega)
    have w9 : wrap64 (D * 53) = D * 53 := wrap_id (by omega) (by omega)
    have w10 : wrap64 (A * 131 + B * 1117 + p * 29 + D * 53) = A * 131 + B * 1117 + p * 29 + D * 53 := wrap_id (by omega) (by omega)
    have hX : 0 ≤ A * 131 + B * 1117 + p * 29 + D * 53 ∧ A * 131 + B * 1117 + p * 29 + D * 53 < 9223372036854775808 := by omega
    generalize hXX : A * 131 + B * 1117 + p * 29 + D * 53 = X at hX w10
    have hX2 : 0 ≤ Int.tdiv X 64 ∧ Int.tdiv X 64 ≤ X := by
      rw [Int.tdiv_eq_ediv_of_nonneg hX.1]
      refine ⟨Int.ediv_nonneg hX.1 (by omega), Int.ediv_le_self _ hX.1⟩
    have w11 : wrap64 (Int.tdiv X 64) = Int.tdiv X 64 := wrap_id (by omega) (by omega)
    have hxor : 0 ≤ Go.bits .xor .i64 X (Int.tdiv X 64) := by
      obtain ⟨a, ha⟩ := Int.eq_ofNat_of_zero_le hX.1
      obtain ⟨b, hb⟩ := Int.eq_ofNat_of_zero_le hX2.1
      rw [hb, ha, xor_nonneg _ _ (by omega) (by omega)]
      omega
    have hv := tmod_in hxor hn
    refine ⟨Int.tmod (Go.bits .xor .i64 X (Int.tdiv X 64)) n, ev_neg (by omega) (ev_succ ?_), hv.1, hv.2⟩
    simp only [spec_l13Rd_pick.j0, hw2, hm, hA, hB, hD, w1, w2, w3, w4, w5, w6, w7, w8, w9, hXX, w10, w11]
    exact ev_neg (by simp) (ev_neg hlt (ev_neg he (ev_pos hq.1 (ev_pos hq.2 (ev_pos hq2.1 (ev_pos hq2.2 (ev_neg (by omega) (ev_some _))))))))
theorem isB_take {l : List Int} (h : ∀ x ∈ l, (Lit.int .u8 x).wf = true) (n : Nat) (hn : (l.take n).length ≤ 2000) : IsB (l.take n) := by
  refine ⟨hn, fun x hx => ?_⟩
  have := h x (List.mem_of_mem_take hx)
  simp [Lit.wf, IntKind.min, IntKind.max, IntKind.bits, IntKind.signed] at this
  omega
theorem of_ev (l : List Int) (p : Int) (ws : List ByteArray) (hl : IsB l) (h0 : 0 ≤ p) (h1 : p ≤ 1000000000) (hn : 1 ≤ ws.length) (hn2 : ws.length ≤ 1000000) :
    ∃ v, Ev (fun k => spec_l13Rd_of.f k l p ws) (v, p + 1) ∧ v ∈ ws := by
  obtain ⟨i, hi, i0, i1⟩ := pick_ev l p ws.length hl h0 h1 (by omega) (by omega)
  have hlt : i.toNat < ws.length := by omega
  refine ⟨rdOf ByteArray.empty ws i, ?_, ?_⟩
  · unfold spec_l13Rd_of.f
    exact ev_bind hi (ev_pos i0 (ev_pos i1 (ev_some _)))
  · unfold rdOf
    rw [List.getD_eq_getElem?_getD, List.getElem?_eq_getElem hlt]
    exact List.getElem_mem hlt
theorem num_ev (l : List Int) (p : Int) (ws : List Int) (hl : IsB l) (h0 : 0 ≤ p) (h1 : p ≤ 1000000000) (hn : 1 ≤ ws.length) (hn2 : ws.length ≤ 1000000) :
    ∃ v, Ev (fun k => spec_l13Rd_num.f k l p ws) (v, p + 1) ∧ v ∈ ws := by
  obtain ⟨i, hi, i0, i1⟩ := pick_ev l p ws.length hl h0 h1 (by omega) (by omega)
  have hlt : i.toNat < ws.length := by omega
  refine ⟨rd ws i, ?_, ?_⟩
  · unfold spec_l13Rd_num.f
    exact ev_bind hi (ev_pos i0 (ev_pos i1 (ev_some _)))
  · unfold rd
    rw [List.getD_eq_getElem?_getD, List.getElem?_eq_getElem hlt]
    exact List.getElem_mem hlt
theorem open_ev (l : List Int) (h : ∀ x ∈ l, (Lit.int .u8 x).wf = true) : ∃ l', spec_l13Open.f l = some (l', 0) ∧ IsB l' := by
  unfold spec_l13Open.f
  by_cases hc : (l.length : Int) > 2000
  · refine ⟨l.take 2000, ?_, isB_take h 2000 (by rw [List.length_take]; omega)⟩
    rw [if_pos hc, if_pos (by omega)]
  · refine ⟨l, by rw [if_neg hc], ?_⟩
    have := isB_take h l.length (by rw [List.take_length]; omega)
    rwa [List.take_length] at this

theorem mem_L {v : ByteArray} {ws : List ByteArray} (h : v ∈ ws) : L v ∈ ws.map L := List.mem_map_of_mem h
theorem small_nat {n : Int} {ws : List Int} (h : n ∈ ws) (m : Nat) (hm : ∀ x ∈ ws, 0 ≤ x ∧ x ≤ (m : Int)) : ∃ k : Nat, n = (k : Int) ∧ k ≤ m := by
  have := hm n h
  exact ⟨n.toNat, by omega, by omega⟩

/-! Lines that divide: the model. -/
def dash (b : Str) : Str := [45, 45] ++ b
def fin2 (b : Str) : Str := [45, 45] ++ b ++ [45, 45]
def dv (ls : List Str) (b : Str) : Bool := decide (dash b ∈ ls) || decide (fin2 b ∈ ls)
def lk (l b : Str) : Bool := decide (l = dash b) || decide (l = fin2 b)
theorem dv_lk (ls : List Str) (b : Str) : dv ls b = ls.any (fun l => lk l b) := by
  unfold dv
  rw [Bool.eq_iff_iff]
  simp only [lk, Bool.or_eq_true, decide_eq_true_iff, List.any_eq_true]
  constructor
  · rintro (h | h)
    · exact ⟨_, h, Or.inl rfl⟩
    · exact ⟨_, h, Or.inr rfl⟩
  · rintro ⟨x, h, rfl | rfl⟩
    · exact Or.inl h
    · exact Or.inr h
theorem dash_ne_fin (b : Str) : dash b ≠ fin2 b := by
  unfold dash fin2
  intro h
  have := congrArg List.length h
  simp at this
theorem dash_ofL (b : Str) : (⟨#[45, 45]⟩ : ByteArray) ++ ofL b = ofL (dash b) := by rw [mk_ofL, lit_list, ofL_append]; rfl
theorem fin_ofL (b : Str) : ofL (dash b) ++ (⟨#[45, 45]⟩ : ByteArray) = ofL (fin2 b) := by rw [mk_ofL, lit_list, ofL_append]; rfl
theorem dash_len (b : Str) : (dash b).length = b.length + 2 := by unfold dash; simp
theorem fin_len (b : Str) : (fin2 b).length = b.length + 4 := by unfold fin2; simp

theorem slices_Index_ev (ls : List Str) (x : Str) (hn : ls.length ≤ 1000000000000000) : ∃ i : Int, Ev (fun k => slices_Index_string_string.f k (ls.map ofL) (ofL x)) i ∧ (i = -1 ∨ 0 ≤ i) ∧ (0 ≤ i ↔ x ∈ ls) := by
  unfold slices_Index_string_string.f
  rw [List.length_map]
  refine ⟨_, run_start (xs := ls) (F := fun k (_ : Nat) i => slices_Index_string_string.l0 k (ls.map ofL) (ofL x) (ls.length : Int) i) (st := fun n c => if x = c then .inl (n : Int) else .inr (n + 1)) (fin := fun _ => (-1 : Int)) (s := 0) (fun p n => n = p.length) rfl ?_ ?_, ?_, ?_⟩
  · intro p c r n h hn
    subst hn
    have hz := len_mid h
    have e1 := rdOf_ofL h
    have w1 : wrap64 ((p.length : Int) + 1) = (p.length : Int) + 1 := wrap_id (by omega) (by omega)
    simp only [slices_Index_string_string.l0, e1, w1, List.length_map, toList_ofL]
    clear w1 e1
    by_cases e : x = c
    · simp only [if_pos e]
      refine ⟨(fun v hv => ?_), fun s' hs => by cases hs⟩
      cases hv
      exact ev_pos (by omega) (ev_pos (by omega) (ev_pos (by omega) (ev_some _)))
    · simp only [if_neg e]
      refine ⟨(fun v hv => by cases hv), fun s' hs => ⟨?_, fun v hv => ?_⟩⟩
      · cases hs; simp
      · exact ev_pos (by omega) (ev_pos (by omega) (ev_pos (by omega) hv))
  · intro s _
    simp only [slices_Index_string_string.l0]
    exact ev_neg (by omega) (ev_some _)
  · have key : ∀ (r : List Str) (n : Nat), run (fun (n : Nat) c => if x = c then .inl (n : Int) else .inr (n + 1)) (fun _ => (-1 : Int)) r n = -1 ∨ 0 ≤ run (fun (n : Nat) c => if x = c then .inl (n : Int) else .inr (n + 1)) (fun _ => (-1 : Int)) r n := by
      intro r
      induction r with
      | nil => intro n; exact Or.inl rfl
      | cons c r ih =>
        intro n
        unfold run
        by_cases e : x = c
        · simp only [if_pos e]; exact Or.inr (by omega)
        · simp only [if_neg e]; exact ih (n + 1)
    exact key ls 0
  · have key : ∀ (r : List Str) (n : Nat), 0 ≤ run (fun (n : Nat) c => if x = c then .inl (n : Int) else .inr (n + 1)) (fun _ => (-1 : Int)) r n ↔ x ∈ r := by
      intro r
      induction r with
      | nil => intro n; simp [run]
      | cons c r ih =>
        intro n
        unfold run
        by_cases e : x = c
        · simp only [if_pos e]; simp [e]
        · simp only [if_neg e]; rw [ih]; simp [e]
    exact key ls 0
theorem slices_Contains_ev (ls : List Str) (x : Str) (hn : ls.length ≤ 1000000000000000) : Ev (fun k => slices_Contains_string_string.f k (ls.map ofL) (ofL x)) (decide (x ∈ ls)) := by
  obtain ⟨i, hi, h1, h2⟩ := slices_Index_ev ls x hn
  unfold slices_Contains_string_string.f
  refine ev_bind hi (ev_eq (ev_some _) ?_)
  by_cases h : x ∈ ls
  · rw [decide_eq_true h]; exact decide_eq_true (h2.mpr h)
  · rw [decide_eq_false h]; exact decide_eq_false (fun hh => h (h2.mp hh))

theorem impl_divides_ev (ls : List Str) (b : Str) (hb : b.length ≤ 1000000000000000) (hn : ls.length ≤ 1000000000000000) : Ev (fun k => impl_divides.f k (ls.map ofL) (ofL b)) (dv ls b) := by
  unfold impl_divides.f dv
  have hd := dash_len b
  simp only [dash_ofL, fin_ofL, size_ofL]
  refine ev_pos (by omega) (ev_bind (slices_Contains_ev ls (dash b) hn) ?_)
  cases e : decide (dash b ∈ ls) with
  | true => exact ev_pos rfl (ev_some _)
  | false => exact ev_neg (by simp) (ev_pos (by omega) (ev_bind (slices_Contains_ev ls (fin2 b) hn) (ev_some _)))

theorem spec_l7Looks_eq (l b : Str) (hb : b.length ≤ 1000000000000000) : spec_l7Looks.f (ofL l) (ofL b) = some (lk l b) := by
  unfold spec_l7Looks.f lk
  have hd := dash_len b
  simp only [dash_ofL, fin_ofL, size_ofL, toList_ofL]
  rw [if_pos (by omega)]
  by_cases h : l = dash b
  · rw [if_pos h, decide_eq_true h]; rfl
  · rw [if_neg h, decide_eq_false h, if_pos (by omega)]
    simp only [Bool.false_or]
    congr 1
    rw [Bool.eq_iff_iff]; simp

/-- The lines that are drawn. -/
def l7Set : List Str := [[45, 45, 98, 48], [97], [], [45, 45, 98, 48, 45, 45], [45, 45, 98, 49], [116, 101, 120, 116], [45, 45, 98, 48, 32], [98, 101, 102, 111, 114, 101], [97, 102, 116, 101, 114]]
theorem l7Set_len {x : Str} (h : x ∈ l7Set) : x.length ≤ 100 := by
  have : ∀ y ∈ l7Set, y.length ≤ 100 := by decide
  exact this x h
theorem l7Lines_loop (l : List Int) (hl : IsB l) (n : Nat) : ∀ (s : List Str) (p : Int), 0 ≤ p → p + n ≤ 1000000 → s.length + n ≤ 1000000 → (∀ x ∈ s, x ∈ l7Set) →
    ∃ (t : List Str) (q : Int), Ev (fun k => spec_l7Lines.l0 k (s.map ofL) (n : Int) l p) (t.map ofL, q) ∧ t.length ≤ s.length + n + 4 ∧ (∀ x ∈ t, x ∈ l7Set) ∧ 0 ≤ q ∧ q ≤ p + n + 1 := by
  induction n with
  | zero =>
    intro s p h0 h1 h2 h3
    obtain ⟨i, hi, i0, i1⟩ := pick_ev l p 2 hl h0 (by omega) (by omega) (by omega)
    by_cases e : i = 0
    · refine ⟨[[98, 101, 102, 111, 114, 101], [45, 45, 98, 48]] ++ s ++ [[45, 45, 98, 48, 45, 45], [97, 102, 116, 101, 114]], p + 1, ev_succ ?_, ?_, ?_, by omega, by omega⟩
      · simp only [spec_l7Lines.l0, Option.bind_some]
        refine ev_neg (by omega) (ev_bind hi (ev_pos e (ev_pos ?_ (ev_pos ?_ (ev_eq (ev_some _) ?_)))))
        · simp only [List.length_cons, List.length_nil, List.length_map]; omega
        · simp only [List.length_append, List.length_cons, List.length_nil, List.length_map]; omega
        · rw [List.map_append, List.map_append]; rfl
      · simp only [List.length_append, List.length_cons, List.length_nil]; omega
      · intro x hx
        rcases List.mem_append.mp hx with hx | hx
        · rcases List.mem_append.mp hx with hx | hx
          · have : ∀ y ∈ ([[98, 101, 102, 111, 114, 101], [45, 45, 98, 48]] : List Str), y ∈ l7Set := by decide
            exact this x hx
          · exact h3 x hx
        · have : ∀ y ∈ ([[45, 45, 98, 48, 45, 45], [97, 102, 116, 101, 114]] : List Str), y ∈ l7Set := by decide
          exact this x hx
    · refine ⟨s, p + 1, ev_succ ?_, by omega, h3, by omega, by omega⟩
      simp only [spec_l7Lines.l0, Option.bind_some]
      exact ev_neg (by omega) (ev_bind hi (ev_neg e (ev_some _)))
  | succ n ih =>
    intro s p h0 h1 h2 h3
    obtain ⟨v, hv, hm⟩ := of_ev l p [(⟨#[45, 45, 98, 48]⟩ : ByteArray), (⟨#[97]⟩ : ByteArray), (⟨#[]⟩ : ByteArray), (⟨#[45, 45, 98, 48]⟩ : ByteArray), (⟨#[45, 45, 98, 48, 45, 45]⟩ : ByteArray), (⟨#[45, 45, 98, 49]⟩ : ByteArray), (⟨#[116, 101, 120, 116]⟩ : ByteArray), (⟨#[45, 45, 98, 48, 32]⟩ : ByteArray)] hl h0 (by omega) (by simp) (by simp)
    have hmem : L v ∈ l7Set := by
      have := mem_L hm
      have h5 : ∀ y ∈ ([[45, 45, 98, 48], [97], [], [45, 45, 98, 48], [45, 45, 98, 48, 45, 45], [45, 45, 98, 49], [116, 101, 120, 116], [45, 45, 98, 48, 32]] : List Str), y ∈ l7Set := by decide
      exact h5 _ this
    obtain ⟨t, q, ht, hq, hx, hq0, hq1⟩ := ih (s ++ [L v]) (p + 1) (by omega) (by omega) (by rw [List.length_append]; simp only [List.length_cons, List.length_nil]; omega) (fun x hx => by
      rcases List.mem_append.mp hx with h | h
      · exact h3 x h
      · rw [List.mem_singleton.mp h]; exact hmem)
    simp only [List.length_append, List.length_cons, List.length_nil] at hq
    refine ⟨t, q, ev_succ ?_, by omega, hx, hq0, by omega⟩
    have e : (((n + 1 : Nat) : Int) - 1) = (n : Int) := by omega
    have w : wrap64 (n : Int) = n := wrap_id (by omega) (by omega)
    simp only [spec_l7Lines.l0, e, w]
    refine ev_pos (by omega) (ev_bind hv ?_)
    rw [List.map_append] at ht
    exact ev_pos (by rw [List.length_map]; omega) ht
theorem l7Lines_ev (l : List Int) (hl : IsB l) : ∃ (t : List Str) (q : Int), Ev (fun k => spec_l7Lines.f k l 0) (t.map ofL, q) ∧ t.length ≤ 10 ∧ (∀ x ∈ t, x ∈ l7Set) ∧ 0 ≤ q ∧ q ≤ 10 := by
  obtain ⟨n, hn, hm⟩ := num_ev l 0 [4, 3, 6, 2, 0] hl (by omega) (by omega) (by simp) (by simp)
  obtain ⟨m, rfl, hm⟩ := small_nat hm 6 (by decide)
  obtain ⟨t, q, ht, hq, hx, hq0, hq1⟩ := l7Lines_loop l hl m [] (0 + 1) (by omega) (by omega) (by simp; omega) (by simp)
  simp only [List.length_nil] at hq
  refine ⟨t, q, ?_, by omega, hx, hq0, by omega⟩
  unfold spec_l7Lines.f
  exact ev_bind hn ht

/-! The first boundary that no line divides at: the model. -/
def dg (m : Nat) : UInt8 := UInt8.ofNat (48 + m)
def dec (n : Nat) : Str := if n < 10 then [dg n] else [dg (n / 10), dg (n % 10)]
def bn (n : Nat) : Str := 98 :: dec n
def fb (ls : List Str) : Nat → Nat → Option Str
  | 0, _ => none
  | m + 1, i => if dv ls (bn i) = true then fb ls m (i + 1) else some (bn i)
def fbres (o : Option Str) : ByteArray × Bool := match o with
  | none => (⟨#[]⟩, false)
  | some b => (ofL b, true)
theorem dec_len (n : Nat) : (dec n).length ≤ 2 := by
  unfold dec; split <;> simp
theorem bn_len (n : Nat) : (bn n).length ≤ 3 := by
  have := dec_len n
  unfold bn; simp only [List.length_cons]; omega
theorem bn_ofL (n : Nat) : (⟨#[98]⟩ : ByteArray) ++ ofL (dec n) = ofL (bn n) := by rw [mk_ofL, ofL_append]; rfl
theorem dg_slice (m : Nat) (h : m < 10) : (⟨#[48, 49, 50, 51, 52, 53, 54, 55, 56, 57]⟩ : ByteArray).extract m (m + 1) = ofL [dg m] := by
  rw [mk_ofL, extract_ofL]
  have : ∀ m < 10, List.take (m + 1 - m) (List.drop m [48, 49, 50, 51, 52, 53, 54, 55, 56, 57]) = [dg m] := by decide
  rw [← this m h]
theorem dg_num (m : Nat) (h : m < 10) : (wrap64 (48 + (m : Int))) % 256 = ((dg m).toNat : Int) := by
  have : ∀ m : Nat, m < 10 → (wrap64 (48 + (m : Int))) % 256 = ((dg m).toNat : Int) := by decide +kernel
  exact this m h
theorem impl_dec_step (n : Nat) (hn : n < 1000) (x : Int) (t : Str) (ht : t.length ≤ 100) (hc : n > 0 ∨ x > 0) {V : ByteArray} (hv : Ev (fun k => impl_decimal.l0 k ((n / 10 : Nat) : Int) (wrap64 (x - 1)) (ofL (dg (n % 10) :: t))) V) : Ev (fun k => impl_decimal.l0 k (n : Int) x (ofL t)) V := by
  have hm : n % 10 < 10 := Nat.mod_lt _ (by omega)
  have hd : n / 10 < 1000 := by omega
  have e1 : Int.tmod (n : Int) 10 = ((n % 10 : Nat) : Int) := (Int.ofNat_tmod n 10).symm
  have e2 : wrap64 (Int.tdiv (n : Int) 10) = ((n / 10 : Nat) : Int) := by
    rw [show Int.tdiv (n : Int) 10 = ((n / 10 : Nat) : Int) from (Int.ofNat_tdiv n 10).symm]
    exact wrap_id (by omega) (by omega)
  have e3 : wrap64 (((n % 10 : Nat) : Int) + 1) = ((n % 10 + 1 : Nat) : Int) := (wrap_id (by omega) (by omega)).trans (by omega)
  refine ev_succ ?_
  simp only [impl_decimal.l0, e1, e2, e3, Int.toNat_natCast, dg_slice _ hm, size_ofL, ofL_append, List.length_cons, List.length_nil, List.cons_append, List.nil_append]
  clear e1 e2 e3
  by_cases h : (n : Int) > 0
  · exact ev_pos h (ev_pos (by omega) (ev_pos (by omega) (ev_pos (by omega) (ev_pos (by omega) hv))))
  · exact ev_neg h (ev_pos (by omega) (ev_pos (by omega) (ev_pos (by omega) (ev_pos (by omega) (ev_pos (by omega) hv)))))
theorem impl_dec_end (x : Int) (hx : ¬ x > 0) (t : Str) : Ev (fun k => impl_decimal.l0 k 0 x (ofL t)) (ofL t) := by
  refine ev_succ ?_
  simp only [impl_decimal.l0]
  exact ev_neg (by omega) (ev_neg hx (ev_some _))
theorem impl_decimal_ev (n : Nat) (h : n < 100) : Ev (fun k => impl_decimal.f k (n : Int) 1) (ofL (dec n)) := by
  unfold impl_decimal.f
  refine impl_dec_step n (by omega) 1 [] (by simp) (Or.inr (by omega)) ?_
  unfold dec
  by_cases h1 : n < 10
  · rw [if_pos h1]
    have e : n / 10 = 0 := by omega
    have e2 : n % 10 = n := by omega
    rw [e, e2]
    exact impl_dec_end _ (by decide +kernel) _
  · rw [if_neg h1]
    refine impl_dec_step (n / 10) (by omega) _ _ (by simp) (Or.inl (by omega)) ?_
    have e : n / 10 / 10 = 0 := by omega
    have e2 : n / 10 % 10 = n / 10 := by omega
    rw [e, e2]
    exact impl_dec_end _ (by decide +kernel) _
theorem spec_dec_ev (n : Nat) (h : n < 100) : Ev (fun k => spec_l13Dec.f k (n : Int)) (ofL (dec n)) := by
  have last : ∀ (m : Nat) (t : Str), m < 10 → t.length ≤ 10 → Ev (fun k => spec_l13Dec.l0 k (m : Int) (ofL t)) (ofL (dg m :: t)) := by
    intro m t hm ht
    refine ev_succ ?_
    have e1 : strOfNums [((dg m).toNat : Int)] = ofL [dg m] := strOfNums_zn [dg m]
    simp only [spec_l13Dec.l0, Option.bind_some, dg_num m hm, e1, size_ofL, ofL_append, List.length_cons, List.length_nil, List.cons_append, List.nil_append]
    exact ev_neg (by omega) (ev_pos (by omega) (ev_some _))
  refine ev_succ ?_
  simp only [spec_l13Dec.f]
  refine ev_neg (by omega) (ev_neg (by omega) ?_)
  unfold dec
  by_cases h1 : n < 10
  · rw [if_pos h1]
    exact last n [] h1 (by simp)
  · rw [if_neg h1]
    have hm : n % 10 < 10 := Nat.mod_lt _ (by omega)
    have hl := last (n / 10) [dg (n % 10)] (by omega) (by simp)
    have e0 : Int.tmod (n : Int) 10 = ((n % 10 : Nat) : Int) := (Int.ofNat_tmod n 10).symm
    have e2 : wrap64 (Int.tdiv (n : Int) 10) = ((n / 10 : Nat) : Int) := by
      rw [show Int.tdiv (n : Int) 10 = ((n / 10 : Nat) : Int) from (Int.ofNat_tdiv n 10).symm]
      exact wrap_id (by omega) (by omega)
    have e1 : strOfNums [((dg (n % 10)).toNat : Int)] = ofL [dg (n % 10)] := strOfNums_zn [dg (n % 10)]
    have e3 : (⟨#[]⟩ : ByteArray) = ofL [] := rfl
    refine ev_succ ?_
    simp only [spec_l13Dec.l0, Option.bind_some, e0, e2, e3, dg_num _ hm, e1, size_ofL, ofL_append, List.length_cons, List.length_nil, List.cons_append, List.nil_append]
    clear e0 e2
    exact ev_pos (by omega) (ev_pos (by omega) hl)
theorem impl_FreshBoundary_loop (ls : List Str) (hn : ls.length ≤ 1000000000000) (m : Nat) : ∀ (i : Nat), i + m = 100 → Ev (fun k => impl_FreshBoundary.l0 k (ls.map ofL) (i : Int)) (fbres (fb ls m i)) := by
  induction m with
  | zero =>
    intro i hi
    refine ev_succ ?_
    simp only [impl_FreshBoundary.l0]
    exact ev_neg (by omega) (ev_some _)
  | succ m ih =>
    intro i hi
    have hd := impl_decimal_ev i (by omega)
    have hb := bn_len i
    have hdv := impl_divides_ev ls (bn i) (by omega) (by omega)
    have hl := dec_len i
    have := ih (i + 1) (by omega)
    have w1 : wrap64 ((i : Int) + 1) = ((i + 1 : Nat) : Int) := (wrap_id (by omega) (by omega)).trans (by omega)
    refine ev_succ ?_
    simp only [impl_FreshBoundary.l0, w1, fb]
    clear w1
    refine ev_pos (by omega) (ev_bind hd ?_)
    simp only [size_ofL, bn_ofL]
    refine ev_pos (by omega) (ev_bind hdv ?_)
    cases e : dv ls (bn i) with
    | true => exact ev_pos rfl this
    | false => exact ev_neg (by simp) (ev_some _)
theorem impl_FreshBoundary_ev (ls : List Str) (hn : ls.length ≤ 1000000000000) : Ev (fun k => impl_FreshBoundary.f k (ls.map ofL)) (fbres (fb ls 100 0)) := by
  unfold impl_FreshBoundary.f
  exact impl_FreshBoundary_loop ls hn 100 0 rfl
theorem lk_run {R : Type} (b : Str) (fin : Bool → R) (r : List Str) : ∀ s : Bool, run (fun (s : Bool) l => (.inr (s && !lk l b) : R ⊕ Bool)) fin r s = fin (s && !(r.any (fun l => lk l b))) := by
  induction r with
  | nil => intro s; simp [run]
  | cons c r ih =>
    intro s
    unfold run
    simp only [ih, List.any_cons, Bool.not_or, Bool.and_assoc]
theorem spec_FreshBoundary_loop (ls : List Str) (hn : ls.length ≤ 1000000000000) (m : Nat) : ∀ (i : Nat), i + m = 100 → Ev (fun k => spec_FreshBoundary.l0 k (ls.map ofL) (i : Int)) (fbres (fb ls m i)) := by
  induction m with
  | zero =>
    intro i hi
    refine ev_succ ?_
    simp only [spec_FreshBoundary.l0]
    exact ev_neg (by omega) (ev_some _)
  | succ m ih =>
    intro i hi
    have hd := spec_dec_ev i (by omega)
    have hb := bn_len i
    have hl := dec_len i
    have hi2 := ih (i + 1) (by omega)
    refine ev_succ ?_
    simp only [spec_FreshBoundary.l0]
    refine ev_pos (by omega) (ev_bind hd ?_)
    simp only [size_ofL, bn_ofL]
    refine ev_pos (by omega) ?_
    refine ev_eq (run_start (xs := ls) (F := fun k (s : Bool) j => spec_FreshBoundary.l1 k (ls.map ofL) (i : Int) (ofL (bn i)) s j) (st := fun s l => .inr (s && !lk l (bn i))) (fin := fun s => if s = true then (ofL (bn i), true) else fbres (fb ls m (i + 1))) (s := true) (fun _ _ => True) trivial ?_ ?_) ?_
    · intro p c r s h _
      have hz := len_mid h
      have e1 := rdOf_ofL h
      have w1 : wrap64 ((p.length : Int) + 1) = (p.length : Int) + 1 := wrap_id (by omega) (by omega)
      simp only [spec_FreshBoundary.l1, e1, w1, List.length_map]
      clear w1 e1
      refine ⟨(fun v hv => by cases hv), fun s' hs => ⟨trivial, fun v hv => ?_⟩⟩
      cases hs
      refine ev_pos (by omega) ?_
      cases s with
      | true => exact ev_pos rfl (ev_pos (by omega) (ev_bind0 (spec_l7Looks_eq c (bn i) (by omega)) hv))
      | false => exact ev_neg (by simp) hv
    · intro s _
      have w1 : wrap64 ((i : Int) + 1) = ((i + 1 : Nat) : Int) := (wrap_id (by omega) (by omega)).trans (by omega)
      simp only [spec_FreshBoundary.l1, List.length_map, w1]
      clear w1
      refine ev_neg (by omega) ?_
      cases s with
      | true => exact ev_pos rfl (ev_some _)
      | false => exact ev_neg (by simp) hi2
    · rw [lk_run, ← dv_lk]
      cases e : dv ls (bn i) <;> simp [fb, e, fbres]
theorem spec_FreshBoundary_ev (ls : List Str) (hn : ls.length ≤ 1000000000000) : Ev (fun k => spec_FreshBoundary.f k (ls.map ofL)) (fbres (fb ls 100 0)) := by
  unfold spec_FreshBoundary.f
  exact spec_FreshBoundary_loop ls hn 100 0 rfl

/-- The lines that are drawn for a fresh boundary. -/
def fSet : List Str := l7Set ++ [[45, 45, 98, 49], [45, 45, 98, 50, 45, 45], [120]]
theorem DrawFreshBoundary_ev (l : List Int) (h : ∀ x ∈ l, (Lit.int .u8 x).wf = true) : ∃ (t : List Str), Ev (fun k => spec_DrawFreshBoundary.f k l) (t.map ofL) ∧ t.length ≤ 11 ∧ (∀ x ∈ t, x ∈ fSet) := by
  obtain ⟨l', ho, hb⟩ := open_ev l h
  obtain ⟨t, q, ht, hq, hx, hq0, hq1⟩ := l7Lines_ev l' hb
  obtain ⟨v, hv, hm⟩ := of_ev l' q [(⟨#[45, 45, 98, 49]⟩ : ByteArray), (⟨#[45, 45, 98, 50, 45, 45]⟩ : ByteArray), (⟨#[120]⟩ : ByteArray)] hb hq0 (by omega) (by simp) (by simp)
  refine ⟨t ++ [L v], ?_, by simp; omega, ?_⟩
  · unfold spec_DrawFreshBoundary.f
    refine ev_bind0 ho (ev_bind ht (ev_bind hv (ev_pos (by simp; omega) (ev_eq (ev_some _) ?_))))
    rw [List.map_append]; rfl
  · intro x hx2
    unfold fSet
    rcases List.mem_append.mp hx2 with h1 | h1
    · exact List.mem_append_left _ (hx x h1)
    · rw [List.mem_singleton.mp h1]
      exact List.mem_append_right _ (mem_L hm)
theorem fSet_b3 {ls : List Str} (h : ∀ x ∈ ls, x ∈ fSet) : dv ls (bn 3) = false := by
  unfold dv
  rw [Bool.or_eq_false_iff]
  have h1 : dash (bn 3) ∉ fSet := by decide
  have h2 : fin2 (bn 3) ∉ fSet := by decide
  exact ⟨decide_eq_false (fun hh => h1 (h _ hh)), decide_eq_false (fun hh => h2 (h _ hh))⟩
theorem fb_three {ls : List Str} (h : dv ls (bn 3) = false) : ∃ i, i ≤ 3 ∧ fb ls 100 0 = some (bn i) := by
  simp only [fb]
  cases e0 : dv ls (bn 0) with
  | false => exact ⟨0, by omega, by simp⟩
  | true =>
    cases e1 : dv ls (bn 1) with
    | false => exact ⟨1, by omega, by simp [e1]⟩
    | true =>
      cases e2 : dv ls (bn 2) with
      | false => exact ⟨2, by omega, by simp [e1, e2]⟩
      | true => exact ⟨3, by omega, by simp [e1, e2, h]⟩
theorem fb_none {ls : List Str} (h : ∀ x ∈ ls, x.head? ≠ some 45) : fb ls 100 0 = some (bn 0) := by
  have : dv ls (bn 0) = false := by
    unfold dv
    rw [Bool.or_eq_false_iff]
    exact ⟨decide_eq_false (fun hh => h _ hh rfl), decide_eq_false (fun hh => h _ hh rfl)⟩
  simp only [fb, this]
  simp

theorem FnFreshFirst_loop (ls : List Str) (hn : ls.length ≤ 1000000) (b : Str) (hb : b.length = 2) (r : List Str) : ∀ (p : List Str), ls = p ++ r → (∀ x ∈ p, x.head? ≠ some 45) → (b = bn 0 ∨ ∃ x ∈ ls, x.head? = some 45) → Ev (fun k => laws_FnFreshFirst.l0 k (ls.map ofL) (ofL b) true (p.length : Int)) true := by
  induction r with
  | nil =>
    intro p h hp ho
    have hz : ls.length = p.length := by rw [h, List.append_nil]
    refine ev_succ ?_
    simp only [laws_FnFreshFirst.l0, List.length_map, toList_ofL]
    refine ev_neg (by omega) (ev_pos trivial (ev_eq (ev_some _) ?_))
    rcases ho with rfl | ⟨x, hx, h45⟩
    · decide
    · rw [h, List.append_nil] at hx
      exact absurd h45 (hp x hx)
  | cons c r ih =>
    intro p h hp ho
    have hz := len_mid h
    have e1 := rdOf_ofL h
    have w1 : wrap64 ((p.length : Int) + 1) = (p.length : Int) + 1 := wrap_id (by omega) (by omega)
    refine ev_succ ?_
    simp only [laws_FnFreshFirst.l0, List.length_map, e1, w1, size_ofL]
    clear w1 e1
    refine ev_pos (by omega) (ev_pos (by omega) ?_)
    cases c with
    | nil =>
      have := ih (p ++ [[]]) (by rw [h]; simp) (fun x hx => by
        rcases List.mem_append.mp hx with hx | hx
        · exact hp x hx
        · rw [List.mem_singleton.mp hx]; simp) ho
      rw [len_snoc] at this
      exact ev_neg (by simp) this
    | cons d c =>
      simp only [bt_zero]
      refine ev_pos (by simp) (ev_pos (by simp) ?_)
      by_cases hd : (d.toNat : Int) = 45
      · refine ev_pos hd (ev_pos trivial (ev_eq (ev_some _) ?_))
        rw [hb]; rfl
      · have hd' : ¬ d = 45 := fun hh => hd ((u8_eq d 45 (by omega)).mpr hh)
        have := ih (p ++ [d :: c]) (by rw [h]; simp) (fun x hx => by
          rcases List.mem_append.mp hx with hx | hx
          · exact hp x hx
          · rw [List.mem_singleton.mp hx]; simpa using hd') ho
        rw [len_snoc] at this
        exact ev_neg hd this
theorem FnFreshFirst : laws_FnFreshFirst.Pure := by
  intro l hlen hlen2 h
  apply ev_rounds
  unfold laws_FnFreshFirst.f
  by_cases hc : (l.length : Int) > 1048576
  · exact ev_pos hc (ev_some _)
  · obtain ⟨ls, hd, hn, hx⟩ := DrawFreshBoundary_ev l h
    have i1 := impl_FreshBoundary_ev ls (by omega)
    have i2 := spec_FreshBoundary_ev ls (by omega)
    obtain ⟨i, hi, e⟩ := fb_three (fSet_b3 hx)
    have hlast : bn i = bn 0 ∨ ∃ x ∈ ls, x.head? = some 45 := by
      by_cases hh : ∃ x ∈ ls, x.head? = some 45
      · exact Or.inr hh
      · have := fb_none (ls := ls) (fun x hx h4 => hh ⟨x, hx, h4⟩)
        rw [e] at this
        exact Or.inl (Option.some.inj this)
    rw [e] at i1 i2
    have hb : (bn i).length = 2 := by
      unfold bn dec
      rw [if_pos (by omega)]
      rfl
    refine ev_neg hc (ev_bind hd (ev_bind i1 (ev_bind i2 (ev_pos rfl (ev_succ ?_)))))
    simp only [laws_FnFreshFirst.j0, fbres]
    exact ev_neg (by simp) (FnFreshFirst_loop ls (by omega) (bn i) hb ls [] rfl (by simp) hlast)

end Go.Proofs.Ytengipddcaookaa.Pure
