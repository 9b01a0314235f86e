/- Proved here: the pure form of the law FnExactFreshBoundary (the program's FreshBoundary is the reference's) returns true for all arguments; conditions: none beyond those that the printed statement bears. -/
import Derived.Test.YtengipddcaookaaPFnExactFreshBoundaryx2
import Derived.Test.YtengipddcaookaaZb
namespace Go.Proofs.Ytengipddcaookaa.Pure
open Go.RowKit Go.Proofs.Ytengipddcaookaa.PFnExactFreshBoundary Go.Proofs.YtengipddcaookaaW.PrintWords Go.Proofs.YtengipddcaookaaW.PrintLast Go.Proofs.Ytengipddcaookaa.Z
set_option linter.unusedVariables false
set_option linter.unusedSimpArgs false

/-! Lines that divide: the model. -/
def dash (b : Str) : Str := [45, 45] ++ b
def fin2 (b : Str) : Str := [45, 45] ++ b ++ [45, 45]
def dv (ls : List Str) (b : Str) : Bool := decide (dash b ∈ ls) || decide (fin2 b ∈ ls)
def lk (l b : Str) : Bool := decide (l = dash b) || decide (l = fin2 b)
theorem dv_lk (ls : List Str) (b : Str) : dv ls b = ls.any (fun l => lk l b) := by
  unfold dv
  rw [Bool.eq_iff_iff]
  simp only [lk, Bool.or_eq_true, decide_eq_true_iff, List.any_eq_true]
  constructor
  · rintro (h | h)
    · exact ⟨_, h, Or.inl rfl⟩
    · exact ⟨_, h, Or.inr rfl⟩
  · rintro ⟨x, h, rfl | rfl⟩
    · exact Or.inl h
    · exact Or.inr h
theorem dash_ne_fin (b : Str) : dash b ≠ fin2 b := by
  unfold dash fin2
  intro h
  have := congrArg List.length h
  simp at this
theorem dash_ofL (b : Str) : (⟨#[45, 45]⟩ : ByteArray) ++ ofL b = ofL (dash b) := by rw [mk_ofL, lit_list, ofL_append]; rfl
theorem fin_ofL (b : Str) : ofL (dash b) ++ (⟨#[45, 45]⟩ : ByteArray) = ofL (fin2 b) := by rw [mk_ofL, lit_list, ofL_append]; rfl
theorem dash_len (b : Str) : (dash b).length = b.length + 2 := by unfold dash; simp
theorem fin_len (b : Str) : (fin2 b).length = b.length + 4 := by unfold fin2; simp

theorem slices_Index_ev (ls : List Str) (x : Str) (hn : ls.length ≤ 1000000000000000) : ∃ i : Int, Ev (fun k => slices_Index_string_string.f k (ls.map ofL) (ofL x)) i ∧ (i = -1 ∨ 0 ≤ i) ∧ (0 ≤ i ↔ x ∈ ls) := by
  unfold slices_Index_string_string.f
  rw [List.length_map]
  refine ⟨_, run_start (xs := ls) (F := fun k (_ : Nat) i => slices_Index_string_string.l0 k (ls.map ofL) (ofL x) (ls.length : Int) i) (st := fun n c => if x = c then .inl (n : Int) else .inr (n + 1)) (fin := fun _ => (-1 : Int)) (s := 0) (fun p n => n = p.length) rfl ?_ ?_, ?_, ?_⟩
  · intro p c r n h hn
    subst hn
    have hz := len_mid h
    have e1 := rdOf_ofL h
    have w1 : wrap64 ((p.length : Int) + 1) = (p.length : Int) + 1 := wrap_id (by omega) (by omega)
    simp only [slices_Index_string_string.l0, e1, w1, List.length_map, toList_ofL]
    clear w1 e1
    by_cases e : x = c
    · simp only [if_pos e]
      refine ⟨(fun v hv => ?_), fun s' hs => by cases hs⟩
      cases hv
      exact ev_pos (by omega) (ev_pos (by omega) (ev_pos (by omega) (ev_some _)))
    · simp only [if_neg e]
      refine ⟨(fun v hv => by cases hv), fun s' hs => ⟨?_, fun v hv => ?_⟩⟩
      · cases hs; simp
      · exact ev_pos (by omega) (ev_pos (by omega) (ev_pos (by omega) hv))
  · intro s _
    simp only [slices_Index_string_string.l0]
    exact ev_neg (by omega) (ev_some _)
  · have key : ∀ (r : List Str) (n : Nat), run (fun (n : Nat) c => if x = c then .inl (n : Int) else .inr (n + 1)) (fun _ => (-1 : Int)) r n = -1 ∨ 0 ≤ run (fun (n : Nat) c => if x = c then .inl (n : Int) else .inr (n + 1)) (fun _ => (-1 : Int)) r n := by
      intro r
      induction r with
      | nil => intro n; exact Or.inl rfl
      | cons c r ih =>
        intro n
        unfold run
        by_cases e : x = c
        · simp only [if_pos e]; exact Or.inr (by omega)
        · simp only [if_neg e]; exact ih (n + 1)
    exact key ls 0
  · have key : ∀ (r : List Str) (n : Nat), 0 ≤ run (fun (n : Nat) c => if x = c then .inl (n : Int) else .inr (n + 1)) (fun _ => (-1 : Int)) r n ↔ x ∈ r := by
      intro r
      induction r with
      | nil => intro n; simp [run]
      | cons c r ih =>
        intro n
        unfold run
        by_cases e : x = c
        · simp only [if_pos e]; simp [e]
        · simp only [if_neg e]; rw [ih]; simp [e]
    exact key ls 0
theorem slices_Contains_ev (ls : List Str) (x : Str) (hn : ls.length ≤ 1000000000000000) : Ev (fun k => slices_Contains_string_string.f k (ls.map ofL) (ofL x)) (decide (x ∈ ls)) := by
  obtain ⟨i, hi, h1, h2⟩ := slices_Index_ev ls x hn
  unfold slices_Contains_string_string.f
  refine ev_bind hi (ev_eq (ev_some _) ?_)
  by_cases h : x ∈ ls
  · rw [decide_eq_true h]; exact decide_eq_true (h2.mpr h)
  · rw [decide_eq_false h]; exact decide_eq_false (fun hh => h (h2.mp hh))

theorem impl_divides_ev (ls : List Str) (b : Str) (hb : b.length ≤ 1000000000000000) (hn : ls.length ≤ 1000000000000000) : Ev (fun k => impl_divides.f k (ls.map ofL) (ofL b)) (dv ls b) := by
  unfold impl_divides.f dv
  have hd := dash_len b
  simp only [dash_ofL, fin_ofL, size_ofL]
  refine ev_pos (by omega) (ev_bind (slices_Contains_ev ls (dash b) hn) ?_)
  cases e : decide (dash b ∈ ls) with
  | true => exact ev_pos rfl (ev_some _)
  | false => exact ev_neg (by simp) (ev_pos (by omega) (ev_bind (slices_Contains_ev ls (fin2 b) hn) (ev_some _)))

theorem spec_l7Looks_eq (l b : Str) (hb : b.length ≤ 1000000000000000) : spec_l7Looks.f (ofL l) (ofL b) = some (lk l b) := by
  unfold spec_l7Looks.f lk
  have hd := dash_len b
  simp only [dash_ofL, fin_ofL, size_ofL, toList_ofL]
  rw [if_pos (by omega)]
  by_cases h : l = dash b
  · rw [if_pos h, decide_eq_true h]; rfl
  · rw [if_neg h, decide_eq_false h, if_pos (by omega)]
    simp only [Bool.false_or]
    congr 1
    rw [Bool.eq_iff_iff]; simp

/-! The first boundary that no line divides at: the model. -/
def dg (m : Nat) : UInt8 := UInt8.ofNat (48 + m)
def dec (n : Nat) : Str := if n < 10 then [dg n] else [dg (n / 10), dg (n % 10)]
def bn (n : Nat) : Str := 98 :: dec n
def fb (ls : List Str) : Nat → Nat → Option Str
  | 0, _ => none
  | m + 1, i => if dv ls (bn i) = true then fb ls m (i + 1) else some (bn i)
def fbres (o : Option Str) : ByteArray × Bool := match o with
  | none => (⟨#[]⟩, false)
  | some b => (ofL b, true)
theorem dec_len (n : Nat) : (dec n).length ≤ 2 := by
  unfold dec; split <;> simp
theorem bn_len (n : Nat) : (bn n).length ≤ 3 := by
  have := dec_len n
  unfold bn; simp only [List.length_cons]; omega
theorem bn_ofL (n : Nat) : (⟨#[98]⟩ : ByteArray) ++ ofL (dec n) = ofL (bn n) := by rw [mk_ofL, ofL_append]; rfl
theorem dg_slice (m : Nat) (h : m < 10) : (⟨#[48, 49, 50, 51, 52, 53, 54, 55, 56, 57]⟩ : ByteArray).extract m (m + 1) = ofL [dg m] := by
  rw [mk_ofL, extract_ofL]
  have : ∀ m < 10, List.take (m + 1 - m) (List.drop m [48, 49, 50, 51, 52, 53, 54, 55, 56, 57]) = [dg m] := by decide
  rw [← this m h]
theorem dg_num (m : Nat) (h : m < 10) : (wrap64 (48 + (m : Int))) % 256 = ((dg m).toNat : Int) := by
  have : ∀ m : Nat, m < 10 → (wrap64 (48 + (m : Int))) % 256 = ((dg m).toNat : Int) := by decide +kernel
  exact this m h
theorem impl_dec_step (n : Nat) (hn : n < 1000) (x : Int) (t : Str) (ht : t.length ≤ 100) (hc : n > 0 ∨ x > 0) {V : ByteArray} (hv : Ev (fun k => impl_decimal.l0 k ((n / 10 : Nat) : Int) (wrap64 (x - 1)) (ofL (dg (n % 10) :: t))) V) : Ev (fun k => impl_decimal.l0 k (n : Int) x (ofL t)) V := by
  have hm : n % 10 < 10 := Nat.mod_lt _ (by omega)
  have hd : n / 10 < 1000 := by omega
  have e1 : Int.tmod (n : Int) 10 = ((n % 10 : Nat) : Int) := (Int.ofNat_tmod n 10).symm
  have e2 : wrap64 (Int.tdiv (n : Int) 10) = ((n / 10 : Nat) : Int) := by
    rw [show Int.tdiv (n : Int) 10 = ((n / 10 : Nat) : Int) from (Int.ofNat_tdiv n 10).symm]
    exact wrap_id (by omega) (by omega)
  have e3 : wrap64 (((n % 10 : Nat) : Int) + 1) = ((n % 10 + 1 : Nat) : Int) := (wrap_id (by omega) (by omega)).trans (by omega)
  refine ev_succ ?_
  simp only [impl_decimal.l0, e1, e2, e3, Int.toNat_natCast, dg_slice _ hm, size_ofL, ofL_append, List.length_cons, List.length_nil, List.cons_append, List.nil_append]
  clear e1 e2 e3
  by_cases h : (n : Int) > 0
  · exact ev_pos h (ev_pos (by omega) (ev_pos (by omega) (ev_pos (by omega) (ev_pos (by omega) hv))))
  · exact ev_neg h (ev_pos (by omega) (ev_pos (by omega) (ev_pos (by omega) (ev_pos (by omega) (ev_pos (by omega) hv)))))
theorem impl_dec_end (x : Int) (hx : ¬ x > 0) (t : Str) : Ev (fun k => impl_decimal.l0 k 0 x (ofL t)) (ofL t) := by
  refine ev_succ ?_
  simp only [impl_decimal.l0]
  exact ev_neg (by omega) (ev_neg hx (ev_some _))
theorem impl_decimal_ev (n : Nat) (h : n < 100) : Ev (fun k => impl_decimal.f k (n : Int) 1) (ofL (dec n)) := by
  unfold impl_decimal.f
  refine impl_dec_step n (by omega) 1 [] (by simp) (Or.inr (by omega)) ?_
  unfold dec
  by_cases h1 : n < 10
  · rw [if_pos h1]
    have e : n / 10 = 0 := by omega
    have e2 : n % 10 = n := by omega
    rw [e, e2]
    exact impl_dec_end _ (by decide +kernel) _
  · rw [if_neg h1]
    refine impl_dec_step (n / 10) (by omega) _ _ (by simp) (Or.inl (by omega)) ?_
    have e : n / 10 / 10 = 0 := by omega
    have e2 : n / 10 % 10 = n / 10 := by omega
    rw [e, e2]
    exact impl_dec_end _ (by decide +kernel) _
theorem spec_dec_ev (n : Nat) (h : n < 100) : Ev (fun k => spec_l13Dec.f k (n : Int)) (ofL (dec n)) := by
  have last : ∀ (m : Nat) (t : Str), m < 10 → t.length ≤ 10 → Ev (fun k => spec_l13Dec.l0 k (m : Int) (ofL t)) (ofL (dg m :: t)) := by
    intro m t hm ht
    refine ev_succ ?_
    have e1 : strOfNums [((dg m).toNat : Int)] = ofL [dg m] := strOfNums_zn [dg m]
    simp only [spec_l13Dec.l0, Option.bind_some, dg_num m hm, e1, size_ofL, ofL_append, List.length_cons, List.length_nil, List.cons_append, List.nil_append]
    exact ev_neg (by omega) (ev_pos (by omega) (ev_some _))
  refine ev_succ ?_
  simp only [spec_l13Dec.f]
  refine ev_neg (by omega) (ev_neg (by omega) ?_)
  unfold dec
  by_cases h1 : n < 10
  · rw [if_pos h1]
    exact last n [] h1 (by simp)
  · rw [if_neg h1]
    have hm : n % 10 < 10 := Nat.mod_lt _ (by omega)
    have hl := last (n / 10) [dg (n % 10)] (by omega) (by simp)
    have e0 : Int.tmod (n : Int) 10 = ((n % 10 : Nat) : Int) := (Int.ofNat_tmod n 10).symm
    have e2 : wrap64 (Int.tdiv (n : Int) 10) = ((n / 10 : Nat) : Int) := by
      rw [show Int.tdiv (n : Int) 10 = ((n / 10 : Nat) : Int) from (Int.ofNat_tdiv n 10).symm]
      exact wrap_id (by omega) (by omega)
    have e1 : strOfNums [((dg (n % 10)).toNat : Int)] = ofL [dg (n % 10)] := strOfNums_zn [dg (n % 10)]
    have e3 : (⟨#[]⟩ : ByteArray) = ofL [] := rfl
    refine ev_succ ?_
    simp only [spec_l13Dec.l0, Option.bind_some, e0, e2, e3, dg_num _ hm, e1, size_ofL, ofL_append, List.length_cons, List.length_nil, List.cons_append, List.nil_append]
    clear e0 e2
    exact ev_pos (by omega) (ev_pos (by omega) hl)
theorem impl_FreshBoundary_loop (ls : List Str) (hn : ls.length ≤ 1000000000000) (m : Nat) : ∀ (i : Nat), i + m = 100 → Ev (fun k => impl_FreshBoundary.l0 k (ls.map ofL) (i : Int)) (fbres (fb ls m i)) := by
  induction m with
  | zero =>
    intro i hi
    refine ev_succ ?_
    simp only [impl_FreshBoundary.l0]
    exact ev_neg (by omega) (ev_some _)
  | succ m ih =>
    intro i hi
    have hd := impl_decimal_ev i (by omega)
    have hb := bn_len i
    have hdv := impl_divides_ev ls (bn i) (by omega) (by omega)
    have hl := dec_len i
    have := ih (i + 1) (by omega)
    have w1 : wrap64 ((i : Int) + 1) = ((i + 1 : Nat) : Int) := (wrap_id (by omega) (by omega)).trans (by omega)
    refine ev_succ ?_
    simp only [impl_FreshBoundary.l0, w1, fb]
    clear w1
    refine ev_pos (by omega) (ev_bind hd ?_)
    simp only [size_ofL, bn_ofL]
    refine ev_pos (by omega) (ev_bind hdv ?_)
    cases e : dv ls (bn i) with
    | true => exact ev_pos rfl this
    | false => exact ev_neg (by simp) (ev_some _)
theorem impl_FreshBoundary_ev (ls : List Str) (hn : ls.length ≤ 1000000000000) : Ev (fun k => impl_FreshBoundary.f k (ls.map ofL)) (fbres (fb ls 100 0)) := by
  unfold impl_FreshBoundary.f
  exact impl_FreshBoundary_loop ls hn 100 0 rfl
theorem lk_run {R : Type} (b : Str) (fin : Bool → R) (r : List Str) : ∀ s : Bool, run (fun (s : Bool) l => (.inr (s && !lk l b) : R ⊕ Bool)) fin r s = fin (s && !(r.any (fun l => lk l b))) := by
  induction r with
  | nil => intro s; simp [run]
  | cons c r ih =>
    intro s
    unfold run
    simp only [ih, List.any_cons, Bool.not_or, Bool.and_assoc]
theorem spec_FreshBoundary_loop (ls : List Str) (hn : ls.length ≤ 1000000000000) (m : Nat) : ∀ (i : Nat), i + m = 100 → Ev (fun k => spec_FreshBoundary.l0 k (ls.map ofL) (i : Int)) (fbres (fb ls m i)) := by
  induction m with
  | zero =>
    intro i hi
    refine ev_succ ?_
    simp only [spec_FreshBoundary.l0]
    exact ev_neg (by omega) (ev_some _)
  | succ m ih =>
    intro i hi
    have hd := spec_dec_ev i (by omega)
    have hb := bn_len i
    have hl := dec_len i
    have hi2 := ih (i + 1) (by omega)
    refine ev_succ ?_
    simp only [spec_FreshBoundary.l0]
    refine ev_pos (by omega) (ev_bind hd ?_)
    simp only [size_ofL, bn_ofL]
    refine ev_pos (by omega) ?_
    refine ev_eq (run_start (xs := ls) (F := fun k (s : Bool) j => spec_FreshBoundary.l1 k (ls.map ofL) (i : Int) (ofL (bn i)) s j) (st := fun s l => .inr (s && !lk l (bn i))) (fin := fun s => if s = true then (ofL (bn i), true) else fbres (fb ls m (i + 1))) (s := true) (fun _ _ => True) trivial ?_ ?_) ?_
    · intro p c r s h _
      have hz := len_mid h
      have e1 := rdOf_ofL h
      have w1 : wrap64 ((p.length : Int) + 1) = (p.length : Int) + 1 := wrap_id (by omega) (by omega)
      simp only [spec_FreshBoundary.l1, e1, w1, List.length_map]
      clear w1 e1
      refine ⟨(fun v hv => by cases hv), fun s' hs => ⟨trivial, fun v hv => ?_⟩⟩
      cases hs
      refine ev_pos (by omega) ?_
      cases s with
      | true => exact ev_pos rfl (ev_pos (by omega) (ev_bind0 (spec_l7Looks_eq c (bn i) (by omega)) hv))
      | false => exact ev_neg (by simp) hv
    · intro s _
      have w1 : wrap64 ((i : Int) + 1) = ((i + 1 : Nat) : Int) := (wrap_id (by omega) (by omega)).trans (by omega)
      simp only [spec_FreshBoundary.l1, List.length_map, w1]
      clear w1
      refine ev_neg (by omega) ?_
      cases s with
      | true => exact ev_pos rfl (ev_some _)
      | false => exact ev_neg (by simp) hi2
    · rw [lk_run, ← dv_lk]
      cases e : dv ls (bn i) <;> simp [fb, e, fbres]
theorem spec_FreshBoundary_ev (ls : List Str) (hn : ls.length ≤ 1000000000000) : Ev (fun k => spec_FreshBoundary.f k (ls.map ofL)) (fbres (fb ls 100 0)) := by
  unfold spec_FreshBoundary.f
  exact spec_FreshBoundary_loop ls hn 100 0 rfl

/-! Texts that came in: their size, a copy, and the same again. -/
def szs : List Str → Nat
  | [] => 0
  | c :: r => c.length + szs r
theorem szs_append (a b : List Str) : szs (a ++ b) = szs a + szs b := by
  induction a with
  | nil => simp [szs]
  | cons c a ih => simp only [List.cons_append, szs, ih]; omega
theorem szs_mem {a : List Str} {c : Str} (h : c ∈ a) : c.length ≤ szs a := by
  induction a with
  | nil => cases h
  | cons d a ih =>
    simp only [szs]
    rcases List.mem_cons.mp h with rfl | h
    · omega
    · have := ih h; omega
theorem map_ofL_L (l : List ByteArray) : (l.map L).map ofL = l := by
  rw [List.map_map]
  exact (List.map_congr_left (fun x _ => ofL_L x)).trans (List.map_id l)
theorem szString_loop (ls : List Str) (hl : ∀ x ∈ ls, x.length ≤ 9223372036854775807) (hn : ls.length ≤ 9223372036854775807) (r : List Str) : ∀ (p : List Str) (left : Nat), ls = p ++ r → left ≤ 1048576 → ∃ v : Int, Ev (fun k => laws_szStringS.l0 k (ls.map ofL) (left : Int) (p.length : Int)) v ∧ v ≤ left ∧ (0 ≤ v → v = (left : Int) - szs r) := by
  induction r with
  | nil =>
    intro p left h hle
    have hz : ls.length = p.length := by rw [h, List.append_nil]
    refine ⟨left, ev_succ ?_, Int.le_refl _, fun _ => by simp [szs]⟩
    simp only [laws_szStringS.l0, List.length_map]
    exact ev_neg (by omega) (ev_some _)
  | cons c r ih =>
    intro p left h hle
    have hz := len_mid h
    have e1 := rdOf_ofL h
    have hc := hl c (by rw [h]; simp)
    have w1 : wrap64 ((p.length : Int) + 1) = (p.length : Int) + 1 ∧ wrap64 ((left : Int) - (c.length : Int)) = (left : Int) - (c.length : Int) := ⟨wrap_id (by omega) (by omega), wrap_id (by omega) (by omega)⟩
    by_cases hlt : (left : Int) - (c.length : Int) < 0
    · refine ⟨-1, ev_succ ?_, by omega, fun h => by omega⟩
      simp only [laws_szStringS.l0, List.length_map, e1, size_ofL, w1.1, w1.2]
      clear w1
      exact ev_pos (by omega) (ev_pos (by omega) (ev_pos hlt (ev_some _)))
    · obtain ⟨v, hv, hv1, hv2⟩ := ih (p ++ [c]) (left - c.length) (by rw [h]; simp) (by omega)
      rw [len_snoc] at hv
      refine ⟨v, ev_succ ?_, by omega, fun h0 => by have := hv2 h0; simp only [szs]; omega⟩
      have e2 : (left : Int) - (c.length : Int) = ((left - c.length : Nat) : Int) := by omega
      simp only [laws_szStringS.l0, List.length_map, e1, size_ofL, w1.1, w1.2]
      clear w1
      rw [e2]
      exact ev_pos (by omega) (ev_pos (by omega) (ev_neg (by omega) hv))
theorem laws_szStringS_ev (ls : List Str) (hl : ∀ x ∈ ls, x.length ≤ 9223372036854775807) (hn : ls.length ≤ 9223372036854775807) (left : Nat) (hle : left ≤ 1048576) : ∃ v : Int, Ev (fun k => laws_szStringS.f k (ls.map ofL) (left : Int)) v ∧ v ≤ left ∧ (0 ≤ v → v = (left : Int) - ls.length - szs ls) := by
  unfold laws_szStringS.f
  have w1 : wrap64 ((left : Int) - (ls.length : Int)) = (left : Int) - (ls.length : Int) := wrap_id (by omega) (by omega)
  rw [List.length_map, w1]
  clear w1
  by_cases h : (left : Int) - (ls.length : Int) < 0
  · exact ⟨-1, ev_pos h (ev_some _), by omega, fun h => by omega⟩
  · have e2 : (left : Int) - (ls.length : Int) = ((left - ls.length : Nat) : Int) := by omega
    obtain ⟨v, hv, hv1, hv2⟩ := szString_loop ls hl hn ls [] (left - ls.length) rfl (by omega)
    rw [e2]
    exact ⟨v, ev_neg (by omega) hv, by omega, fun h0 => by have := hv2 h0; omega⟩
theorem laws_toStringS_ev (ls : List Str) (hn : ls.length ≤ 1000000000000) : Ev (fun k => laws_toStringS.f k (ls.map ofL)) (ls.map ofL) := by
  have key : ∀ (r p : List Str), ls = p ++ r → Ev (fun k => laws_toStringS.l0 k (ls.map ofL) (p.map ofL ++ List.replicate r.length (⟨#[]⟩ : ByteArray)) (p.length : Int)) (ls.map ofL) := by
    intro r
    induction r with
    | nil =>
      intro p h
      have hz : ls.length = p.length := by rw [h, List.append_nil]
      refine ev_succ ?_
      simp only [laws_toStringS.l0, List.length_map]
      refine ev_neg (by omega) (ev_eq (ev_some _) ?_)
      rw [h]; simp
    | cons c r ih =>
      intro p h
      have hz := len_mid h
      have e1 := rdOf_ofL h
      have w1 : wrap64 ((p.length : Int) + 1) = (p.length : Int) + 1 := wrap_id (by omega) (by omega)
      have := ih (p ++ [c]) (by rw [h]; simp)
      rw [len_snoc] at this
      have e2 : (p.map ofL ++ List.replicate (r.length + 1) (⟨#[]⟩ : ByteArray)).set p.length (ofL c) = (p ++ [c]).map ofL ++ List.replicate r.length (⟨#[]⟩ : ByteArray) := by
        rw [List.set_append_right _ _ (by simp), List.length_map, Nat.sub_self, List.replicate_succ, List.set_cons_zero, List.map_append, List.append_assoc]
        rfl
      rw [← e2] at this
      refine ev_succ ?_
      simp only [laws_toStringS.l0, List.length_map, e1, w1, Int.toNat_natCast, List.length_cons]
      clear w1
      exact ev_pos (by omega) (ev_pos (by omega) (ev_pos (by simp; omega) this))
  unfold laws_toStringS.f
  simp only [List.length_map, Int.toNat_natCast]
  exact ev_pos (by omega) (ev_pos (by omega) (key ls [] rfl))
theorem laws_eqStringS_ev (a b : List Str) (hn : a.length ≤ 1000000000000000) : Ev (fun k => laws_eqStringS.f k (a.map ofL) (b.map ofL)) (decide (a = b)) := by
  unfold laws_eqStringS.f
  simp only [List.length_map]
  by_cases hl : a.length = b.length
  · refine ev_pos (by omega) ?_
    refine ev_eq (run_start (xs := a) (F := fun k (_ : List Str) i => laws_eqStringS.l0 k (a.map ofL) (b.map ofL) i) (st := fun r c => match r with
      | [] => .inl false
      | d :: r => if c = d then .inr r else .inl false) (fin := fun _ => true) (s := b) (fun p r => ∃ q, b = q ++ r ∧ q.length = p.length) ⟨[], rfl, rfl⟩ ?_ ?_) ?_
    · rintro p c r s h ⟨q, hq, hql⟩
      have hz := len_mid h
      have e1 := rdOf_ofL h
      have w1 : wrap64 ((p.length : Int) + 1) = (p.length : Int) + 1 := wrap_id (by omega) (by omega)
      cases s with
      | nil => rw [hq] at hl; simp at hl; omega
      | cons d s =>
        have e2 := rdOf_ofL hq
        rw [hql] at e2
        simp only [laws_eqStringS.l0, e1, e2, w1, List.length_map, toList_ofL]
        clear w1 e1 e2
        by_cases e : c = d
        · simp only [if_pos e]
          refine ⟨(fun v hv => by cases hv), fun s' hs => ⟨?_, fun v hv => ?_⟩⟩
          · cases hs; exact ⟨q ++ [d], by rw [hq]; simp, by simp [hql]⟩
          · exact ev_pos (by omega) (ev_pos (by omega) (ev_pos (by omega) hv))
        · simp only [if_neg e]
          refine ⟨(fun v hv => ?_), fun s' hs => by cases hs⟩
          cases hv
          exact ev_pos (by omega) (ev_pos (by omega) (ev_pos (by omega) (ev_some _)))
    · intro s _
      simp only [laws_eqStringS.l0, List.length_map]
      exact ev_neg (by omega) (ev_some _)
    · clear hn
      induction a generalizing b with
      | nil => cases b with
        | nil => rfl
        | cons d b => simp at hl
      | cons c a ih => cases b with
        | nil => simp at hl
        | cons d b =>
          unfold run
          by_cases e : c = d
          · simp only [if_pos e]; rw [ih b (by simpa using hl)]; simp [e]
          · simp only [if_neg e]; simp [e]
  · refine ev_neg (by omega) (ev_eq (ev_some _) ?_)
    rw [eq_comm]; exact decide_eq_false (fun h => hl (by rw [h]))

def laws_FnExactFreshBoundary.Pure : Prop := ∀ (l0 : List ByteArray), l0.length ≤ maxLen → (∀ x ∈ l0, x.size ≤ maxLen) → ∃ k, laws_FnExactFreshBoundary.f k l0 = some true
theorem FnExactFreshBoundary : laws_FnExactFreshBoundary.Pure := by
  intro l0 hlen hx
  apply ev_rounds
  unfold maxLen at hlen hx
  rw [← map_ofL_L l0]
  have hx2 : ∀ x ∈ l0.map L, x.length ≤ 9223372036854775807 := fun x hm => by
    obtain ⟨y, hy, rfl⟩ := List.mem_map.mp hm
    have := hx y hy
    rw [size_L] at this
    omega
  have hl2 : (l0.map L).length ≤ 9223372036854775807 := by rw [List.length_map]; omega
  generalize l0.map L = ls at hx2 hl2
  unfold laws_FnExactFreshBoundary.f
  obtain ⟨v, hv, hv1, hv2⟩ := laws_szStringS_ev ls hx2 hl2 1048576 (by omega)
  by_cases h0 : v < 0
  · exact ev_bind hv (ev_pos h0 (ev_some _))
  · have hs := hv2 (by omega)
    have ht := laws_toStringS_ev ls (by omega)
    have i1 := impl_FreshBoundary_ev ls (by omega)
    have i2 := spec_FreshBoundary_ev ls (by omega)
    refine ev_bind hv (ev_neg h0 (ev_bind ht (ev_bind i2 (ev_bind ht (ev_bind i1 (ev_pos rfl (ev_succ ?_)))))))
    simp only [laws_FnExactFreshBoundary.j0]
    exact ev_neg (by simp) (ev_bind ht (ev_bind (laws_eqStringS_ev ls ls (by omega)) (ev_pos (decide_eq_true rfl) (ev_some _))))

end Go.Proofs.Ytengipddcaookaa.Pure
