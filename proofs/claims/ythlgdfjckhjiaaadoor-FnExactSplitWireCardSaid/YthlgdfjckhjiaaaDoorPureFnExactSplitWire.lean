/- Proved here: the pure form of the law FnExactSplitWire (the program's SplitWire is the reference's) returns true for all arguments; conditions: none beyond those that the printed statement bears. -/
import Derived.Test.YthlgdfjckhjiaaaDoorPFnExactSplitWirex2
import Derived.Test.YthlgdfjckhjiaaaDoorZb
namespace Go.Proofs.YthlgdfjckhjiaaaDoor.Pure
open Go.RowKit Go.Proofs.YthlgdfjckhjiaaaDoor.X Go.Proofs.YthlgdfjckhjiaaaDoor.PFnExactSplitWire Go.Proofs.YthlgdfjckhjiaaaDoorW.PrintWords Go.Proofs.YthlgdfjckhjiaaaDoorW.PrintLast Go.Proofs.YthlgdfjckhjiaaaDoor.Z
set_option linter.unusedVariables false
set_option linter.unusedSimpArgs false

/-! Lines taken apart: the model. -/
def cutE : Str → Option (Str × Str)
  | [] => none
  | c :: r => if c = 13 ∧ r.head? = some 10 then some ([], r.drop 1) else match cutE r with
    | none => none
    | some (a, b) => some (c :: a, b)
theorem cutE_some (s : Str) : ∀ a b : Str, cutE s = some (a, b) → s = a ++ 13 :: 10 :: b := by
  induction s with
  | nil => intro a b h; cases h
  | cons c r ih =>
    intro a b h
    rw [cutE] at h
    split at h
    · rename_i hc
      obtain ⟨rfl, h2⟩ := hc
      cases h
      cases r with
      | nil => cases h2
      | cons d r => simp at h2; subst h2; rfl
    · cases e : cutE r with
      | none => rw [e] at h; cases h
      | some q =>
        obtain ⟨x, y⟩ := q
        rw [e] at h
        cases h
        rw [ih x b e]; rfl
theorem cutE_len {s a b : Str} (h : cutE s = some (a, b)) : s.length = a.length + b.length + 2 := by
  rw [cutE_some s a b h]; simp; omega
theorem cutE_free (x t : Str) (h : ∀ c ∈ x, c ≠ 13) : cutE (x ++ 13 :: 10 :: t) = some (x, t) := by
  induction x with
  | nil => rfl
  | cons c x ih =>
    rw [List.cons_append, cutE, if_neg (fun hh => h c (by simp) hh.1), ih (fun d hd => h d (by simp [hd]))]
theorem cutE_none_free (x : Str) (h : ∀ c ∈ x, c ≠ 10) : cutE x = none := by
  induction x with
  | nil => rfl
  | cons c x ih =>
    rw [cutE, if_neg, ih (fun d hd => h d (by simp [hd]))]
    rintro ⟨_, h2⟩
    cases x with
    | nil => cases h2
    | cons d x => simp at h2; exact h d (by simp) h2
theorem cutE_pre (x t : Str) (h : ∀ c ∈ x, c ≠ 13) (ht : cutE t = none) : cutE (x ++ t) = none := by
  induction x with
  | nil => exact ht
  | cons c x ih => rw [List.cons_append, cutE, if_neg (fun hh => h c (by simp) hh.1), ih (fun d hd => h d (by simp [hd]))]
/-! Cut at the end of a line: the library's words. -/
theorem index_E (s : Str) : Lib.index s [13, 10] = match cutE s with
    | none => -1
    | some (a, _) => (a.length : Int) := by
  induction s with
  | nil => rfl
  | cons c r ih =>
    rw [Lib.index, cutE]
    have hp : ([13, 10] : Str).isPrefixOf (c :: r) = true ↔ (c = 13 ∧ r.head? = some 10) := by
      cases r with
      | nil => simp [List.isPrefixOf]
      | cons d r => simp only [List.isPrefixOf, List.head?_cons, Option.some.injEq, Bool.and_true, Bool.and_eq_true, beq_iff_eq]; constructor <;> (rintro ⟨h1, h2⟩; exact ⟨h1.symm, h2.symm⟩)
    by_cases h : c = 13 ∧ r.head? = some 10
    · rw [if_pos (hp.mpr h), if_pos h]; rfl
    · rw [if_neg (fun hh => h (hp.mp hh)), if_neg h, ih]
      cases e : cutE r with
      | none => rfl
      | some q =>
        obtain ⟨a, b⟩ := q
        simp only [List.length_cons]
        rw [if_neg (by simp)]
        rfl
theorem cut_E (s : Str) : Lib.cut s [13, 10] = match cutE s with
    | none => (s, [], false)
    | some (a, b) => (a, b, true) := by
  unfold Lib.cut
  rw [index_E]
  cases e : cutE s with
  | none => rfl
  | some q =>
    obtain ⟨a, b⟩ := q
    have := cutE_some s a b e
    simp only
    rw [if_pos (by omega)]
    subst this
    simp

theorem spec_l9Line_loop (s : Str) (hs : s.length ≤ 1000000000) (r : Str) : ∀ (p : Str), s = p ++ r → Ev (fun k => spec_l9Line.l0 k (ofL s) (p.length : Int)) (match cutE r with
    | none => (ofL [], (-1 : Int))
    | some (a, _) => (ofL (p ++ a), (p.length : Int) + (a.length : Int) + 2)) := by
  induction r with
  | nil =>
    intro p h
    have hz : s.length = p.length := by rw [h, List.append_nil]
    have w1 : wrap64 ((p.length : Int) + 1) = (p.length : Int) + 1 := wrap_id (by omega) (by omega)
    refine ev_succ ?_
    simp only [spec_l9Line.l0, size_ofL, w1]
    exact ev_neg (by omega) (ev_some _)
  | cons c r ih =>
    intro p h
    have hz := len_mid h
    have w1 : wrap64 ((p.length : Int) + 1) = (p.length : Int) + 1 := wrap_id (by omega) (by omega)
    have w2 : wrap64 ((p.length : Int) + 2) = (p.length : Int) + 2 := wrap_id (by omega) (by omega)
    have e1 : bt (ofL s) (p.length : Int) = (c.toNat : Int) := bt_ofL_mid h
    have hi := ih (p ++ [c]) (by rw [h]; simp)
    rw [len_snoc] at hi
    refine ev_succ ?_
    simp only [spec_l9Line.l0, size_ofL, w1, w2, e1]
    clear w1 w2 e1
    cases r with
    | nil =>
      have hc : cutE [c] = none := by rw [cutE, if_neg (by simp)]; rfl
      rw [hc]
      exact ev_neg (by simp at hz; omega) (ev_some _)
    | cons d t =>
      have e2 : bt (ofL s) ((p.length : Int) + 1) = (d.toNat : Int) := by
        have := bt_ofL_mid (l := s) (p := p ++ [c]) (r := t) (c := d) (by rw [h]; simp)
        rw [len_snoc] at this
        exact this
      rw [e2]
      clear e2
      simp only [List.length_cons] at hz
      refine ev_pos (by omega) (ev_pos (by omega) (ev_pos (by omega) ?_))
      have go : ¬ (c = 13 ∧ (d :: t).head? = some 10) → Ev (fun k => spec_l9Line.l0 k (ofL s) ((p.length : Int) + 1)) (match cutE (c :: d :: t) with
          | none => (ofL [], (-1 : Int))
          | some (a, _) => (ofL (p ++ a), (p.length : Int) + (a.length : Int) + 2)) := by
        intro hn
        refine ev_eq hi ?_
        rw [cutE.eq_2 c, if_neg hn]
        cases cutE (d :: t) with
        | none => rfl
        | some q =>
          obtain ⟨a, b⟩ := q
          simp only [List.append_assoc, List.singleton_append, List.length_cons]
          congr 1
          omega
      by_cases hc : (c.toNat : Int) = 13
      · have hc' : c = 13 := (u8_eq c 13 (by omega)).mp hc
        refine ev_pos hc (ev_pos (by omega) ?_)
        by_cases hd : (d.toNat : Int) = 10
        · have hd' : d = 10 := (u8_eq d 10 (by omega)).mp hd
          refine ev_pos hd (ev_pos (by omega) (ev_eq (ev_some _) ?_))
          rw [cutE, if_pos ⟨hc', by rw [hd']; rfl⟩]
          simp only [extract_ofL, List.append_nil, List.length_nil]
          congr 1
          rw [h]; simp
        · have hd' : ¬ d = 10 := fun hh => hd ((u8_eq d 10 (by omega)).mpr hh)
          exact ev_neg hd (go (fun hh => hd' (by simpa using hh.2)))
      · have hc' : ¬ c = 13 := fun hh => hc ((u8_eq c 13 (by omega)).mpr hh)
        exact ev_neg hc (go (fun hh => hc' hh.1))
theorem spec_l9Line_ev (s : Str) (hs : s.length ≤ 1000000000) : Ev (fun k => spec_l9Line.f k (ofL s)) (match cutE s with
    | none => (ofL [], (-1 : Int))
    | some (a, _) => (ofL a, (a.length : Int) + 2)) := by
  unfold spec_l9Line.f
  refine ev_eq (spec_l9Line_loop s hs s [] rfl) ?_
  cases cutE s with
  | none => rfl
  | some q => obtain ⟨a, b⟩ := q; simp

/-! A text taken apart at its ends: the model. -/
def wcons (c : UInt8) : List Str × Str → List Str × Str
  | ([], r) => ([], c :: r)
  | (l :: ls, r) => ((c :: l) :: ls, r)
def ws : Str → List Str × Str
  | [] => ([], [])
  | [c] => ([], [c])
  | c :: d :: r => if c = 13 ∧ d = 10 then ([] :: (ws r).1, (ws r).2) else wcons c (ws (d :: r))
theorem ws_whole (r : Str) : ws (13 :: 10 :: r) = ([] :: (ws r).1, (ws r).2) := by rw [ws, if_pos ⟨rfl, rfl⟩]
theorem ws_other (c : UInt8) (r : Str) (h : ¬ (c = 13 ∧ r.head? = some 10)) : ws (c :: r) = wcons c (ws r) := by
  cases r with
  | nil => rfl
  | cons d r => rw [ws, if_neg (fun hh => h ⟨hh.1, by simp [hh.2]⟩)]
theorem ws_none (s : Str) : cutE s = none → ws s = ([], s) := by
  induction s with
  | nil => intro _; rfl
  | cons c r ih =>
    intro h
    rw [cutE] at h
    split at h
    · cases h
    · rename_i hc
      cases e : cutE r with
      | none => rw [ws_other c r hc, ih e]; rfl
      | some q => obtain ⟨a, b⟩ := q; rw [e] at h; cases h
theorem ws_some (s : Str) : ∀ a b : Str, cutE s = some (a, b) → ws s = (a :: (ws b).1, (ws b).2) := by
  induction s with
  | nil => intro a b h; cases h
  | cons c r ih =>
    intro a b h
    rw [cutE] at h
    split at h
    · rename_i hc
      obtain ⟨rfl, hd⟩ := hc
      cases h
      cases r with
      | nil => cases hd
      | cons d r =>
        simp only [List.head?_cons, Option.some.injEq] at hd
        subst hd
        rw [ws_whole]; rfl
    · rename_i hc
      cases e : cutE r with
      | none => rw [e] at h; cases h
      | some q =>
        obtain ⟨x, y⟩ := q
        rw [e] at h
        cases h
        rw [ws_other c r hc, ih x b e]; rfl
theorem ws_rest (n : Nat) : ∀ s : Str, s.length ≤ n → cutE (ws s).2 = none := by
  induction n with
  | zero => intro s h; cases s with
    | nil => rfl
    | cons c s => simp at h
  | succ n ih =>
    intro s h
    cases e : cutE s with
    | none => rw [ws_none s e]; exact e
    | some q =>
      obtain ⟨a, b⟩ := q
      have hl := cutE_len e
      rw [ws_some s a b e]
      exact ih b (by omega)
def wjoin : List Str → Str
  | [] => []
  | l :: r => l ++ 13 :: 10 :: wjoin r
theorem ws_join (n : Nat) : ∀ s : Str, s.length ≤ n → wjoin (ws s).1 ++ (ws s).2 = s := by
  induction n with
  | zero => intro s h; cases s with
    | nil => rfl
    | cons c s => simp at h
  | succ n ih =>
    intro s h
    cases e : cutE s with
    | none => rw [ws_none s e]; rfl
    | some q =>
      obtain ⟨a, b⟩ := q
      have hl := cutE_len e
      rw [ws_some s a b e]
      have := ih b (by omega)
      rw [cutE_some s a b e]
      simp only [wjoin, List.append_assoc, List.cons_append, this]
theorem ws_len (s : Str) : (ws s).1.length ≤ s.length ∧ (ws s).2.length ≤ s.length := by
  have h := ws_join s.length s (Nat.le_refl _)
  have h1 : ∀ ls : List Str, ls.length ≤ (wjoin ls).length := by
    intro ls
    induction ls with
    | nil => simp
    | cons l r ih => simp only [wjoin, List.length_cons, List.length_append]; omega
  have h2 := h1 (ws s).1
  have h3 := congrArg List.length h
  rw [List.length_append] at h3
  omega
theorem wjoin_mem {ls : List Str} {l : Str} (h : l ∈ ls) : l.length ≤ (wjoin ls).length := by
  induction ls with
  | nil => cases h
  | cons c r ih =>
    simp only [wjoin, List.length_append, List.length_cons]
    rcases List.mem_cons.mp h with rfl | h
    · omega
    · have := ih h; omega
theorem swP_E (n : Nat) : ∀ s : Str, s.length ≤ n → Lib.countB (ofL s) ⟨#[13, 10]⟩ = (ws s).1.length ∧ Lib.splitB ⟨#[13, 10]⟩ 0 (Lib.countB (ofL s) ⟨#[13, 10]⟩) (ofL s) = (ws s).1.map ofL ++ [ofL (ws s).2] := by
  induction n with
  | zero => intro s h; cases s with
    | nil => exact ⟨rfl, rfl⟩
    | cons c s => simp at h
  | succ n ih =>
    intro s h
    have hi : Lib.indexB (ofL s) ⟨#[13, 10]⟩ = _ := index_E s
    cases e : cutE s with
    | none =>
      rw [e] at hi
      rw [Lib.countB_miss _ _ hi, ws_none s e]
      exact ⟨rfl, rfl⟩
    | some q =>
      obtain ⟨a, b⟩ := q
      have hl := cutE_len e
      have hs := cutE_some s a b e
      rw [e] at hi
      have h2 : (⟨#[13, 10]⟩ : ByteArray).size = 2 := rfl
      have ex : (ofL s).extract (a.length + (⟨#[13, 10]⟩ : ByteArray).size) (ofL s).size = ofL b := by
        rw [extract_ofL, size_ofL, h2]
        congr 1
        have e4 : s = (a ++ [13, 10]) ++ b := by rw [hs]; simp
        rw [e4, List.drop_left' (by simp)]
        exact List.take_of_length_le (by simp; omega)
      have ex0 : (ofL s).extract 0 (a.length + 0) = ofL a := by
        rw [extract_ofL]
        congr 1
        rw [hs]; simp
      obtain ⟨i1, i2⟩ := ih b (by omega)
      have hc : Lib.countB (ofL s) ⟨#[13, 10]⟩ = (ws b).1.length + 1 := by
        rw [Lib.countB_hit _ _ a.length (by decide) hi, ex, i1]; omega
      rw [hc, ws_some s a b e]
      refine ⟨rfl, ?_⟩
      rw [Lib.splitB_hit _ 0 _ _ a.length hi, ex, ex0, ← i1, i2]
      rfl
theorem impl_SplitWire_eq (s : Str) (h : s.length ≤ 10000000) : impl_SplitWire.f (ofL s) = some ((ws s).1.map ofL, ofL (ws s).2) := by
  unfold impl_SplitWire.f swP swN
  obtain ⟨h1, h2⟩ := swP_E s.length s (Nat.le_refl _)
  rw [if_pos (by rw [size_ofL]; omega), h2, h1]
  congr 2
  · exact List.take_left' (by simp)
  · rw [List.getD_eq_getElem?_getD, List.getElem?_append_right (by simp)]
    simp

theorem spec_SplitWire_loop (n : Nat) : ∀ (s : Str) (acc : List Str), s.length ≤ n → s.length ≤ 10000000 → acc.length + s.length ≤ 100000000 → Ev (fun k => spec_SplitWire.l0 k (ofL s) (acc.map ofL)) ((acc ++ (ws s).1).map ofL, ofL (ws s).2) := by
  induction n with
  | zero =>
    intro s acc h h2 h3
    cases s with
    | nil =>
      refine ev_succ ?_
      simp only [spec_SplitWire.l0]
      refine ev_bind (spec_l9Line_ev [] (by simp)) ?_
      exact ev_pos (by simp [cutE]) (ev_eq (ev_some _) (by simp [ws]))
    | cons c s => simp at h
  | succ n ih =>
    intro s acc h h2 h3
    refine ev_succ ?_
    simp only [spec_SplitWire.l0, size_ofL]
    refine ev_bind (spec_l9Line_ev s (by omega)) ?_
    cases e : cutE s with
    | none =>
      rw [ws_none s e]
      exact ev_pos (by simp) (ev_eq (ev_some _) (by simp))
    | some q =>
      obtain ⟨a, b⟩ := q
      have hl := cutE_len e
      have hs := cutE_some s a b e
      have ex : (ofL s).extract ((a.length : Int) + 2).toNat s.length = ofL b := by
        rw [extract_ofL]
        have e3 : ((a.length : Int) + 2).toNat = a.length + 2 := by omega
        rw [e3]
        congr 1
        have e4 : s = (a ++ [13, 10]) ++ b := by rw [hs]; simp
        rw [e4, List.drop_left' (by simp)]
        exact List.take_of_length_le (by simp; omega)
      have := ih b (acc ++ [a]) (by omega) (by omega) (by simp; omega)
      rw [List.map_append] at this
      rw [ws_some s a b e]
      simp only [ex]
      refine ev_neg (by omega) (ev_pos (by rw [List.length_map]; omega) (ev_pos (by omega) (ev_pos (by omega) (ev_eq this ?_))))
      simp
theorem spec_SplitWire_ev (s : Str) (h : s.length ≤ 10000000) : Ev (fun k => spec_SplitWire.f k (ofL s)) ((ws s).1.map ofL, ofL (ws s).2) := by
  unfold spec_SplitWire.f
  exact spec_SplitWire_loop s.length s [] (Nat.le_refl _) h (by simp; omega)

theorem laws_eqStringS_ev (a b : List Str) (hn : a.length ≤ 1000000000000000) : Ev (fun k => laws_eqStringS.f k (a.map ofL) (b.map ofL)) (decide (a = b)) := by
  unfold laws_eqStringS.f
  simp only [List.length_map]
  by_cases hl : a.length = b.length
  · refine ev_pos (by omega) ?_
    refine ev_eq (run_start (xs := a) (F := fun k (_ : List Str) i => laws_eqStringS.l0 k (a.map ofL) (b.map ofL) i) (st := fun r c => match r with
      | [] => .inl false
      | d :: r => if c = d then .inr r else .inl false) (fin := fun _ => true) (s := b) (fun p r => ∃ q, b = q ++ r ∧ q.length = p.length) ⟨[], rfl, rfl⟩ ?_ ?_) ?_
    · rintro p c r s h ⟨q, hq, hql⟩
      have hz := len_mid h
      have e1 := rdOf_ofL h
      have w1 : wrap64 ((p.length : Int) + 1) = (p.length : Int) + 1 := wrap_id (by omega) (by omega)
      cases s with
      | nil => rw [hq] at hl; simp at hl; omega
      | cons d s =>
        have e2 := rdOf_ofL hq
        rw [hql] at e2
        simp only [laws_eqStringS.l0, e1, e2, w1, List.length_map, toList_ofL]
        clear w1 e1 e2
        by_cases e : c = d
        · simp only [if_pos e]
          refine ⟨(fun v hv => by cases hv), fun s' hs => ⟨?_, fun v hv => ?_⟩⟩
          · cases hs; exact ⟨q ++ [d], by rw [hq]; simp, by simp [hql]⟩
          · exact ev_pos (by omega) (ev_pos (by omega) (ev_pos (by omega) hv))
        · simp only [if_neg e]
          refine ⟨(fun v hv => ?_), fun s' hs => by cases hs⟩
          cases hv
          exact ev_pos (by omega) (ev_pos (by omega) (ev_pos (by omega) (ev_some _)))
    · intro s _
      simp only [laws_eqStringS.l0, List.length_map]
      exact ev_neg (by omega) (ev_some _)
    · clear hn
      induction a generalizing b with
      | nil => cases b with
        | nil => rfl
        | cons d b => simp at hl
      | cons c a ih => cases b with
        | nil => simp at hl
        | cons d b =>
          unfold run
          by_cases e : c = d
          · simp only [if_pos e]; rw [ih b (by simpa using hl)]; simp [e]
          · simp only [if_neg e]; simp [e]
  · refine ev_neg (by omega) (ev_eq (ev_some _) ?_)
    rw [eq_comm]; exact decide_eq_false (fun h => hl (by rw [h]))

/-! Several answers from one number of rounds on. -/
def Evp (p : Nat → Prop) : Prop := ∃ K, ∀ k, K ≤ k → p k
theorem evp_of {α : Type} {g : Nat → Option α} {r : α} (h : Ev g r) : Evp (fun k => g k = some r) := h
theorem evp_and {p q : Nat → Prop} (h : Evp p) (h2 : Evp q) : Evp (fun k => p k ∧ q k) := by
  obtain ⟨K, h⟩ := h
  obtain ⟨M, h2⟩ := h2
  exact ⟨K + M, fun k hk => ⟨h k (by omega), h2 k (by omega)⟩⟩
theorem evp_some {p : Nat → Prop} (h : Evp p) : ∃ k, p k := by
  obtain ⟨K, h⟩ := h
  exact ⟨K, h K (Nat.le_refl _)⟩

/-! Marks. -/
theorem markText_loop : ∀ (n : Nat) (a : Nat) (out : Str), a < n → out.length + a ≤ 100000000000000000 → ∃ s : Str, Ev (fun k => laws_markText.l0 k (a : Int) (ofL out)) (ofL s) := by
  intro n
  induction n with
  | zero => intro a out h; omega
  | succ n ih =>
    intro a out h hb
    by_cases h0 : a = 0
    · subst h0
      refine ⟨109 :: out, ev_succ ?_⟩
      simp only [laws_markText.l0, size_ofL, mk_ofL, lit_list, ofL_append]
      exact ev_neg (by simp) (ev_pos (by omega) (ev_some _))
    · have hd : a / 10 + 1 ≤ a := by omega
      have e1 : Int.tdiv (a : Int) 10 = ((a / 10 : Nat) : Int) := by rw [Int.tdiv_eq_ediv_of_nonneg (by omega)]; omega
      have e2 : wrap64 (((a / 10 : Nat) : Int)) = ((a / 10 : Nat) : Int) := wrap_id (by omega) (by omega)
      obtain ⟨x, hx⟩ : ∃ x : Int, x = (wrap64 (48 + (Int.tmod (a : Int) 10))) % 256 := ⟨_, rfl⟩
      obtain ⟨c, hc⟩ : ∃ c : Str, strOfNums [x] = ofL c ∧ c.length = 1 := ⟨[UInt8.ofNat x.toNat], rfl, rfl⟩
      obtain ⟨s, hs⟩ := ih (a / 10) (c ++ out) (by omega) (by rw [List.length_append, hc.2]; omega)
      refine ⟨s, ev_succ ?_⟩
      simp only [laws_markText.l0, ← hx, Option.bind_some, hc.1, size_ofL, ofL_append, e1, e2]
      exact ev_pos (by omega) (ev_pos (by rw [hc.2]; omega) hs)
theorem markText_ev (a : Nat) (h : a ≤ 10000000000000000) : ∃ s : Str, Ev (fun k => laws_markText.f k (a : Int)) (ofL s) := by
  unfold laws_markText.f
  by_cases h0 : a = 0
  · exact ⟨[109, 48], ev_pos (by omega) (ev_some _)⟩
  · obtain ⟨s, hs⟩ := markText_loop (a + 1) a [] (by omega) (by simp; omega)
    exact ⟨s, ev_neg (by omega) hs⟩
/-- What is written as marks. -/
def IsMark (T : Nat → Str) : Prop := ∀ a : Nat, a ≤ 10000000000000000 → Ev (fun k => laws_markText.f k (a : Int)) (ofL (T a))
theorem marks_are : ∃ T, IsMark T := by
  have : ∀ a : Nat, ∃ s : Str, a ≤ 10000000000000000 → Ev (fun k => laws_markText.f k (a : Int)) (ofL s) := by
    intro a
    by_cases h : a ≤ 10000000000000000
    · obtain ⟨s, hs⟩ := markText_ev a h
      exact ⟨s, fun _ => hs⟩
    · exact ⟨[], fun h2 => absurd h2 h⟩
  obtain ⟨T, hT⟩ := Classical.axiomOfChoice this
  exact ⟨T, hT⟩
def mks (T : Nat → Str) : Nat → Nat → List ByteArray
  | _, 0 => []
  | m, n + 1 => ofL (T m) :: mks T (m + 1) n
theorem mks_length (T : Nat → Str) (n : Nat) : ∀ m, (mks T m n).length = n := by
  induction n with
  | zero => intro m; rfl
  | succ n ih => intro m; rw [mks, List.length_cons, ih]
theorem markStringS_loop (T : Nat → Str) (hT : IsMark T) (r : List ByteArray) : ∀ (p : List ByteArray) (m : Nat), p.length + r.length ≤ 1000000000000000 → m + r.length ≤ 10000000000000000 → Ev (fun k => laws_markStringS.l0 k (p ++ r) (m : Int) (p.length : Int)) (((m + r.length : Nat) : Int), p ++ mks T m r.length) := by
  induction r with
  | nil =>
    intro p m h h2
    refine ev_succ ?_
    simp only [laws_markStringS.l0]
    exact ev_neg (by simp) (ev_some _)
  | cons c r ih =>
    intro p m h h2
    simp only [List.length_cons] at h h2
    have w1 : wrap64 ((p.length : Int) + 1) = (p.length : Int) + 1 ∧ wrap64 ((m : Int) + 1) = ((m + 1 : Nat) : Int) := ⟨wrap_id (by omega) (by omega), wrap_id (by omega) (by omega)⟩
    have e1 : (p ++ c :: r).set ((p.length : Nat) : Int).toNat (ofL (T m)) = (p ++ [ofL (T m)]) ++ r := by
      rw [Int.toNat_natCast, List.set_append_right _ _ (Nat.le_refl _), Nat.sub_self, List.set_cons_zero]; simp
    have := ih (p ++ [ofL (T m)]) (m + 1) (by simp; omega) (by omega)
    rw [len_snoc] at this
    refine ev_succ ?_
    simp only [laws_markStringS.l0, w1.1, w1.2]
    clear w1
    refine ev_pos (by simp; omega) (ev_bind (hT m (by omega)) (ev_pos (by omega) ?_))
    rw [e1]
    refine ev_eq this ?_
    simp only [mks, List.length_cons, List.append_assoc, List.singleton_append]
    congr 1
    omega
theorem markStringS_ev (T : Nat → Str) (hT : IsMark T) (r : List ByteArray) (m : Nat) (h : r.length ≤ 1000000000000000) (h2 : m + r.length ≤ 10000000000000000) : Ev (fun k => laws_markStringS.f k r (m : Int)) (((m + r.length : Nat) : Int), mks T m r.length) := by
  unfold laws_markStringS.f
  have := markStringS_loop T hT r [] m (by simpa using h) h2
  simpa using this
theorem heldStringS_loop (T : Nat → Str) (hT : IsMark T) (n : Nat) : ∀ (p : List ByteArray) (m : Nat), p.length + n ≤ 1000000000000000 → m + n ≤ 10000000000000000 → Ev (fun k => laws_heldStringS.l0 k (p ++ mks T m n) (m : Int) (p.length : Int)) (((m + n : Nat) : Int)) := by
  induction n with
  | zero =>
    intro p m h h2
    refine ev_succ ?_
    simp only [laws_heldStringS.l0, mks, List.append_nil]
    exact ev_neg (by omega) (ev_some _)
  | succ n ih =>
    intro p m h h2
    have w1 : wrap64 ((p.length : Int) + 1) = (p.length : Int) + 1 ∧ wrap64 ((m : Int) + 1) = ((m + 1 : Nat) : Int) := ⟨wrap_id (by omega) (by omega), wrap_id (by omega) (by omega)⟩
    have := ih (p ++ [ofL (T m)]) (m + 1) (by simp; omega) (by omega)
    rw [len_snoc] at this
    have e1 : rdOf ByteArray.empty (p ++ mks T m (n + 1)) (p.length : Int) = ofL (T m) := rdOf_mid _ _ _ _
    refine ev_succ ?_
    simp only [laws_heldStringS.l0, w1.1, w1.2, e1]
    clear w1
    refine ev_pos (by simp [mks]; omega) (ev_pos (by omega) (ev_bind (hT m (by omega)) (ev_pos rfl ?_)))
    refine ev_eq ?_ (show (((m + 1 + n : Nat) : Int)) = ((m + (n + 1) : Nat) : Int) by omega)
    have e2 : p ++ mks T m (n + 1) = (p ++ [ofL (T m)]) ++ mks T (m + 1) n := by simp [mks]
    rw [e2]
    exact this
theorem heldStringS_ev (T : Nat → Str) (hT : IsMark T) (n m : Nat) (h : n ≤ 1000000000000000) (h2 : m + n ≤ 10000000000000000) : Ev (fun k => laws_heldStringS.f k (mks T m n) (m : Int)) (((m + n : Nat) : Int)) := by
  unfold laws_heldStringS.f
  have := heldStringS_loop T hT n [] m (by simpa using h) h2
  simpa using this

theorem FnExactSplitWire : ∀ (a0 : ByteArray), a0.size ≤ maxLen → ∃ k, laws_FnExactSplitWire.Ok k a0 := by
  intro a0 ha
  obtain ⟨s, rfl⟩ : ∃ s, a0 = ofL s := ⟨L a0, (ofL_L a0).symm⟩
  by_cases hc : ((ofL s).size : Int) > 1048576
  · exact ⟨0, Or.inl hc⟩
  have hs : s.length ≤ 1048576 := by rw [size_ofL] at hc; omega
  obtain ⟨T, hT⟩ := marks_are
  have hl := ws_len s
  have i2 := impl_SplitWire_eq s (by omega)
  have i1 := spec_SplitWire_ev s (by omega)
  have hm2 := markStringS_ev T hT ((ws s).1.map ofL) 1 (by rw [List.length_map]; omega) (by rw [List.length_map]; omega)
  have hh := heldStringS_ev T hT (ws s).1.length 1 (by omega) (by omega)
  rw [List.length_map] at hm2
  obtain ⟨k, h1, h2, h3, h4⟩ := evp_some (evp_and (evp_of i1) (evp_and (evp_of (laws_eqStringS_ev (ws s).1 (ws s).1 (by omega))) (evp_and (evp_of hm2) (evp_of hh))))
  rw [decide_eq_true rfl] at h2
  exact ⟨k, Or.inr ⟨hc, _, _, _, _, h1, i2, h2, h3, by rw [mks_length, List.length_map], h4, by omega⟩⟩

end Go.Proofs.YthlgdfjckhjiaaaDoor.Pure
