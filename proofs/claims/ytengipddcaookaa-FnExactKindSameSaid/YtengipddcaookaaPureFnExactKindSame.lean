/- Proved here: the pure form of the law FnExactKindSame (the program's KindSame is the reference's) returns true for all arguments; conditions: none beyond those that the printed statement bears. -/
import Derived.Test.YtengipddcaookaaPFnExactKindSamex4
import Derived.Test.YtengipddcaookaaZb
namespace Go.Proofs.Ytengipddcaookaa.Pure
open Go.RowKit Go.Proofs.Ytengipddcaookaa.X Go.Proofs.Ytengipddcaookaa.PFnExactKindSame Go.Proofs.YtengipddcaookaaW.PrintWords Go.Proofs.YtengipddcaookaaW.PrintLast Go.Proofs.Ytengipddcaookaa.Z
set_option linter.unusedVariables false
set_option linter.unusedSimpArgs false

theorem run_unit {α R : Type} (fin : Unit → R) (r : List α) : run (fun (_ : Unit) (_ : α) => (.inr () : R ⊕ Unit)) fin r () = fin () := by
  induction r with
  | nil => rfl
  | cons c r ih => unfold run; exact ih

def stp {α : Type} [DecidableEq α] (r : List α) (c : α) : Bool ⊕ List α := match r with
  | [] => .inl false
  | d :: r => if c = d then .inr r else .inl false
theorem same_run {α : Type} [DecidableEq α] (a b : List α) (hl : a.length = b.length) : run stp (fun _ => true) a b = decide (a = b) := by
  induction a generalizing b with
  | nil => cases b with
    | nil => rfl
    | cons d b => simp at hl
  | cons c a ih => cases b with
    | nil => simp at hl
    | cons d b =>
      unfold run
      by_cases e : c = d
      · simp only [stp, if_pos e]; rw [ih b (by simpa using hl)]; simp [e]
      · simp only [stp, if_neg e]; simp [e]

/-! Kinds that came in: pairs of texts. -/
def e91 (p : Str × Str) : S91 := ⟨ofL p.1, ofL p.2⟩
def e76 (p : Str × Str) : S76 := ⟨ofL p.1, ofL p.2⟩
def szp : List (Str × Str) → Nat
  | [] => 0
  | c :: r => c.1.length + c.2.length + szp r
theorem szp_mem {a : List (Str × Str)} {c : Str × Str} (h : c ∈ a) : c.1.length + c.2.length ≤ szp a := by
  induction a with
  | nil => cases h
  | cons d a ih =>
    simp only [szp]
    rcases List.mem_cons.mp h with rfl | h
    · omega
    · have := ih h; omega
theorem rd91_mid {ls p r : List (Str × Str)} {c : Str × Str} (h : ls = p ++ c :: r) : rd_T91 (ls.map e91) (p.length : Int) = e91 c := by
  unfold rd_T91
  rw [List.getD_eq_getElem?_getD, h]
  simp
theorem rd76_mid {ls p r : List (Str × Str)} {c : Str × Str} (h : ls = p ++ c :: r) : rd_T76 (ls.map e76) (p.length : Int) = e76 c := by
  unfold rd_T76
  rw [List.getD_eq_getElem?_getD, h]
  simp
def p91 (x : S91) : Str × Str := (L x.f0, L x.f1)
theorem map_e91 (l : List S91) : (l.map p91).map e91 = l := by
  rw [List.map_map]
  exact (List.map_congr_left (fun x _ => rfl)).trans (List.map_id l)
theorem szField_ev (a b : Str) (ha : a.length ≤ 9223372036854775807) (hb : b.length ≤ 9223372036854775807) (left : Nat) (hle : left ≤ 1048576) : ∃ v : Int, laws_szField.f (ofL a) (ofL b) (left : Int) = some v ∧ v ≤ left ∧ (0 ≤ v → v = (left : Int) - a.length - b.length) := by
  unfold laws_szField.f
  have w1 : wrap64 ((left : Int) - (a.length : Int)) = (left : Int) - (a.length : Int) := wrap_id (by omega) (by omega)
  rw [size_ofL, size_ofL, w1]
  by_cases h : (left : Int) - (a.length : Int) < 0
  · exact ⟨-1, by rw [if_pos h], by omega, fun h => by omega⟩
  · have w2 : wrap64 ((left : Int) - (a.length : Int) - (b.length : Int)) = (left : Int) - (a.length : Int) - (b.length : Int) := wrap_id (by omega) (by omega)
    rw [if_neg h, w2]
    by_cases h2 : (left : Int) - (a.length : Int) - (b.length : Int) < 0
    · exact ⟨-1, by rw [if_pos h2], by omega, fun h => by omega⟩
    · exact ⟨_, by rw [if_neg h2], by omega, fun _ => rfl⟩
def sane (ls : List (Str × Str)) : Prop := ∀ x ∈ ls, x.1.length ≤ 9223372036854775807 ∧ x.2.length ≤ 9223372036854775807
theorem szFieldS_loop (ls : List (Str × Str)) (hl : sane ls) (hn : ls.length ≤ 9223372036854775807) (r : List (Str × Str)) : ∀ (p : List (Str × Str)) (left : Nat), ls = p ++ r → left ≤ 1048576 → ∃ v : Int, Ev (fun k => laws_szFieldS.l0 k (ls.map e91) (left : Int) (p.length : Int)) v ∧ v ≤ left ∧ (0 ≤ v → v = (left : Int) - szp r) := by
  induction r with
  | nil =>
    intro p left h hle
    have hz : ls.length = p.length := by rw [h, List.append_nil]
    refine ⟨left, ev_succ ?_, Int.le_refl _, fun _ => by simp [szp]⟩
    simp only [laws_szFieldS.l0, List.length_map]
    exact ev_neg (by omega) (ev_some _)
  | cons c r ih =>
    intro p left h hle
    have hz := len_mid h
    have e1 := rd91_mid h
    have hc := hl c (by rw [h]; simp)
    have w1 : wrap64 ((p.length : Int) + 1) = (p.length : Int) + 1 := wrap_id (by omega) (by omega)
    obtain ⟨v, hv, hv1, hv2⟩ := szField_ev c.1 c.2 hc.1 hc.2 left hle
    by_cases hlt : v < 0
    · refine ⟨-1, ev_succ ?_, by omega, fun h => by omega⟩
      simp only [laws_szFieldS.l0, List.length_map, e1, w1]
      clear w1
      exact ev_pos (by omega) (ev_pos (by omega) (ev_bind0 hv (ev_pos hlt (ev_some _))))
    · have hvv := hv2 (by omega)
      obtain ⟨u, hu, hu1, hu2⟩ := ih (p ++ [c]) (left - c.1.length - c.2.length) (by rw [h]; simp) (by omega)
      rw [len_snoc] at hu
      refine ⟨u, ev_succ ?_, by omega, fun h0 => by have := hu2 h0; simp only [szp]; omega⟩
      have e2 : v = ((left - c.1.length - c.2.length : Nat) : Int) := by omega
      simp only [laws_szFieldS.l0, List.length_map, e1, w1]
      clear w1
      rw [← e2] at hu
      exact ev_pos (by omega) (ev_pos (by omega) (ev_bind0 hv (ev_neg hlt hu)))
theorem szFieldS_ev (ls : List (Str × Str)) (hl : sane ls) (hn : ls.length ≤ 9223372036854775807) (left : Nat) (hle : left ≤ 1048576) : ∃ v : Int, Ev (fun k => laws_szFieldS.f k (ls.map e91) (left : Int)) v ∧ v ≤ left ∧ (0 ≤ v → v = (left : Int) - ls.length - szp ls) := by
  unfold laws_szFieldS.f
  have w1 : wrap64 ((left : Int) - (ls.length : Int)) = (left : Int) - (ls.length : Int) := wrap_id (by omega) (by omega)
  rw [List.length_map, w1]
  clear w1
  by_cases h : (left : Int) - (ls.length : Int) < 0
  · exact ⟨-1, ev_pos h (ev_some _), by omega, fun h => by omega⟩
  · have e2 : (left : Int) - (ls.length : Int) = ((left - ls.length : Nat) : Int) := by omega
    obtain ⟨v, hv, hv1, hv2⟩ := szFieldS_loop ls hl hn ls [] (left - ls.length) rfl (by omega)
    rw [e2]
    exact ⟨v, ev_neg (by omega) hv, by omega, fun h0 => by have := hv2 h0; omega⟩
theorem szKind_ev (a b : Str) (ha : a.length ≤ 9223372036854775807) (hb : b.length ≤ 9223372036854775807) (ls : List (Str × Str)) (hl : sane ls) (hn : ls.length ≤ 9223372036854775807) (left : Nat) (hle : left ≤ 1048576) : ∃ v : Int, Ev (fun k => laws_szKind.f k (ofL a) (ofL b) (ls.map e91) (left : Int)) v ∧ v ≤ left ∧ (0 ≤ v → v = (left : Int) - a.length - b.length - ls.length - szp ls) := by
  unfold laws_szKind.f
  have w1 : wrap64 ((left : Int) - (a.length : Int)) = (left : Int) - (a.length : Int) := wrap_id (by omega) (by omega)
  rw [size_ofL, size_ofL, w1]
  clear w1
  by_cases h : (left : Int) - (a.length : Int) < 0
  · exact ⟨-1, ev_pos h (ev_some _), by omega, fun h => by omega⟩
  · have w2 : wrap64 ((left : Int) - (a.length : Int) - (b.length : Int)) = (left : Int) - (a.length : Int) - (b.length : Int) := wrap_id (by omega) (by omega)
    rw [w2]
    clear w2
    by_cases h2 : (left : Int) - (a.length : Int) - (b.length : Int) < 0
    · exact ⟨-1, ev_neg h (ev_pos h2 (ev_some _)), by omega, fun h => by omega⟩
    · have e2 : (left : Int) - (a.length : Int) - (b.length : Int) = ((left - a.length - b.length : Nat) : Int) := by omega
      obtain ⟨v, hv, hv1, hv2⟩ := szFieldS_ev ls hl hn (left - a.length - b.length) (by omega)
      rw [e2]
      by_cases h3 : v < 0
      · exact ⟨-1, ev_neg h (ev_neg (by omega) (ev_bind hv (ev_pos h3 (ev_some _)))), by omega, fun h => by omega⟩
      · exact ⟨v, ev_neg h (ev_neg (by omega) (ev_bind hv (ev_neg h3 (ev_some _)))), by omega, fun h0 => by have := hv2 h0; omega⟩
theorem toFieldS_ev (ls : List (Str × Str)) (hn : ls.length ≤ 1000000000000) : Ev (fun k => laws_toFieldS.f k (ls.map e91)) (ls.map e76) := by
  have key : ∀ (r p : List (Str × Str)), ls = p ++ r → Ev (fun k => laws_toFieldS.l0 k (ls.map e91) (p.map e76 ++ List.replicate r.length z76) (p.length : Int)) (ls.map e76) := by
    intro r
    induction r with
    | nil =>
      intro p h
      have hz : ls.length = p.length := by rw [h, List.append_nil]
      refine ev_succ ?_
      simp only [laws_toFieldS.l0, List.length_map]
      refine ev_neg (by omega) (ev_eq (ev_some _) ?_)
      rw [h]; simp
    | cons c r ih =>
      intro p h
      have hz := len_mid h
      have e1 := rd91_mid h
      have w1 : wrap64 ((p.length : Int) + 1) = (p.length : Int) + 1 := wrap_id (by omega) (by omega)
      have := ih (p ++ [c]) (by rw [h]; simp)
      rw [len_snoc] at this
      have e2 : (p.map e76 ++ List.replicate (r.length + 1) z76).set p.length (⟨ofL c.1, ofL c.2⟩ : S76) = (p ++ [c]).map e76 ++ List.replicate r.length z76 := by
        rw [List.set_append_right _ _ (by simp), List.length_map, Nat.sub_self, List.replicate_succ, List.set_cons_zero, List.map_append, List.append_assoc]
        rfl
      rw [← e2] at this
      refine ev_succ ?_
      simp only [laws_toFieldS.l0, laws_toField.f, List.length_map, e1, w1, Int.toNat_natCast, List.length_cons, Option.bind_some]
      clear w1
      exact ev_pos (by omega) (ev_pos (by omega) (ev_pos (by simp; omega) this))
  unfold laws_toFieldS.f
  simp only [List.length_map, Int.toNat_natCast]
  exact ev_pos (by omega) (ev_pos (by omega) (key ls [] rfl))
theorem toKind_ev (a b : Str) (ls : List (Str × Str)) (hn : ls.length ≤ 1000000000000) : Ev (fun k => laws_toKind.f k (ofL a) (ofL b) (ls.map e91)) (ofL a, ofL b, ls.map e76) := by
  unfold laws_toKind.f
  exact ev_bind (toFieldS_ev ls hn) (ev_some _)
theorem eqFieldS_ev (ls : List (Str × Str)) (hn : ls.length ≤ 1000000000000) : Ev (fun k => laws_eqFieldS.f k (ls.map e76) (ls.map e76)) true := by
  unfold laws_eqFieldS.f
  refine ev_pos rfl (ev_eq (run_start (xs := ls) (F := fun k (_ : Unit) i => laws_eqFieldS.l0 k (ls.map e76) (ls.map e76) i) (st := fun _ _ => .inr ()) (fin := fun _ => true) (s := ()) (fun _ _ => True) trivial ?_ ?_) (run_unit _ _))
  · intro p c r s h _
    have hz := len_mid h
    have e1 := rd76_mid h
    have w1 : wrap64 ((p.length : Int) + 1) = (p.length : Int) + 1 := wrap_id (by omega) (by omega)
    simp only [laws_eqFieldS.l0, laws_eqField.f, e1, w1, List.length_map]
    clear w1 e1
    refine ⟨(fun v hv => by cases hv), fun s' hs => ⟨trivial, fun v hv => ?_⟩⟩
    exact ev_pos (by omega) (ev_pos (by omega) (ev_pos (by omega) (ev_bind0 (by simp) (ev_pos rfl hv))))
  · intro s _
    simp only [laws_eqFieldS.l0, List.length_map]
    exact ev_neg (by omega) (ev_some _)
theorem eqKind_ev (a b : Str) (ls : List (Str × Str)) (hn : ls.length ≤ 1000000000000) : Ev (fun k => laws_eqKind.f k (ofL a) (ofL b) (ls.map e76) (ofL a) (ofL b) (ls.map e76)) true := by
  unfold laws_eqKind.f
  exact ev_pos rfl (ev_pos rfl (ev_bind (eqFieldS_ev ls hn) (ev_pos rfl (ev_some _))))

/-! Kinds that are the same. -/
theorem not_eq_pair (a b c d : Str) : (!(((ofL a).toList) == ((ofL b).toList)) || (!(((ofL c).toList) == ((ofL d).toList)))) = true ↔ ¬ ((a, c) = (b, d)) := by
  simp only [toList_ofL, Prod.mk.injEq]
  by_cases h1 : a = b <;> by_cases h2 : c = d <;> simp [h1, h2]
theorem spec_FieldsSame_ev (a b : List (Str × Str)) (hn : a.length ≤ 1000000000000) : Ev (fun k => spec_FieldsSame.f k (a.map e76) (b.map e76)) (decide (a = b)) := by
  unfold spec_FieldsSame.f
  simp only [List.length_map]
  by_cases hl : a.length = b.length
  · refine ev_pos (by omega) ?_
    refine ev_eq (run_start (xs := a) (F := fun k (_ : List (Str × Str)) i => spec_FieldsSame.l0 k (a.map e76) (b.map e76) i) (st := stp) (fin := fun _ => true) (s := b) (fun p r => ∃ q, b = q ++ r ∧ q.length = p.length) ⟨[], rfl, rfl⟩ ?_ ?_) (same_run a b hl)
    · rintro p c r s h ⟨q, hq, hql⟩
      have hz := len_mid h
      have e1 := rd76_mid h
      have w1 : wrap64 ((p.length : Int) + 1) = (p.length : Int) + 1 := wrap_id (by omega) (by omega)
      cases s with
      | nil => rw [hq] at hl; simp at hl; omega
      | cons d s =>
        have e2 := rd76_mid hq
        rw [hql] at e2
        have e3 := not_eq_pair c.1 d.1 c.2 d.2
        simp only [spec_FieldsSame.l0, e1, e2, w1, List.length_map, e76, e3, stp]
        clear w1 e1 e2 e3
        by_cases e : c = d
        · simp only [if_pos e]
          refine ⟨(fun v hv => by cases hv), fun s' hs => ⟨?_, fun v hv => ?_⟩⟩
          · cases hs; exact ⟨q ++ [d], by rw [hq]; simp, by simp [hql]⟩
          · exact ev_pos (by omega) (ev_pos (by omega) (ev_pos (by omega) (ev_neg (by simp [e]) hv)))
        · simp only [if_neg e]
          refine ⟨(fun v hv => ?_), fun s' hs => by cases hs⟩
          cases hv
          exact ev_pos (by omega) (ev_pos (by omega) (ev_pos (by omega) (ev_pos e (ev_some _))))
    · intro s _
      simp only [spec_FieldsSame.l0, List.length_map]
      exact ev_neg (by omega) (ev_some _)
  · refine ev_neg (by omega) (ev_eq (ev_some _) ?_)
    rw [eq_comm]; exact decide_eq_false (fun h => hl (by rw [h]))
theorem impl_FieldsSame_ev (a b : List (Str × Str)) (hn : a.length ≤ 1000000000000) : Ev (fun k => impl_Field.f k (a.map e76) (b.map e76)) (decide (a = b)) := by
  unfold impl_Field.f
  simp only [List.length_map]
  by_cases hl : a.length = b.length
  · refine ev_pos (by omega) ?_
    refine ev_eq (run_start (xs := a) (F := fun k (_ : List (Str × Str)) i => impl_Field.l0 k (a.map e76) (b.map e76) (a.length : Int) i) (st := stp) (fin := fun _ => true) (s := b) (fun p r => ∃ q, b = q ++ r ∧ q.length = p.length) ⟨[], rfl, rfl⟩ ?_ ?_) (same_run a b hl)
    · rintro p c r s h ⟨q, hq, hql⟩
      have hz := len_mid h
      have e1 := rd76_mid h
      have w1 : wrap64 ((p.length : Int) + 1) = (p.length : Int) + 1 := wrap_id (by omega) (by omega)
      cases s with
      | nil => rw [hq] at hl; simp at hl; omega
      | cons d s =>
        have e2 := rd76_mid hq
        rw [hql] at e2
        have e3 := not_eq_pair c.1 d.1 c.2 d.2
        simp only [impl_Field.l0, e1, e2, w1, List.length_map, e76, e3, stp]
        clear w1 e1 e2 e3
        by_cases e : c = d
        · simp only [if_pos e]
          refine ⟨(fun v hv => by cases hv), fun s' hs => ⟨?_, fun v hv => ?_⟩⟩
          · cases hs; exact ⟨q ++ [d], by rw [hq]; simp, by simp [hql]⟩
          · exact ev_pos (by omega) (ev_pos (by omega) (ev_pos (by omega) (ev_pos (by omega) (ev_neg (by simp [e]) hv))))
        · simp only [if_neg e]
          refine ⟨(fun v hv => ?_), fun s' hs => by cases hs⟩
          cases hv
          exact ev_pos (by omega) (ev_pos (by omega) (ev_pos (by omega) (ev_pos (by omega) (ev_pos e (ev_some _)))))
    · intro s _
      simp only [impl_Field.l0, List.length_map]
      exact ev_neg (by omega) (ev_some _)
  · refine ev_neg (by omega) (ev_eq (ev_some _) ?_)
    rw [eq_comm]; exact decide_eq_false (fun h => hl (by rw [h]))
def ksame (a b c d : Str) (x y : List (Str × Str)) : Bool := if a = c then (if b = d then decide (x = y) else false) else false
theorem spec_KindSame_ev (a b c d : Str) (x y : List (Str × Str)) (hn : x.length ≤ 1000000000000) : Ev (fun k => spec_KindSame.f k (ofL a) (ofL b) (x.map e76) (ofL c) (ofL d) (y.map e76)) (ksame a b c d x y) := by
  unfold spec_KindSame.f ksame
  simp only [toList_ofL]
  by_cases h1 : a = c
  · rw [if_pos h1]
    by_cases h2 : b = d
    · rw [if_pos h2]; exact ev_pos h1 (ev_pos h2 (ev_bind (spec_FieldsSame_ev x y hn) (ev_some _)))
    · rw [if_neg h2]; exact ev_pos h1 (ev_neg h2 (ev_some _))
  · rw [if_neg h1]; exact ev_neg h1 (ev_some _)
theorem impl_KindSame_ev (a b c d : Str) (x y : List (Str × Str)) (hn : x.length ≤ 1000000000000) : Ev (fun k => impl_KindSame.f k (ofL a) (ofL b) (x.map e76) (ofL c) (ofL d) (y.map e76)) (ksame a b c d x y) := by
  unfold impl_KindSame.f ksame
  simp only [toList_ofL]
  by_cases h1 : a = c
  · rw [if_pos h1]
    by_cases h2 : b = d
    · rw [if_pos h2]; exact ev_pos h1 (ev_pos h2 (ev_bind (impl_FieldsSame_ev x y hn) (ev_some _)))
    · rw [if_neg h2]; exact ev_pos h1 (ev_neg h2 (ev_some _))
  · rw [if_neg h1]; exact ev_neg h1 (ev_some _)

theorem kind_open {s u : ByteArray} {l : List S91} (hs : s.size ≤ maxLen) (hu : u.size ≤ maxLen) (hl : l.length ≤ maxLen) (hx : ∀ x ∈ l, x.f0.size ≤ maxLen ∧ x.f1.size ≤ maxLen) :
    ∃ (a b : Str) (ls : List (Str × Str)), s = ofL a ∧ u = ofL b ∧ l = ls.map e91 ∧ a.length ≤ 9223372036854775807 ∧ b.length ≤ 9223372036854775807 ∧ sane ls ∧ ls.length ≤ 9223372036854775807 := by
  unfold maxLen at *
  rw [size_L] at hs hu
  refine ⟨L s, L u, l.map p91, (ofL_L s).symm, (ofL_L u).symm, (map_e91 l).symm, by omega, by omega, fun x hm => ?_, by rw [List.length_map]; omega⟩
  obtain ⟨y, hy, rfl⟩ := List.mem_map.mp hm
  have := hx y hy
  rw [size_L, size_L] at this
  exact ⟨by show (L y.f0).length ≤ _; omega, by show (L y.f1).length ≤ _; omega⟩

def laws_FnExactKindSame.Pure : Prop := ∀ (s0 u0 : ByteArray) (l0 : List S91) (s1 u1 : ByteArray) (l1 : List S91), s0.size ≤ maxLen → u0.size ≤ maxLen → l0.length ≤ maxLen → (∀ x ∈ l0, x.f0.size ≤ maxLen ∧ x.f1.size ≤ maxLen) →
    s1.size ≤ maxLen → u1.size ≤ maxLen → l1.length ≤ maxLen → (∀ x ∈ l1, x.f0.size ≤ maxLen ∧ x.f1.size ≤ maxLen) → ∃ k, laws_FnExactKindSame.f k s0 u0 l0 s1 u1 l1 = some true
theorem FnExactKindSame : laws_FnExactKindSame.Pure := by
  intro s0 u0 l0 s1 u1 l1 h1 h2 h3 h4 h5 h6 h7 h8
  apply ev_rounds
  obtain ⟨a, b, x, rfl, rfl, rfl, ha, hb, hx, hxl⟩ := kind_open h1 h2 h3 h4
  obtain ⟨c, d, y, rfl, rfl, rfl, hc, hd, hy, hyl⟩ := kind_open h5 h6 h7 h8
  clear h1 h2 h3 h4 h5 h6 h7 h8
  unfold laws_FnExactKindSame.f
  obtain ⟨v, hv, hv1, hv2⟩ := szKind_ev a b ha hb x hx hxl 1048576 (by omega)
  by_cases h0 : v < 0
  · exact ev_bind hv (ev_pos h0 (ev_some _))
  · have hvv := hv2 (by omega)
    obtain ⟨m, rfl⟩ := Int.eq_ofNat_of_zero_le (a := v) (by omega)
    obtain ⟨u, hu, hu1, hu2⟩ := szKind_ev c d hc hd y hy hyl m (by omega)
    by_cases h9 : u < 0
    · exact ev_bind hv (ev_neg h0 (ev_bind hu (ev_pos h9 (ev_some _))))
    · have huu := hu2 (by omega)
      have t1 := toKind_ev a b x (by omega)
      have t2 := toKind_ev c d y (by omega)
      have q1 := eqKind_ev a b x (by omega)
      have q2 := eqKind_ev c d y (by omega)
      have i1 := impl_KindSame_ev a b c d x y (by omega)
      have i2 := spec_KindSame_ev a b c d x y (by omega)
      refine ev_bind hv (ev_neg h0 (ev_bind hu (ev_neg h9 (ev_bind t1 (ev_bind t2 (ev_bind i2 (ev_bind t1 (ev_bind t2 (ev_bind i1 (ev_neg (by simp) ?_))))))))))
      exact ev_bind t1 (ev_bind q1 (ev_pos rfl (ev_bind t2 (ev_bind q2 (ev_pos rfl (ev_some _))))))

end Go.Proofs.Ytengipddcaookaa.Pure
