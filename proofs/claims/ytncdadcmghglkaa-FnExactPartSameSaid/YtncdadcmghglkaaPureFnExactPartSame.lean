/- Proved here: the pure form of the law FnExactPartSame (the program's PartSame is the reference's) returns true for all arguments; conditions: none beyond those that the printed statement bears. -/
import Derived.Test.YtncdadcmghglkaaPFnExactPartSamex10
import Derived.Test.YtncdadcmghglkaaOpsPart
import Derived.Test.YtncdadcmghglkaaZb
namespace Go.Proofs.Ytncdadcmghglkaa.Pure
open Go.Proofs.YtncdadcmghglkaaOP Go.RowKit Go.Proofs.Ytncdadcmghglkaa.X Go.Proofs.Ytncdadcmghglkaa.PFnExactPartSame Go.Proofs.YtncdadcmghglkaaW.PrintWords Go.Proofs.YtncdadcmghglkaaW.PrintLast Go.Proofs.Ytncdadcmghglkaa.Z
set_option linter.unusedVariables false
set_option linter.unusedSimpArgs false

theorem run_unit {α R : Type} (fin : Unit → R) (r : List α) : run (fun (_ : Unit) (_ : α) => (.inr () : R ⊕ Unit)) fin r () = fin () := by
  induction r with
  | nil => rfl
  | cons c r ih => unfold run; exact ih

def stp {α : Type} [DecidableEq α] (r : List α) (c : α) : Bool ⊕ List α := match r with
  | [] => .inl false
  | d :: r => if c = d then .inr r else .inl false
theorem same_run {α : Type} [DecidableEq α] (a b : List α) (hl : a.length = b.length) : run stp (fun _ => true) a b = decide (a = b) := by
  induction a generalizing b with
  | nil => cases b with
    | nil => rfl
    | cons d b => simp at hl
  | cons c a ih => cases b with
    | nil => simp at hl
    | cons d b =>
      unfold run
      by_cases e : c = d
      · simp only [stp, if_pos e]; rw [ih b (by simpa using hl)]; simp [e]
      · simp only [stp, if_neg e]; simp [e]

/-! Texts that came in: their size, a copy, and the same again. -/
def szs : List Str → Nat
  | [] => 0
  | c :: r => c.length + szs r
theorem szs_append (a b : List Str) : szs (a ++ b) = szs a + szs b := by
  induction a with
  | nil => simp [szs]
  | cons c a ih => simp only [List.cons_append, szs, ih]; omega
theorem szs_mem {a : List Str} {c : Str} (h : c ∈ a) : c.length ≤ szs a := by
  induction a with
  | nil => cases h
  | cons d a ih =>
    simp only [szs]
    rcases List.mem_cons.mp h with rfl | h
    · omega
    · have := ih h; omega
theorem map_ofL_L (l : List ByteArray) : (l.map L).map ofL = l := by
  rw [List.map_map]
  exact (List.map_congr_left (fun x _ => ofL_L x)).trans (List.map_id l)
theorem szString_loop (ls : List Str) (hl : ∀ x ∈ ls, x.length ≤ 9223372036854775807) (hn : ls.length ≤ 9223372036854775807) (r : List Str) : ∀ (p : List Str) (left : Nat), ls = p ++ r → left ≤ 1048576 → ∃ v : Int, Ev (fun k => laws_szStringS.l0 k (ls.map ofL) (left : Int) (p.length : Int)) v ∧ v ≤ left ∧ (0 ≤ v → v = (left : Int) - szs r) := by
  induction r with
  | nil =>
    intro p left h hle
    have hz : ls.length = p.length := by rw [h, List.append_nil]
    refine ⟨left, ev_succ ?_, Int.le_refl _, fun _ => by simp [szs]⟩
    simp only [laws_szStringS.l0, List.length_map]
    exact ev_neg (by omega) (ev_some _)
  | cons c r ih =>
    intro p left h hle
    have hz := len_mid h
    have e1 := rdOf_ofL h
    have hc := hl c (by rw [h]; simp)
    have w1 : wrap64 ((p.length : Int) + 1) = (p.length : Int) + 1 ∧ wrap64 ((left : Int) - (c.length : Int)) = (left : Int) - (c.length : Int) := ⟨wrap_id (by omega) (by omega), wrap_id (by omega) (by omega)⟩
    by_cases hlt : (left : Int) - (c.length : Int) < 0
    · refine ⟨-1, ev_succ ?_, by omega, fun h => by omega⟩
      simp only [laws_szStringS.l0, List.length_map, e1, size_ofL, w1.1, w1.2]
      clear w1
      exact ev_pos (by omega) (ev_pos (by omega) (ev_pos hlt (ev_some _)))
    · obtain ⟨v, hv, hv1, hv2⟩ := ih (p ++ [c]) (left - c.length) (by rw [h]; simp) (by omega)
      rw [len_snoc] at hv
      refine ⟨v, ev_succ ?_, by omega, fun h0 => by have := hv2 h0; simp only [szs]; omega⟩
      have e2 : (left : Int) - (c.length : Int) = ((left - c.length : Nat) : Int) := by omega
      simp only [laws_szStringS.l0, List.length_map, e1, size_ofL, w1.1, w1.2]
      clear w1
      rw [e2]
      exact ev_pos (by omega) (ev_pos (by omega) (ev_neg (by omega) hv))
theorem laws_szStringS_ev (ls : List Str) (hl : ∀ x ∈ ls, x.length ≤ 9223372036854775807) (hn : ls.length ≤ 9223372036854775807) (left : Nat) (hle : left ≤ 1048576) : ∃ v : Int, Ev (fun k => laws_szStringS.f k (ls.map ofL) (left : Int)) v ∧ v ≤ left ∧ (0 ≤ v → v = (left : Int) - ls.length - szs ls) := by
  unfold laws_szStringS.f
  have w1 : wrap64 ((left : Int) - (ls.length : Int)) = (left : Int) - (ls.length : Int) := wrap_id (by omega) (by omega)
  rw [List.length_map, w1]
  clear w1
  by_cases h : (left : Int) - (ls.length : Int) < 0
  · exact ⟨-1, ev_pos h (ev_some _), by omega, fun h => by omega⟩
  · have e2 : (left : Int) - (ls.length : Int) = ((left - ls.length : Nat) : Int) := by omega
    obtain ⟨v, hv, hv1, hv2⟩ := szString_loop ls hl hn ls [] (left - ls.length) rfl (by omega)
    rw [e2]
    exact ⟨v, ev_neg (by omega) hv, by omega, fun h0 => by have := hv2 h0; omega⟩
theorem laws_toStringS_ev (ls : List Str) (hn : ls.length ≤ 1000000000000) : Ev (fun k => laws_toStringS.f k (ls.map ofL)) (ls.map ofL) := by
  have key : ∀ (r p : List Str), ls = p ++ r → Ev (fun k => laws_toStringS.l0 k (ls.map ofL) (p.map ofL ++ List.replicate r.length (⟨#[]⟩ : ByteArray)) (p.length : Int)) (ls.map ofL) := by
    intro r
    induction r with
    | nil =>
      intro p h
      have hz : ls.length = p.length := by rw [h, List.append_nil]
      refine ev_succ ?_
      simp only [laws_toStringS.l0, List.length_map]
      refine ev_neg (by omega) (ev_eq (ev_some _) ?_)
      rw [h]; simp
    | cons c r ih =>
      intro p h
      have hz := len_mid h
      have e1 := rdOf_ofL h
      have w1 : wrap64 ((p.length : Int) + 1) = (p.length : Int) + 1 := wrap_id (by omega) (by omega)
      have := ih (p ++ [c]) (by rw [h]; simp)
      rw [len_snoc] at this
      have e2 : (p.map ofL ++ List.replicate (r.length + 1) (⟨#[]⟩ : ByteArray)).set p.length (ofL c) = (p ++ [c]).map ofL ++ List.replicate r.length (⟨#[]⟩ : ByteArray) := by
        rw [List.set_append_right _ _ (by simp), List.length_map, Nat.sub_self, List.replicate_succ, List.set_cons_zero, List.map_append, List.append_assoc]
        rfl
      rw [← e2] at this
      refine ev_succ ?_
      simp only [laws_toStringS.l0, List.length_map, e1, w1, Int.toNat_natCast, List.length_cons]
      clear w1
      exact ev_pos (by omega) (ev_pos (by omega) (ev_pos (by simp; omega) this))
  unfold laws_toStringS.f
  simp only [List.length_map, Int.toNat_natCast]
  exact ev_pos (by omega) (ev_pos (by omega) (key ls [] rfl))
theorem laws_eqStringS_ev (a b : List Str) (hn : a.length ≤ 1000000000000000) : Ev (fun k => laws_eqStringS.f k (a.map ofL) (b.map ofL)) (decide (a = b)) := by
  unfold laws_eqStringS.f
  simp only [List.length_map]
  by_cases hl : a.length = b.length
  · refine ev_pos (by omega) ?_
    refine ev_eq (run_start (xs := a) (F := fun k (_ : List Str) i => laws_eqStringS.l0 k (a.map ofL) (b.map ofL) i) (st := fun r c => match r with
      | [] => .inl false
      | d :: r => if c = d then .inr r else .inl false) (fin := fun _ => true) (s := b) (fun p r => ∃ q, b = q ++ r ∧ q.length = p.length) ⟨[], rfl, rfl⟩ ?_ ?_) ?_
    · rintro p c r s h ⟨q, hq, hql⟩
      have hz := len_mid h
      have e1 := rdOf_ofL h
      have w1 : wrap64 ((p.length : Int) + 1) = (p.length : Int) + 1 := wrap_id (by omega) (by omega)
      cases s with
      | nil => rw [hq] at hl; simp at hl; omega
      | cons d s =>
        have e2 := rdOf_ofL hq
        rw [hql] at e2
        simp only [laws_eqStringS.l0, e1, e2, w1, List.length_map, toList_ofL]
        clear w1 e1 e2
        by_cases e : c = d
        · simp only [if_pos e]
          refine ⟨(fun v hv => by cases hv), fun s' hs => ⟨?_, fun v hv => ?_⟩⟩
          · cases hs; exact ⟨q ++ [d], by rw [hq]; simp, by simp [hql]⟩
          · exact ev_pos (by omega) (ev_pos (by omega) (ev_pos (by omega) hv))
        · simp only [if_neg e]
          refine ⟨(fun v hv => ?_), fun s' hs => by cases hs⟩
          cases hv
          exact ev_pos (by omega) (ev_pos (by omega) (ev_pos (by omega) (ev_some _)))
    · intro s _
      simp only [laws_eqStringS.l0, List.length_map]
      exact ev_neg (by omega) (ev_some _)
    · clear hn
      induction a generalizing b with
      | nil => cases b with
        | nil => rfl
        | cons d b => simp at hl
      | cons c a ih => cases b with
        | nil => simp at hl
        | cons d b =>
          unfold run
          by_cases e : c = d
          · simp only [if_pos e]; rw [ih b (by simpa using hl)]; simp [e]
          · simp only [if_neg e]; simp [e]
  · refine ev_neg (by omega) (ev_eq (ev_some _) ?_)
    rw [eq_comm]; exact decide_eq_false (fun h => hl (by rw [h]))

/-! Fields that came in: pairs of texts. -/
def e91 (p : Str × Str) : S48 := ⟨ofL p.1, ofL p.2⟩
def e76 (p : Str × Str) : S43 := ⟨ofL p.1, ofL p.2⟩
def szp : List (Str × Str) → Nat
  | [] => 0
  | c :: r => c.1.length + c.2.length + szp r
theorem szp_mem {a : List (Str × Str)} {c : Str × Str} (h : c ∈ a) : c.1.length + c.2.length ≤ szp a := by
  induction a with
  | nil => cases h
  | cons d a ih =>
    simp only [szp]
    rcases List.mem_cons.mp h with rfl | h
    · omega
    · have := ih h; omega
theorem rd91_mid {ls p r : List (Str × Str)} {c : Str × Str} (h : ls = p ++ c :: r) : rd_T48 (ls.map e91) (p.length : Int) = e91 c := by
  unfold rd_T48
  rw [List.getD_eq_getElem?_getD, h]
  simp
theorem rd76_mid {ls p r : List (Str × Str)} {c : Str × Str} (h : ls = p ++ c :: r) : rd_T43 (ls.map e76) (p.length : Int) = e76 c := by
  unfold rd_T43
  rw [List.getD_eq_getElem?_getD, h]
  simp
def p91 (x : S48) : Str × Str := (L x.f0, L x.f1)
theorem map_e91 (l : List S48) : (l.map p91).map e91 = l := by
  rw [List.map_map]
  exact (List.map_congr_left (fun x _ => rfl)).trans (List.map_id l)
theorem szField_ev (a b : Str) (ha : a.length ≤ 9223372036854775807) (hb : b.length ≤ 9223372036854775807) (left : Nat) (hle : left ≤ 1048576) : ∃ v : Int, laws_szField.f (ofL a) (ofL b) (left : Int) = some v ∧ v ≤ left ∧ (0 ≤ v → v = (left : Int) - a.length - b.length) := by
  unfold laws_szField.f
  have w1 : wrap64 ((left : Int) - (a.length : Int)) = (left : Int) - (a.length : Int) := wrap_id (by omega) (by omega)
  rw [size_ofL, size_ofL, w1]
  by_cases h : (left : Int) - (a.length : Int) < 0
  · exact ⟨-1, by rw [if_pos h], by omega, fun h => by omega⟩
  · have w2 : wrap64 ((left : Int) - (a.length : Int) - (b.length : Int)) = (left : Int) - (a.length : Int) - (b.length : Int) := wrap_id (by omega) (by omega)
    rw [if_neg h, w2]
    by_cases h2 : (left : Int) - (a.length : Int) - (b.length : Int) < 0
    · exact ⟨-1, by rw [if_pos h2], by omega, fun h => by omega⟩
    · exact ⟨_, by rw [if_neg h2], by omega, fun _ => rfl⟩
def sane (ls : List (Str × Str)) : Prop := ∀ x ∈ ls, x.1.length ≤ 9223372036854775807 ∧ x.2.length ≤ 9223372036854775807
theorem szFieldS_loop (ls : List (Str × Str)) (hl : sane ls) (hn : ls.length ≤ 9223372036854775807) (r : List (Str × Str)) : ∀ (p : List (Str × Str)) (left : Nat), ls = p ++ r → left ≤ 1048576 → ∃ v : Int, Ev (fun k => laws_szFieldS.l0 k (ls.map e91) (left : Int) (p.length : Int)) v ∧ v ≤ left ∧ (0 ≤ v → v = (left : Int) - szp r) := by
  induction r with
  | nil =>
    intro p left h hle
    have hz : ls.length = p.length := by rw [h, List.append_nil]
    refine ⟨left, ev_succ ?_, Int.le_refl _, fun _ => by simp [szp]⟩
    simp only [laws_szFieldS.l0, List.length_map]
    exact ev_neg (by omega) (ev_some _)
  | cons c r ih =>
    intro p left h hle
    have hz := len_mid h
    have e1 := rd91_mid h
    have hc := hl c (by rw [h]; simp)
    have w1 : wrap64 ((p.length : Int) + 1) = (p.length : Int) + 1 := wrap_id (by omega) (by omega)
    obtain ⟨v, hv, hv1, hv2⟩ := szField_ev c.1 c.2 hc.1 hc.2 left hle
    by_cases hlt : v < 0
    · refine ⟨-1, ev_succ ?_, by omega, fun h => by omega⟩
      simp only [laws_szFieldS.l0, List.length_map, e1, w1]
      clear w1
      exact ev_pos (by omega) (ev_pos (by omega) (ev_bind0 hv (ev_pos hlt (ev_some _))))
    · have hvv := hv2 (by omega)
      obtain ⟨u, hu, hu1, hu2⟩ := ih (p ++ [c]) (left - c.1.length - c.2.length) (by rw [h]; simp) (by omega)
      rw [len_snoc] at hu
      refine ⟨u, ev_succ ?_, by omega, fun h0 => by have := hu2 h0; simp only [szp]; omega⟩
      have e2 : v = ((left - c.1.length - c.2.length : Nat) : Int) := by omega
      simp only [laws_szFieldS.l0, List.length_map, e1, w1]
      clear w1
      rw [← e2] at hu
      exact ev_pos (by omega) (ev_pos (by omega) (ev_bind0 hv (ev_neg hlt hu)))
theorem szFieldS_ev (ls : List (Str × Str)) (hl : sane ls) (hn : ls.length ≤ 9223372036854775807) (left : Nat) (hle : left ≤ 1048576) : ∃ v : Int, Ev (fun k => laws_szFieldS.f k (ls.map e91) (left : Int)) v ∧ v ≤ left ∧ (0 ≤ v → v = (left : Int) - ls.length - szp ls) := by
  unfold laws_szFieldS.f
  have w1 : wrap64 ((left : Int) - (ls.length : Int)) = (left : Int) - (ls.length : Int) := wrap_id (by omega) (by omega)
  rw [List.length_map, w1]
  clear w1
  by_cases h : (left : Int) - (ls.length : Int) < 0
  · exact ⟨-1, ev_pos h (ev_some _), by omega, fun h => by omega⟩
  · have e2 : (left : Int) - (ls.length : Int) = ((left - ls.length : Nat) : Int) := by omega
    obtain ⟨v, hv, hv1, hv2⟩ := szFieldS_loop ls hl hn ls [] (left - ls.length) rfl (by omega)
    rw [e2]
    exact ⟨v, ev_neg (by omega) hv, by omega, fun h0 => by have := hv2 h0; omega⟩
theorem toFieldS_ev (ls : List (Str × Str)) (hn : ls.length ≤ 1000000000000) : Ev (fun k => laws_toFieldS.f k (ls.map e91)) (ls.map e76) := by
  have key : ∀ (r p : List (Str × Str)), ls = p ++ r → Ev (fun k => laws_toFieldS.l0 k (ls.map e91) (p.map e76 ++ List.replicate r.length z43) (p.length : Int)) (ls.map e76) := by
    intro r
    induction r with
    | nil =>
      intro p h
      have hz : ls.length = p.length := by rw [h, List.append_nil]
      refine ev_succ ?_
      simp only [laws_toFieldS.l0, List.length_map]
      refine ev_neg (by omega) (ev_eq (ev_some _) ?_)
      rw [h]; simp
    | cons c r ih =>
      intro p h
      have hz := len_mid h
      have e1 := rd91_mid h
      have w1 : wrap64 ((p.length : Int) + 1) = (p.length : Int) + 1 := wrap_id (by omega) (by omega)
      have := ih (p ++ [c]) (by rw [h]; simp)
      rw [len_snoc] at this
      have e2 : (p.map e76 ++ List.replicate (r.length + 1) z43).set p.length (⟨ofL c.1, ofL c.2⟩ : S43) = (p ++ [c]).map e76 ++ List.replicate r.length z43 := by
        rw [List.set_append_right _ _ (by simp), List.length_map, Nat.sub_self, List.replicate_succ, List.set_cons_zero, List.map_append, List.append_assoc]
        rfl
      rw [← e2] at this
      refine ev_succ ?_
      simp only [laws_toFieldS.l0, laws_toField.f, List.length_map, e1, w1, Int.toNat_natCast, List.length_cons, Option.bind_some]
      clear w1
      exact ev_pos (by omega) (ev_pos (by omega) (ev_pos (by simp; omega) this))
  unfold laws_toFieldS.f
  simp only [List.length_map, Int.toNat_natCast]
  exact ev_pos (by omega) (ev_pos (by omega) (key ls [] rfl))
theorem eqFieldS_ev (ls : List (Str × Str)) (hn : ls.length ≤ 1000000000000) : Ev (fun k => laws_eqFieldS.f k (ls.map e76) (ls.map e76)) true := by
  unfold laws_eqFieldS.f
  refine ev_pos rfl (ev_eq (run_start (xs := ls) (F := fun k (_ : Unit) i => laws_eqFieldS.l0 k (ls.map e76) (ls.map e76) i) (st := fun _ _ => .inr ()) (fin := fun _ => true) (s := ()) (fun _ _ => True) trivial ?_ ?_) (run_unit _ _))
  · intro p c r s h _
    have hz := len_mid h
    have e1 := rd76_mid h
    have w1 : wrap64 ((p.length : Int) + 1) = (p.length : Int) + 1 := wrap_id (by omega) (by omega)
    simp only [laws_eqFieldS.l0, laws_eqField.f, e1, w1, List.length_map]
    clear w1 e1
    refine ⟨(fun v hv => by cases hv), fun s' hs => ⟨trivial, fun v hv => ?_⟩⟩
    exact ev_pos (by omega) (ev_pos (by omega) (ev_pos (by omega) (ev_bind0 (by simp) (ev_pos rfl hv))))
  · intro s _
    simp only [laws_eqFieldS.l0, List.length_map]
    exact ev_neg (by omega) (ev_some _)

/-! Parts: rows of texts, and parts within parts. -/
inductive Pt where
  | mk (f : List (Str × Str)) (b : List Str) (k : List Pt)
mutual
def e32 : Pt → S32
  | .mk f b k => ⟨f.map e76, b.map ofL, e32s k⟩
def e32s : List Pt → List S32
  | [] => []
  | p :: r => e32 p :: e32s r
end
theorem e32s_map (k : List Pt) : e32s k = k.map e32 := by
  induction k with
  | nil => rfl
  | cons p r ih => rw [e32s, ih]; rfl
theorem e32_mk (f : List (Str × Str)) (b : List Str) (k : List Pt) : e32 (.mk f b k) = ⟨f.map e76, b.map ofL, k.map e32⟩ := by rw [e32, e32s_map]
theorem rd32_mid {ls p r : List Pt} {c : Pt} (h : ls = p ++ c :: r) : rd_T32 (ls.map e32) (p.length : Int) = e32 c := by
  unfold rd_T32
  rw [List.getD_eq_getElem?_getD, h]
  simp
mutual
def szt : Pt → Nat
  | .mk f b k => f.length + szp f + b.length + szs b + k.length + szts k
def szts : List Pt → Nat
  | [] => 0
  | p :: r => szt p + szts r
end
theorem szts_mem {k : List Pt} {p : Pt} (h : p ∈ k) : szt p ≤ szts k := by
  induction k with
  | nil => cases h
  | cons d a ih =>
    rw [szts]
    rcases List.mem_cons.mp h with rfl | h
    · omega
    · have := ih h; omega
mutual
def smt : Pt → Pt → Bool
  | .mk f b k, .mk g c l => decide (f = g) && (decide (b = c) && (decide (k.length = l.length) && smts k l))
def smts : List Pt → List Pt → Bool
  | [], _ => true
  | _ :: _, [] => false
  | p :: r, q :: s => smt p q && smts r s
end
/-- What holds of a part if it holds of it where it holds of all its parts. -/
theorem pt_ind {P : Pt → Prop} (h : ∀ f b k, (∀ p ∈ k, P p) → P (.mk f b k)) (p : Pt) : P p := by
  have key : ∀ (n : Nat) (p : Pt), SizeOf.sizeOf p < n → P p := by
    intro n
    induction n with
    | zero => intro p hp; omega
    | succ n ih =>
      intro p hp
      cases p with
      | mk f b k =>
        refine h f b k fun q hq => ih q ?_
        have := List.sizeOf_lt_of_mem hq
        simp only [Pt.mk.sizeOf_spec] at hp
        omega
  exact key _ p (Nat.lt_succ_self _)

theorem not_eq_pair (a b c d : Str) : (!(((ofL a).toList) == ((ofL b).toList)) || (!(((ofL c).toList) == ((ofL d).toList)))) = true ↔ ¬ ((a, c) = (b, d)) := by
  simp only [toList_ofL, Prod.mk.injEq]
  by_cases h1 : a = b <;> by_cases h2 : c = d <;> simp [h1, h2]
theorem spec_FieldsSame_ev (a b : List (Str × Str)) (hn : a.length ≤ 1000000000000) : Ev (fun k => spec_FieldsSame.f k (a.map e76) (b.map e76)) (decide (a = b)) := by
  unfold spec_FieldsSame.f
  simp only [List.length_map]
  by_cases hl : a.length = b.length
  · refine ev_pos (by omega) ?_
    refine ev_eq (run_start (xs := a) (F := fun k (_ : List (Str × Str)) i => spec_FieldsSame.l0 k (a.map e76) (b.map e76) i) (st := stp) (fin := fun _ => true) (s := b) (fun p r => ∃ q, b = q ++ r ∧ q.length = p.length) ⟨[], rfl, rfl⟩ ?_ ?_) (same_run a b hl)
    · rintro p c r s h ⟨q, hq, hql⟩
      have hz := len_mid h
      have e1 := rd76_mid h
      have w1 : wrap64 ((p.length : Int) + 1) = (p.length : Int) + 1 := wrap_id (by omega) (by omega)
      cases s with
      | nil => rw [hq] at hl; simp at hl; omega
      | cons d s =>
        have e2 := rd76_mid hq
        rw [hql] at e2
        have e3 := not_eq_pair c.1 d.1 c.2 d.2
        simp only [spec_FieldsSame.l0, e1, e2, w1, List.length_map, e76, e3, stp]
        clear w1 e1 e2 e3
        by_cases e : c = d
        · simp only [if_pos e]
          refine ⟨(fun v hv => by cases hv), fun s' hs => ⟨?_, fun v hv => ?_⟩⟩
          · cases hs; exact ⟨q ++ [d], by rw [hq]; simp, by simp [hql]⟩
          · exact ev_pos (by omega) (ev_pos (by omega) (ev_pos (by omega) (ev_neg (by simp [e]) hv)))
        · simp only [if_neg e]
          refine ⟨(fun v hv => ?_), fun s' hs => by cases hs⟩
          cases hv
          exact ev_pos (by omega) (ev_pos (by omega) (ev_pos (by omega) (ev_pos e (ev_some _))))
    · intro s _
      simp only [spec_FieldsSame.l0, List.length_map]
      exact ev_neg (by omega) (ev_some _)
  · refine ev_neg (by omega) (ev_eq (ev_some _) ?_)
    rw [eq_comm]; exact decide_eq_false (fun h => hl (by rw [h]))

theorem impl_FieldsSame_ev (a b : List (Str × Str)) (hn : a.length ≤ 1000000000000) : Ev (fun k => impl_Field.f k (a.map e76) (b.map e76)) (decide (a = b)) := by
  unfold impl_Field.f
  simp only [List.length_map]
  by_cases hl : a.length = b.length
  · refine ev_pos (by omega) ?_
    refine ev_eq (run_start (xs := a) (F := fun k (_ : List (Str × Str)) i => impl_Field.l0 k (a.map e76) (b.map e76) (a.length : Int) i) (st := stp) (fin := fun _ => true) (s := b) (fun p r => ∃ q, b = q ++ r ∧ q.length = p.length) ⟨[], rfl, rfl⟩ ?_ ?_) (same_run a b hl)
    · rintro p c r s h ⟨q, hq, hql⟩
      have hz := len_mid h
      have e1 := rd76_mid h
      have w1 : wrap64 ((p.length : Int) + 1) = (p.length : Int) + 1 := wrap_id (by omega) (by omega)
      cases s with
      | nil => rw [hq] at hl; simp at hl; omega
      | cons d s =>
        have e2 := rd76_mid hq
        rw [hql] at e2
        have e3 := not_eq_pair c.1 d.1 c.2 d.2
        simp only [impl_Field.l0, e1, e2, w1, List.length_map, e76, e3, stp]
        clear w1 e1 e2 e3
        by_cases e : c = d
        · simp only [if_pos e]
          refine ⟨(fun v hv => by cases hv), fun s' hs => ⟨?_, fun v hv => ?_⟩⟩
          · cases hs; exact ⟨q ++ [d], by rw [hq]; simp, by simp [hql]⟩
          · exact ev_pos (by omega) (ev_pos (by omega) (ev_pos (by omega) (ev_pos (by omega) (ev_neg (by simp [e]) hv))))
        · simp only [if_neg e]
          refine ⟨(fun v hv => ?_), fun s' hs => by cases hs⟩
          cases hv
          exact ev_pos (by omega) (ev_pos (by omega) (ev_pos (by omega) (ev_pos (by omega) (ev_pos e (ev_some _)))))
    · intro s _
      simp only [impl_Field.l0, List.length_map]
      exact ev_neg (by omega) (ev_some _)
  · refine ev_neg (by omega) (ev_eq (ev_some _) ?_)
    rw [eq_comm]; exact decide_eq_false (fun h => hl (by rw [h]))

theorem eqS_ev (a b : List Str) (hn : a.length ≤ 1000000000000) : Ev (fun k => slices_Equal_string_string.f k (a.map ofL) (b.map ofL)) (decide (a = b)) := by
  unfold slices_Equal_string_string.f
  simp only [List.length_map]
  by_cases hl : a.length = b.length
  · refine ev_pos (by omega) ?_
    refine ev_eq (run_start (xs := a) (F := fun k (_ : List Str) i => slices_Equal_string_string.l0 k (a.map ofL) (b.map ofL) (a.length : Int) i) (st := stp) (fin := fun _ => true) (s := b) (fun p r => ∃ q, b = q ++ r ∧ q.length = p.length) ⟨[], rfl, rfl⟩ ?_ ?_) (same_run a b hl)
    · rintro p c r s h ⟨q, hq, hql⟩
      have hz := len_mid h
      have e1 := rdOf_ofL h
      have w1 : wrap64 ((p.length : Int) + 1) = (p.length : Int) + 1 := wrap_id (by omega) (by omega)
      cases s with
      | nil => rw [hq] at hl; simp at hl; omega
      | cons d s =>
        have e2 := rdOf_ofL hq
        rw [hql] at e2
        simp only [slices_Equal_string_string.l0, e1, e2, w1, List.length_map, toList_ofL, stp]
        clear w1 e1 e2
        by_cases e : c = d
        · simp only [if_pos e]
          refine ⟨(fun v hv => by cases hv), fun s' hs => ⟨?_, fun v hv => ?_⟩⟩
          · cases hs; exact ⟨q ++ [d], by rw [hq]; simp, by simp [hql]⟩
          · exact ev_pos (by omega) (ev_pos (by omega) (ev_pos (by omega) (ev_pos (by omega) hv)))
        · simp only [if_neg e]
          refine ⟨(fun v hv => ?_), fun s' hs => by cases hs⟩
          cases hv
          exact ev_pos (by omega) (ev_pos (by omega) (ev_pos (by omega) (ev_pos (by omega) (ev_some _))))
    · intro s _
      simp only [slices_Equal_string_string.l0, List.length_map]
      exact ev_neg (by omega) (ev_some _)
  · refine ev_neg (by omega) (ev_eq (ev_some _) ?_)
    rw [eq_comm]; exact decide_eq_false (fun h => hl (by rw [h]))
theorem impl_kids (k l : List Pt) (hn : k.length ≤ 1000000000000) (ih : ∀ p ∈ k, ∀ q, Ev (fun n => impl_PartSame.f n (e32 p).f0 (e32 p).f1 (e32 p).f2 (e32 q).f0 (e32 q).f1 (e32 q).f2) (smt p q)) :
    ∀ (r s p q : List Pt), k = p ++ r → l = q ++ s → q.length = p.length → r.length = s.length → Ev (fun n => impl_Part_PartSame.l0 n (l.map e32) (k.map e32) (k.length : Int) (p.length : Int)) (smts r s) := by
  intro r
  induction r with
  | nil =>
    intro s p q h1 h2 h3 h4
    have hz : k.length = p.length := by rw [h1, List.append_nil]
    refine ev_succ ?_
    simp only [impl_Part_PartSame.l0, smts]
    exact ev_neg (by omega) (ev_some _)
  | cons c r ihr =>
    intro s p q h1 h2 h3 h4
    cases s with
    | nil => simp at h4
    | cons d s =>
      have hz := len_mid h1
      have hz2 := len_mid h2
      have e1 := rd32_mid h1
      have e2 := rd32_mid h2
      rw [h3] at e2
      have w1 : wrap64 ((p.length : Int) + 1) = (p.length : Int) + 1 := wrap_id (by omega) (by omega)
      have hk := ih c (by rw [h1]; simp) d
      have hr := ihr s (p ++ [c]) (q ++ [d]) (by rw [h1]; simp) (by rw [h2]; simp) (by simp [h3]) (by simpa using h4)
      rw [len_snoc] at hr
      refine ev_succ ?_
      simp only [impl_Part_PartSame.l0, e1, e2, w1, List.length_map, smts]
      clear w1 e1 e2
      refine ev_pos (by omega) (ev_pos (by omega) (ev_pos (by omega) (ev_pos (by omega) (ev_bind hk ?_))))
      cases smt c d with
      | true => exact ev_pos rfl hr
      | false => exact ev_neg (by simp) (ev_some _)
theorem impl_PartSame_ev (p : Pt) : ∀ q, szt p ≤ 1000000000000 → Ev (fun n => impl_PartSame.f n (e32 p).f0 (e32 p).f1 (e32 p).f2 (e32 q).f0 (e32 q).f1 (e32 q).f2) (smt p q) := by
  refine pt_ind (P := fun p => ∀ q, szt p ≤ 1000000000000 → Ev (fun n => impl_PartSame.f n (e32 p).f0 (e32 p).f1 (e32 p).f2 (e32 q).f0 (e32 q).f1 (e32 q).f2) (smt p q)) (fun f b k ih q hs => ?_) p
  cases q with
  | mk g c l =>
    rw [szt] at hs
    simp only [e32_mk]
    refine ev_succ ?_
    simp only [impl_PartSame.f, List.length_map]
    rw [smt]
    refine ev_bind (impl_FieldsSame_ev f g (by omega)) ?_
    by_cases h1 : f = g
    · refine ev_pos (by simp [h1]) (ev_bind (eqS_ev b c (by omega)) ?_)
      by_cases h2 : b = c
      · refine ev_pos (by simp [h2]) ?_
        by_cases h3 : k.length = l.length
        · refine ev_bind (ev_pos (by omega) (impl_kids k l (by omega) (fun p hp q => ih p hp q (by have := szts_mem hp; omega)) k l [] [] rfl rfl rfl h3)) (ev_eq (ev_some _) ?_)
          simp [h1, h2, h3]
        · refine ev_bind (ev_neg (by omega) (ev_some _)) (ev_eq (ev_some _) ?_)
          simp [h3]
      · exact ev_neg (by simp [h2]) (ev_eq (ev_some _) (by simp [h2]))
    · exact ev_neg (by simp [h1]) (ev_eq (ev_some _) (by simp [h1]))

theorem l8_kids (f g : List (Str × Str)) (b c : List Str) (k l : List Pt) (hn : k.length ≤ 1000000000000) (ih : ∀ p ∈ k, ∀ q, Ev (fun n => spec_l8Same.f n (e32 p).f0 (e32 p).f1 (e32 p).f2 (e32 q).f0 (e32 q).f1 (e32 q).f2) (smt p q)) :
    ∀ (r s p q : List Pt), k = p ++ r → l = q ++ s → q.length = p.length → r.length = s.length → Ev (fun n => spec_l8Same.l1 n (p.length : Int) (f.map e76) (b.map ofL) (k.map e32) (g.map e76) (c.map ofL) (l.map e32)) (smts r s) := by
  intro r
  induction r with
  | nil =>
    intro s p q h1 h2 h3 h4
    have hz : k.length = p.length := by rw [h1, List.append_nil]
    refine ev_succ ?_
    simp only [spec_l8Same.l1, smts, List.length_map]
    exact ev_neg (by omega) (ev_some _)
  | cons d r ihr =>
    intro s p q h1 h2 h3 h4
    cases s with
    | nil => simp at h4
    | cons t s =>
      have hz := len_mid h1
      have hz2 := len_mid h2
      have e1 := rd32_mid h1
      have e2 := rd32_mid h2
      rw [h3] at e2
      have w1 : wrap64 ((p.length : Int) + 1) = (p.length : Int) + 1 := wrap_id (by omega) (by omega)
      have hk := ih d (by rw [h1]; simp) t
      have hr := ihr s (p ++ [d]) (q ++ [t]) (by rw [h1]; simp) (by rw [h2]; simp) (by simp [h3]) (by simpa using h4)
      rw [len_snoc] at hr
      refine ev_succ ?_
      simp only [spec_l8Same.l1, e1, e2, w1, List.length_map, smts]
      clear w1 e1 e2
      refine ev_pos (by omega) (ev_pos (by omega) (ev_pos (by omega) (ev_bind hk ?_)))
      cases smt d t with
      | true => exact ev_pos rfl hr
      | false => exact ev_neg (by simp) (ev_some _)
theorem l8_body (f g : List (Str × Str)) (b c : List Str) (k l : List Pt) (hn : b.length ≤ 1000000000000) (hl : b.length = c.length) {v : Bool} (hk : Ev (fun n => spec_l8Same.l1 n 0 (f.map e76) (b.map ofL) (k.map e32) (g.map e76) (c.map ofL) (l.map e32)) v) :
    Ev (fun n => spec_l8Same.l0 n 0 (f.map e76) (b.map ofL) (k.map e32) (g.map e76) (c.map ofL) (l.map e32)) (decide (b = c) && v) := by
  have key : ∀ (r s p q : List Str), b = p ++ r → c = q ++ s → q.length = p.length → r.length = s.length → Ev (fun n => spec_l8Same.l0 n (p.length : Int) (f.map e76) (b.map ofL) (k.map e32) (g.map e76) (c.map ofL) (l.map e32)) (decide (r = s) && v) := by
    intro r
    induction r with
    | nil =>
      intro s p q h1 h2 h3 h4
      have hz : b.length = p.length := by rw [h1, List.append_nil]
      cases s with
      | cons d s => simp at h4
      | nil =>
        refine ev_succ ?_
        simp only [spec_l8Same.l0, List.length_map]
        exact ev_neg (by omega) (ev_eq hk (by simp))
    | cons d r ihr =>
      intro s p q h1 h2 h3 h4
      cases s with
      | nil => simp at h4
      | cons t s =>
        have hz := len_mid h1
        have hz2 := len_mid h2
        have e1 := rdOf_ofL h1
        have e2 := rdOf_ofL h2
        rw [h3] at e2
        have w1 : wrap64 ((p.length : Int) + 1) = (p.length : Int) + 1 := wrap_id (by omega) (by omega)
        have hr := ihr s (p ++ [d]) (q ++ [t]) (by rw [h1]; simp) (by rw [h2]; simp) (by simp [h3]) (by simpa using h4)
        rw [len_snoc] at hr
        refine ev_succ ?_
        simp only [spec_l8Same.l0, e1, e2, w1, List.length_map, toList_ofL]
        clear w1 e1 e2
        refine ev_pos (by omega) (ev_pos (by omega) (ev_pos (by omega) ?_))
        by_cases e : d = t
        · exact ev_pos e (ev_eq hr (by simp [e]))
        · exact ev_neg e (ev_eq (ev_some _) (by simp [e]))
  exact key b c [] [] rfl rfl rfl hl
theorem spec_l8Same_ev (p : Pt) : ∀ q, szt p ≤ 1000000000000 → Ev (fun n => spec_l8Same.f n (e32 p).f0 (e32 p).f1 (e32 p).f2 (e32 q).f0 (e32 q).f1 (e32 q).f2) (smt p q) := by
  refine pt_ind (P := fun p => ∀ q, szt p ≤ 1000000000000 → Ev (fun n => spec_l8Same.f n (e32 p).f0 (e32 p).f1 (e32 p).f2 (e32 q).f0 (e32 q).f1 (e32 q).f2) (smt p q)) (fun f b k ih q hs => ?_) p
  cases q with
  | mk g c l =>
    rw [szt] at hs
    simp only [e32_mk]
    have jt : Ev (fun n => spec_l8Same.j0 n true (f.map e76) (b.map ofL) (k.map e32) (g.map e76) (c.map ofL) (l.map e32)) false := by
      refine ev_succ ?_
      simp only [spec_l8Same.j0]
      exact ev_pos (by simp) (ev_some _)
    refine ev_succ ?_
    simp only [spec_l8Same.f, List.length_map]
    rw [smt]
    refine ev_bind (spec_FieldsSame_ev f g (by omega)) ?_
    by_cases h1 : f = g
    · refine ev_pos (by simp [h1]) ?_
      by_cases h2 : b.length = c.length
      · refine ev_pos (by omega) ?_
        by_cases h3 : k.length = l.length
        · have hk := l8_kids f g b c k l (by omega) (fun p hp q => ih p hp q (by have := szts_mem hp; omega)) k l [] [] rfl rfl rfl h3
          have hb := l8_body f g b c k l (by omega) h2 hk
          rw [show ((k.length : Int) != (l.length : Int)) = false by simp [h3]]
          refine ev_succ ?_
          simp only [spec_l8Same.j0]
          exact ev_neg (by simp) (ev_eq hb (by simp [h1, h3]))
        · rw [show ((k.length : Int) != (l.length : Int)) = true by simp; omega]
          exact ev_eq jt (by simp [h3])
      · exact ev_neg (by omega) (ev_eq jt (by
          have : b ≠ c := fun e => h2 (by rw [e])
          simp [this]))
    · exact ev_neg (by simp [h1]) (ev_eq jt (by simp [h1]))
theorem spec_PartSame_ev (p q : Pt) (hs : szt p ≤ 1000000000000) : Ev (fun n => spec_PartSame.f n (e32 p).f0 (e32 p).f1 (e32 p).f2 (e32 q).f0 (e32 q).f1 (e32 q).f2) (smt p q) := by
  unfold spec_PartSame.f
  exact ev_bind (spec_l8Same_ev p q hs) (ev_some _)

mutual
def e26 : Pt → S26
  | .mk f b k => ⟨f.map e91, b.map ofL, e26s k⟩
def e26s : List Pt → List S26
  | [] => []
  | p :: r => e26 p :: e26s r
end
theorem e26s_map (k : List Pt) : e26s k = k.map e26 := by
  induction k with
  | nil => rfl
  | cons p r ih => rw [e26s, ih]; rfl
theorem e26_mk (f : List (Str × Str)) (b : List Str) (k : List Pt) : e26 (.mk f b k) = ⟨f.map e91, b.map ofL, k.map e26⟩ := by rw [e26, e26s_map]
theorem rd26_mid {ls p r : List Pt} {c : Pt} (h : ls = p ++ c :: r) : rd_T26 (ls.map e26) (p.length : Int) = e26 c := by
  unfold rd_T26
  rw [List.getD_eq_getElem?_getD, h]
  simp
/-- Parts whose sizes memory can hold. -/
inductive SaneT : Pt → Prop
  | mk (f : List (Str × Str)) (b : List Str) (k : List Pt) (h0 : f.length ≤ 9223372036854775807) (g0 : sane f) (h1 : b.length ≤ 9223372036854775807) (g1 : ∀ x ∈ b, x.length ≤ 9223372036854775807) (h2 : k.length ≤ 9223372036854775807) (g2 : ∀ p ∈ k, SaneT p) : SaneT (.mk f b k)
theorem szPart_ev (p : Pt) (hp : SaneT p) : ∀ left : Nat, left ≤ 1048576 → ∃ v : Int, Ev (fun n => laws_szPart.f n (e26 p).f0 (e26 p).f1 (e26 p).f2 (left : Int)) v ∧ v ≤ left ∧ (0 ≤ v → v = (left : Int) - szt p) := by
  induction hp with
  | mk f b k h0 g0 h1 g1 h2 g2 ih =>
    intro left hle
    have key : ∀ (r p : List Pt) (left : Nat), k = p ++ r → left ≤ 1048576 → ∃ v : Int, Ev (fun n => laws_szPartS.l0 n (k.map e26) (left : Int) (p.length : Int)) v ∧ v ≤ left ∧ (0 ≤ v → v = (left : Int) - szts r) := by
      intro r
      induction r with
      | nil =>
        intro p left h hle
        have hz : k.length = p.length := by rw [h, List.append_nil]
        refine ⟨left, ev_succ ?_, Int.le_refl _, fun _ => by simp [szts]⟩
        simp only [laws_szPartS.l0, List.length_map]
        exact ev_neg (by omega) (ev_some _)
      | cons c r ihr =>
        intro p left h hle
        have hz := len_mid h
        have e1 := rd26_mid h
        have w1 : wrap64 ((p.length : Int) + 1) = (p.length : Int) + 1 := wrap_id (by omega) (by omega)
        obtain ⟨v, hv, hv1, hv2⟩ := ih c (by rw [h]; simp) left hle
        by_cases hlt : v < 0
        · refine ⟨-1, ev_succ ?_, by omega, fun h => by omega⟩
          simp only [laws_szPartS.l0, List.length_map, e1, w1]
          clear w1
          exact ev_pos (by omega) (ev_pos (by omega) (ev_bind hv (ev_pos hlt (ev_some _))))
        · have hvv := hv2 (by omega)
          obtain ⟨m, rfl⟩ := Int.eq_ofNat_of_zero_le (a := v) (by omega)
          obtain ⟨u, hu, hu1, hu2⟩ := ihr (p ++ [c]) m (by rw [h]; simp) (by omega)
          rw [len_snoc] at hu
          refine ⟨u, ev_succ ?_, by omega, fun h0 => by have := hu2 h0; simp only [szts]; omega⟩
          simp only [laws_szPartS.l0, List.length_map, e1, w1]
          clear w1
          exact ev_pos (by omega) (ev_pos (by omega) (ev_bind hv (ev_neg hlt hu)))
    simp only [e26_mk]
    obtain ⟨v, hv, hv1, hv2⟩ := szFieldS_ev f g0 (by omega) left hle
    by_cases c1 : v < 0
    · refine ⟨-1, ev_succ ?_, by omega, fun h => by omega⟩
      simp only [laws_szPart.f]
      exact ev_bind hv (ev_pos c1 (ev_some _))
    have hvv := hv2 (by omega)
    obtain ⟨m, rfl⟩ := Int.eq_ofNat_of_zero_le (a := v) (by omega)
    obtain ⟨u, hu, hu1, hu2⟩ := laws_szStringS_ev b g1 (by omega) m (by omega)
    by_cases c2 : u < 0
    · refine ⟨-1, ev_succ ?_, by omega, fun h => by omega⟩
      simp only [laws_szPart.f]
      exact ev_bind hv (ev_neg c1 (ev_bind hu (ev_pos c2 (ev_some _))))
    have huu := hu2 (by omega)
    obtain ⟨i, rfl⟩ := Int.eq_ofNat_of_zero_le (a := u) (by omega)
    have w1 : wrap64 ((i : Int) - (k.length : Int)) = (i : Int) - (k.length : Int) := wrap_id (by omega) (by omega)
    by_cases c3 : (i : Int) - (k.length : Int) < 0
    · refine ⟨-1, ev_succ ?_, by omega, fun h => by omega⟩
      simp only [laws_szPart.f, List.length_map]
      exact ev_bind hv (ev_neg c1 (ev_bind hu (ev_neg c2 (ev_bind (ev_pos (by rw [w1]; exact c3) (ev_some _)) (ev_pos (by omega) (ev_some _))))))
    obtain ⟨j, hj⟩ := Int.eq_ofNat_of_zero_le (a := (i : Int) - (k.length : Int)) (by omega)
    obtain ⟨t, ht, ht1, ht2⟩ := key k [] j rfl (by omega)
    rw [← hj, ← w1] at ht
    by_cases c4 : t < 0
    · refine ⟨-1, ev_succ ?_, by omega, fun h => by omega⟩
      simp only [laws_szPart.f, List.length_map]
      exact ev_bind hv (ev_neg c1 (ev_bind hu (ev_neg c2 (ev_bind (ev_neg (by rw [w1]; exact c3) ht) (ev_pos c4 (ev_some _))))))
    · refine ⟨t, ev_succ ?_, by omega, fun h => by have := ht2 h; rw [szt]; omega⟩
      simp only [laws_szPart.f, List.length_map]
      exact ev_bind hv (ev_neg c1 (ev_bind hu (ev_neg c2 (ev_bind (ev_neg (by rw [w1]; exact c3) ht) (ev_neg c4 (ev_some _))))))
theorem toPart_ev (p : Pt) : szt p ≤ 1048576 → Ev (fun n => laws_toPart.f n (e26 p).f0 (e26 p).f1 (e26 p).f2) ((e32 p).f0, (e32 p).f1, (e32 p).f2) := by
  refine pt_ind (P := fun p => szt p ≤ 1048576 → Ev (fun n => laws_toPart.f n (e26 p).f0 (e26 p).f1 (e26 p).f2) ((e32 p).f0, (e32 p).f1, (e32 p).f2)) (fun f b k ih hs => ?_) p
  rw [szt] at hs
  have key : ∀ (r p : List Pt), k = p ++ r → Ev (fun n => laws_toPartS.l0 n (k.map e26) (p.map e32 ++ List.replicate r.length z32) (p.length : Int)) (k.map e32) := by
    intro r
    induction r with
    | nil =>
      intro p h
      have hz : k.length = p.length := by rw [h, List.append_nil]
      refine ev_succ ?_
      simp only [laws_toPartS.l0, List.length_map]
      refine ev_neg (by omega) (ev_eq (ev_some _) ?_)
      rw [h]; simp
    | cons c r ihr =>
      intro p h
      have hz := len_mid h
      have e1 := rd26_mid h
      have w1 : wrap64 ((p.length : Int) + 1) = (p.length : Int) + 1 := wrap_id (by omega) (by omega)
      have hm : c ∈ k := by rw [h]; simp
      have hc := ih c hm (by have := szts_mem hm; omega)
      have := ihr (p ++ [c]) (by rw [h]; simp)
      rw [len_snoc] at this
      have e2 : (p.map e32 ++ List.replicate (r.length + 1) z32).set p.length (⟨(e32 c).f0, (e32 c).f1, (e32 c).f2⟩ : S32) = (p ++ [c]).map e32 ++ List.replicate r.length z32 := by
        rw [List.set_append_right _ _ (by simp), List.length_map, Nat.sub_self, List.replicate_succ, List.set_cons_zero, List.map_append, List.append_assoc]
        simp only [List.map_cons, List.map_nil, List.cons_append, List.nil_append]
        cases e32 c
        rfl
      rw [← e2] at this
      refine ev_succ ?_
      simp only [laws_toPartS.l0, List.length_map, e1, w1, Int.toNat_natCast, List.length_cons]
      clear w1
      exact ev_pos (by omega) (ev_pos (by omega) (ev_bind hc (ev_pos (by simp; omega) this)))
  have hk := key k [] rfl
  simp only [e26_mk, e32_mk]
  refine ev_succ ?_
  simp only [laws_toPart.f, List.length_map, Int.toNat_natCast]
  exact ev_bind (toFieldS_ev f (by omega)) (ev_bind (laws_toStringS_ev b (by omega)) (ev_bind (ev_pos (by omega) (ev_pos (by omega) hk)) (ev_some _)))
theorem eqPart_ev (p : Pt) : szt p ≤ 1048576 → Ev (fun n => laws_eqPart.f n (e32 p).f0 (e32 p).f1 (e32 p).f2 (e32 p).f0 (e32 p).f1 (e32 p).f2) true := by
  refine pt_ind (P := fun p => szt p ≤ 1048576 → Ev (fun n => laws_eqPart.f n (e32 p).f0 (e32 p).f1 (e32 p).f2 (e32 p).f0 (e32 p).f1 (e32 p).f2) true) (fun f b k ih hs => ?_) p
  rw [szt] at hs
  have key : ∀ (r p : List Pt), k = p ++ r → Ev (fun n => laws_eqPartS.l0 n (k.map e32) (k.map e32) (p.length : Int)) true := by
    intro r
    induction r with
    | nil =>
      intro p h
      have hz : k.length = p.length := by rw [h, List.append_nil]
      refine ev_succ ?_
      simp only [laws_eqPartS.l0, List.length_map]
      exact ev_neg (by omega) (ev_some _)
    | cons c r ihr =>
      intro p h
      have hz := len_mid h
      have e1 := rd32_mid h
      have w1 : wrap64 ((p.length : Int) + 1) = (p.length : Int) + 1 := wrap_id (by omega) (by omega)
      have hm : c ∈ k := by rw [h]; simp
      have hc := ih c hm (by have := szts_mem hm; omega)
      have := ihr (p ++ [c]) (by rw [h]; simp)
      rw [len_snoc] at this
      refine ev_succ ?_
      simp only [laws_eqPartS.l0, List.length_map, e1, w1]
      clear w1
      exact ev_pos (by omega) (ev_pos (by omega) (ev_pos (by omega) (ev_bind hc (ev_pos (by simp) this))))
  have hk := key k [] rfl
  simp only [e32_mk]
  refine ev_succ ?_
  simp only [laws_eqPart.f]
  have hb := laws_eqStringS_ev b b (by omega)
  rw [decide_eq_true rfl] at hb
  exact ev_bind (eqFieldS_ev f (by omega)) (ev_pos (by simp) (ev_bind hb (ev_pos (by simp) (ev_bind (ev_pos (by simp) hk) (ev_pos (by simp) (ev_some _))))))

theorem part_open {x : S26} (h : GoodP x) : ∃ p, x = e26 p ∧ SaneT p := by
  induction h with
  | mk x h0 g0 h1 g1 h2 g2 ih =>
    have hk : ∀ l : List S26, (∀ y ∈ l, ∃ p, y = e26 p ∧ SaneT p) → ∃ k : List Pt, l = k.map e26 ∧ ∀ p ∈ k, SaneT p := by
      intro l
      induction l with
      | nil => exact fun _ => ⟨[], rfl, by simp⟩
      | cons y l ih =>
        intro h
        obtain ⟨p, hp, hs⟩ := h y (by simp)
        obtain ⟨k, hk, hks⟩ := ih (fun z hz => h z (by simp [hz]))
        exact ⟨p :: k, by rw [List.map_cons, ← hp, ← hk], fun q hq => by
          rcases List.mem_cons.mp hq with rfl | hq
          · exact hs
          · exact hks q hq⟩
    obtain ⟨k, hk, hks⟩ := hk x.f2 ih
    obtain ⟨f0, f1, f2⟩ := x
    simp only at h0 g0 h1 g1 h2 hk
    unfold maxLen at h0 h1 h2
    refine ⟨.mk (f0.map p91) (f1.map L) k, by rw [e26_mk, map_e91, map_ofL_L, ← hk], SaneT.mk _ _ _ (by rw [List.length_map]; exact h0) (fun y hy => ?_) (by rw [List.length_map]; exact h1) (fun y hy => ?_) (by rw [hk, List.length_map] at h2; exact h2) hks⟩
    · obtain ⟨z, hz, rfl⟩ := List.mem_map.mp hy
      have := g0 z hz
      rw [size_L, size_L] at this
      unfold maxLen at this
      exact ⟨by show (L z.f0).length ≤ _; omega, by show (L z.f1).length ≤ _; omega⟩
    · obtain ⟨z, hz, rfl⟩ := List.mem_map.mp hy
      have := g1 z hz
      rw [size_L] at this
      unfold maxLen at this
      omega

/-! Several answers from one number of rounds on. -/
def Evp (p : Nat → Prop) : Prop := ∃ K, ∀ k, K ≤ k → p k
theorem evp_of {α : Type} {g : Nat → Option α} {r : α} (h : Ev g r) : Evp (fun k => g k = some r) := h
theorem evp_and {p q : Nat → Prop} (h : Evp p) (h2 : Evp q) : Evp (fun k => p k ∧ q k) := by
  obtain ⟨K, h⟩ := h
  obtain ⟨M, h2⟩ := h2
  exact ⟨K + M, fun k hk => ⟨h k (by omega), h2 k (by omega)⟩⟩
theorem evp_some {p : Nat → Prop} (h : Evp p) : ∃ k, p k := by
  obtain ⟨K, h⟩ := h
  exact ⟨K, h K (Nat.le_refl _)⟩

theorem FnExactPartSame (x y : S26) (gx : GoodP x) (gy : GoodP y) : ∃ k, laws_FnExactPartSame.Ok k x y := by
  obtain ⟨p, rfl, hp⟩ := part_open gx
  obtain ⟨q, rfl, hq⟩ := part_open gy
  obtain ⟨v, hv, hv1, hv2⟩ := szPart_ev p hp 1048576 (by omega)
  by_cases h0 : v < 0
  · obtain ⟨k, h⟩ := evp_some (evp_of hv)
    exact ⟨k, v, h, Or.inl h0⟩
  have hvv := hv2 (by omega)
  obtain ⟨m, rfl⟩ := Int.eq_ofNat_of_zero_le (a := v) (by omega)
  obtain ⟨u, hu, hu1, hu2⟩ := szPart_ev q hq m (by omega)
  by_cases h1 : u < 0
  · obtain ⟨k, h, h2⟩ := evp_some (evp_and (evp_of hv) (evp_of hu))
    exact ⟨k, _, h, Or.inr ⟨h0, _, h2, Or.inl h1⟩⟩
  have huu := hu2 (by omega)
  have sp : szt p ≤ 1048576 := by omega
  have sq : szt q ≤ 1048576 := by omega
  obtain ⟨k, a1, a2, a3, a4, a5, a6, a7, a8⟩ := evp_some (evp_and (evp_of hv) (evp_and (evp_of hu) (evp_and (evp_of (toPart_ev p (by omega))) (evp_and (evp_of (toPart_ev q (by omega))) (evp_and (evp_of (spec_PartSame_ev p q (by omega))) (evp_and (evp_of (impl_PartSame_ev p q (by omega))) (evp_and (evp_of (eqPart_ev p (by omega))) (evp_of (eqPart_ev q (by omega))))))))))
  exact ⟨k, _, a1, Or.inr ⟨h0, _, a2, Or.inr ⟨h1, e32 p, e32 q, _, a3, a4, a5, a6, a7, a8⟩⟩⟩

end Go.Proofs.Ytncdadcmghglkaa.Pure
