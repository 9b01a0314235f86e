/- Proved here: the pure form of the law FnExactCountParts (the program's CountParts is the reference's) returns true for all arguments; conditions: none beyond those that the printed statement bears. -/
import Derived.Test.YtncdadcmghglkaaGreatDoorPFnExactCountPartsx25
import Derived.Test.YtncdadcmghglkaaGreatDoorVFnExactCountPartsOpsPartt
import Derived.Test.YtncdadcmghglkaaGreatDoorVFnExactCountPartsZbt
-- dense
namespace Go.Proofs.YtncdadcmghglkaaGreatDoor.Pure
open Go.Proofs.YtncdadcmghglkaaGreatDoorOP Go.RowKit Go.Proofs.YtncdadcmghglkaaGreatDoor.X Go.Proofs.YtncdadcmghglkaaGreatDoor.PFnExactCountParts Go.Proofs.YtncdadcmghglkaaGreatDoorW.PrintWords Go.Proofs.YtncdadcmghglkaaGreatDoorW.PrintLast Go.Proofs.YtncdadcmghglkaaGreatDoor.Z
set_option linter.unusedVariables false
set_option linter.unusedSimpArgs false

theorem run_unit {α R : Type} (fin : Unit → R) (r : List α) : run (fun (_ : Unit) (_ : α) => (.inr () : R ⊕ Unit)) fin r () = fin () := by
 induction r with
 | nil => rfl
 | cons c r ih => unfold run; exact ih

/-! Texts that came in: their size, a copy, and the same again. -/
def szs : List Str → Nat
 | [] => 0
 | c :: r => c.length + szs r
theorem szs_mem {a : List Str} {c : Str} (h : c ∈ a) : c.length ≤ szs a := by
 induction a with
 | nil => cases h
 | cons d a ih =>
  simp only [szs]
  rcases List.mem_cons.mp h with rfl | h
  ·
   omega
  ·
   have := ih h; omega
theorem map_ofL_L (l : List ByteArray) : (l.map L).map ofL = l := by
 rw [List.map_map]
 exact (List.map_congr_left (fun x _ => ofL_L x)).trans (List.map_id l)
theorem szString_loop (ls : List Str) (hl : ∀ x ∈ ls, x.length ≤ 9223372036854775807) (hn : ls.length ≤ 9223372036854775807) (r : List Str) : ∀ (p : List Str) (left : Nat), ls = p ++ r → left ≤ 1048576 → ∃ v : Int, Ev (fun k => laws_szStringS.l0 k (ls.map ofL) (left : Int) (p.length : Int)) v ∧ v ≤ left ∧ (0 ≤ v → v = (left : Int) - szs r) := by
 induction r with
 | nil =>
  intro p left h hle
  have hz : ls.length = p.length := by rw [h, List.append_nil]
  refine ⟨left, vc ?_, Int.le_refl _, fun _ => by simp [szs]⟩
  simp only [laws_szStringS.l0, List.length_map]
  exact vn (by omega) (vs _)
 | cons c r ih =>
  intro p left h hle
  have hz := len_mid h
  have e1 := rdOf_ofL h
  have hc := hl c (by rw [h]; simp)
  have w1 : wrap64 ((p.length : Int) + 1) = (p.length : Int) + 1 ∧ wrap64 ((left : Int) - (c.length : Int)) = (left : Int) - (c.length : Int) := ⟨wrap_id (by omega) (by omega), wrap_id (by omega) (by omega)⟩
  by_cases hlt : (left : Int) - (c.length : Int) < 0
  ·
   refine ⟨-1, vc ?_, by omega, fun h => by omega⟩
   simp only [laws_szStringS.l0, List.length_map, e1, size_ofL, w1.1, w1.2]
   clear w1
   exact vp (by omega) (vp (by omega) (vp hlt (vs _)))
  ·
   obtain ⟨v, hv, hv1, hv2⟩ := ih (p ++ [c]) (left - c.length) (by rw [h]; simp) (by omega)
   rw [len_snoc] at hv
   refine ⟨v, vc ?_, by omega, fun h0 => by have := hv2 h0; simp only [szs]; omega⟩
   have e2 : (left : Int) - (c.length : Int) = ((left - c.length : Nat) : Int) := by omega
   simp only [laws_szStringS.l0, List.length_map, e1, size_ofL, w1.1, w1.2]
   clear w1
   rw [e2]
   exact vp (by omega) (vp (by omega) (vn (by omega) hv))
theorem laws_szStringS_ev (ls : List Str) (hl : ∀ x ∈ ls, x.length ≤ 9223372036854775807) (hn : ls.length ≤ 9223372036854775807) (left : Nat) (hle : left ≤ 1048576) : ∃ v : Int, Ev (fun k => laws_szStringS.f k (ls.map ofL) (left : Int)) v ∧ v ≤ left ∧ (0 ≤ v → v = (left : Int) - ls.length - szs ls) := by
 unfold laws_szStringS.f
 have w1 : wrap64 ((left : Int) - (ls.length : Int)) = (left : Int) - (ls.length : Int) := wrap_id (by omega) (by omega)
 rw [List.length_map, w1]
 clear w1
 by_cases h : (left : Int) - (ls.length : Int) < 0
 ·
  exact ⟨-1, vp h (vs _), by omega, fun h => by omega⟩
 ·
  have e2 : (left : Int) - (ls.length : Int) = ((left - ls.length : Nat) : Int) := by omega
  obtain ⟨v, hv, hv1, hv2⟩ := szString_loop ls hl hn ls [] (left - ls.length) rfl (by omega)
  rw [e2]
  exact ⟨v, vn (by omega) hv, by omega, fun h0 => by have := hv2 h0; omega⟩
theorem laws_toStringS_ev (ls : List Str) (hn : ls.length ≤ 1000000000000) : Ev (fun k => laws_toStringS.f k (ls.map ofL)) (ls.map ofL) := by
 have key : ∀ (r p : List Str), ls = p ++ r → Ev (fun k => laws_toStringS.l0 k (ls.map ofL) (p.map ofL ++ List.replicate r.length (⟨#[]⟩ : ByteArray)) (p.length : Int)) (ls.map ofL) := by
  intro r
  induction r with
  | nil =>
   intro p h
   have hz : ls.length = p.length := by rw [h, List.append_nil]
   refine vc ?_
   simp only [laws_toStringS.l0, List.length_map]
   refine vn (by omega) (vq (vs _) ?_)
   rw [h]; simp
  | cons c r ih =>
   intro p h
   have hz := len_mid h
   have e1 := rdOf_ofL h
   have w1 : wrap64 ((p.length : Int) + 1) = (p.length : Int) + 1 := wrap_id (by omega) (by omega)
   have := ih (p ++ [c]) (by rw [h]; simp)
   rw [len_snoc] at this
   have e2 : (p.map ofL ++ List.replicate (r.length + 1) (⟨#[]⟩ : ByteArray)).set p.length (ofL c) = (p ++ [c]).map ofL ++ List.replicate r.length (⟨#[]⟩ : ByteArray) := by
    rw [List.set_append_right _ _ (by simp), List.length_map, Nat.sub_self, List.replicate_succ, List.set_cons_zero, List.map_append, List.append_assoc]
    rfl
   rw [← e2] at this
   refine vc ?_
   simp only [laws_toStringS.l0, List.length_map, e1, w1, Int.toNat_natCast, List.length_cons]
   clear w1
   exact vp (by omega) (vp (by omega) (vp (by simp; omega) this))
 unfold laws_toStringS.f
 simp only [List.length_map, Int.toNat_natCast]
 exact vp (by omega) (vp (by omega) (key ls [] rfl))
theorem laws_eqStringS_ev (a b : List Str) (hn : a.length ≤ 1000000000000000) : Ev (fun k => laws_eqStringS.f k (a.map ofL) (b.map ofL)) (decide (a = b)) := by
 unfold laws_eqStringS.f
 simp only [List.length_map]
 by_cases hl : a.length = b.length
 ·
  refine vp (by omega) ?_
  refine vq (run_start (xs := a) (F := fun k (_ : List Str) i => laws_eqStringS.l0 k (a.map ofL) (b.map ofL) i) (st := fun r c => match r with
   | [] => .inl false
   | d :: r => if c = d then .inr r else .inl false) (fin := fun _ => true) (s := b) (fun p r => ∃ q, b = q ++ r ∧ q.length = p.length) ⟨[], rfl, rfl⟩ ?_ ?_) ?_
  ·
   rintro p c r s h ⟨q, hq, hql⟩
   have hz := len_mid h
   have e1 := rdOf_ofL h
   have w1 : wrap64 ((p.length : Int) + 1) = (p.length : Int) + 1 := wrap_id (by omega) (by omega)
   cases s with
   | nil => rw [hq] at hl; simp at hl; omega
   | cons d s =>
    have e2 := rdOf_ofL hq
    rw [hql] at e2
    simp only [laws_eqStringS.l0, e1, e2, w1, List.length_map, toList_ofL]
    clear w1 e1 e2
    by_cases e : c = d
    ·
     simp only [if_pos e]
     refine ⟨(fun v hv => by cases hv), fun s' hs => ⟨?_, fun v hv => ?_⟩⟩
     ·
      cases hs; exact ⟨q ++ [d], by rw [hq]; simp, by simp [hql]⟩
     ·
      exact vp (by omega) (vp (by omega) (vp (by omega) hv))
    ·
     simp only [if_neg e]
     refine ⟨(fun v hv => ?_), fun s' hs => by cases hs⟩
     cases hv
     exact vp (by omega) (vp (by omega) (vp (by omega) (vs _)))
  ·
   intro s _
   simp only [laws_eqStringS.l0, List.length_map]
   exact vn (by omega) (vs _)
  ·
   clear hn
   induction a generalizing b with
   | nil => cases b with
    | nil => rfl
    | cons d b => simp at hl
   | cons c a ih => cases b with
    | nil => simp at hl
    | cons d b =>
     unfold run
     by_cases e : c = d
     ·
      simp only [if_pos e]; rw [ih b (by simpa using hl)]; simp [e]
     ·
      simp only [if_neg e]; simp [e]
 ·
  refine vn (by omega) (vq (vs _) ?_)
  rw [eq_comm]; exact decide_eq_false (fun h => hl (by rw [h]))

/-! Fields that came in: pairs of texts. -/
def e91 (p : Str × Str) : S120 := ⟨ofL p.1, ofL p.2⟩
def e76 (p : Str × Str) : S69 := ⟨ofL p.1, ofL p.2⟩
def szp : List (Str × Str) → Nat
 | [] => 0
 | c :: r => c.1.length + c.2.length + szp r
theorem szp_mem {a : List (Str × Str)} {c : Str × Str} (h : c ∈ a) : c.1.length + c.2.length ≤ szp a := by
 induction a with
 | nil => cases h
 | cons d a ih =>
  simp only [szp]
  rcases List.mem_cons.mp h with rfl | h
  ·
   omega
  ·
   have := ih h; omega
theorem rd91_mid {ls p r : List (Str × Str)} {c : Str × Str} (h : ls = p ++ c :: r) : rd_T120 (ls.map e91) (p.length : Int) = e91 c := by
 unfold rd_T120
 rw [List.getD_eq_getElem?_getD, h]
 simp
theorem rd76_mid {ls p r : List (Str × Str)} {c : Str × Str} (h : ls = p ++ c :: r) : rd_T69 (ls.map e76) (p.length : Int) = e76 c := by
 unfold rd_T69
 rw [List.getD_eq_getElem?_getD, h]
 simp
def p91 (x : S120) : Str × Str := (L x.f0, L x.f1)
theorem map_e91 (l : List S120) : (l.map p91).map e91 = l := by
 rw [List.map_map]
 exact (List.map_congr_left (fun x _ => rfl)).trans (List.map_id l)
theorem szField_ev (a b : Str) (ha : a.length ≤ 9223372036854775807) (hb : b.length ≤ 9223372036854775807) (left : Nat) (hle : left ≤ 1048576) : ∃ v : Int, laws_szField.f (ofL a) (ofL b) (left : Int) = some v ∧ v ≤ left ∧ (0 ≤ v → v = (left : Int) - a.length - b.length) := by
 unfold laws_szField.f
 have w1 : wrap64 ((left : Int) - (a.length : Int)) = (left : Int) - (a.length : Int) := wrap_id (by omega) (by omega)
 rw [size_ofL, size_ofL, w1]
 by_cases h : (left : Int) - (a.length : Int) < 0
 ·
  exact ⟨-1, by rw [if_pos h], by omega, fun h => by omega⟩
 ·
  have w2 : wrap64 ((left : Int) - (a.length : Int) - (b.length : Int)) = (left : Int) - (a.length : Int) - (b.length : Int) := wrap_id (by omega) (by omega)
  rw [if_neg h, w2]
  by_cases h2 : (left : Int) - (a.length : Int) - (b.length : Int) < 0
  ·
   exact ⟨-1, by rw [if_pos h2], by omega, fun h => by omega⟩
  ·
   exact ⟨_, by rw [if_neg h2], by omega, fun _ => rfl⟩
def sane (ls : List (Str × Str)) : Prop := ∀ x ∈ ls, x.1.length ≤ 9223372036854775807 ∧ x.2.length ≤ 9223372036854775807
theorem szFieldS_loop (ls : List (Str × Str)) (hl : sane ls) (hn : ls.length ≤ 9223372036854775807) (r : List (Str × Str)) : ∀ (p : List (Str × Str)) (left : Nat), ls = p ++ r → left ≤ 1048576 → ∃ v : Int, Ev (fun k => laws_szFieldS.l0 k (ls.map e91) (left : Int) (p.length : Int)) v ∧ v ≤ left ∧ (0 ≤ v → v = (left : Int) - szp r) := by
 induction r with
 | nil =>
  intro p left h hle
  have hz : ls.length = p.length := by rw [h, List.append_nil]
  refine ⟨left, vc ?_, Int.le_refl _, fun _ => by simp [szp]⟩
  simp only [laws_szFieldS.l0, List.length_map]
  exact vn (by omega) (vs _)
 | cons c r ih =>
  intro p left h hle
  have hz := len_mid h
  have e1 := rd91_mid h
  have hc := hl c (by rw [h]; simp)
  have w1 : wrap64 ((p.length : Int) + 1) = (p.length : Int) + 1 := wrap_id (by omega) (by omega)
  obtain ⟨v, hv, hv1, hv2⟩ := szField_ev c.1 c.2 hc.1 hc.2 left hle
  by_cases hlt : v < 0
  ·
   refine ⟨-1, vc ?_, by omega, fun h => by omega⟩
   simp only [laws_szFieldS.l0, List.length_map, e1, w1]
   clear w1
   exact vp (by omega) (vp (by omega) (ev_bind0 hv (vp hlt (vs _))))
  ·
   have hvv := hv2 (by omega)
   obtain ⟨u, hu, hu1, hu2⟩ := ih (p ++ [c]) (left - c.1.length - c.2.length) (by rw [h]; simp) (by omega)
   rw [len_snoc] at hu
   refine ⟨u, vc ?_, by omega, fun h0 => by have := hu2 h0; simp only [szp]; omega⟩
   have e2 : v = ((left - c.1.length - c.2.length : Nat) : Int) := by omega
   simp only [laws_szFieldS.l0, List.length_map, e1, w1]
   clear w1
   rw [← e2] at hu
   exact vp (by omega) (vp (by omega) (ev_bind0 hv (vn hlt hu)))
theorem szFieldS_ev (ls : List (Str × Str)) (hl : sane ls) (hn : ls.length ≤ 9223372036854775807) (left : Nat) (hle : left ≤ 1048576) : ∃ v : Int, Ev (fun k => laws_szFieldS.f k (ls.map e91) (left : Int)) v ∧ v ≤ left ∧ (0 ≤ v → v = (left : Int) - ls.length - szp ls) := by
 unfold laws_szFieldS.f
 have w1 : wrap64 ((left : Int) - (ls.length : Int)) = (left : Int) - (ls.length : Int) := wrap_id (by omega) (by omega)
 rw [List.length_map, w1]
 clear w1
 by_cases h : (left : Int) - (ls.length : Int) < 0
 ·
  exact ⟨-1, vp h (vs _), by omega, fun h => by omega⟩
 ·
  have e2 : (left : Int) - (ls.length : Int) = ((left - ls.length : Nat) : Int) := by omega
  obtain ⟨v, hv, hv1, hv2⟩ := szFieldS_loop ls hl hn ls [] (left - ls.length) rfl (by omega)
  rw [e2]
  exact ⟨v, vn (by omega) hv, by omega, fun h0 => by have := hv2 h0; omega⟩
theorem toFieldS_ev (ls : List (Str × Str)) (hn : ls.length ≤ 1000000000000) : Ev (fun k => laws_toFieldS.f k (ls.map e91)) (ls.map e76) := by
 have key : ∀ (r p : List (Str × Str)), ls = p ++ r → Ev (fun k => laws_toFieldS.l0 k (ls.map e91) (p.map e76 ++ List.replicate r.length z69) (p.length : Int)) (ls.map e76) := by
  intro r
  induction r with
  | nil =>
   intro p h
   have hz : ls.length = p.length := by rw [h, List.append_nil]
   refine vc ?_
   simp only [laws_toFieldS.l0, List.length_map]
   refine vn (by omega) (vq (vs _) ?_)
   rw [h]; simp
  | cons c r ih =>
   intro p h
   have hz := len_mid h
   have e1 := rd91_mid h
   have w1 : wrap64 ((p.length : Int) + 1) = (p.length : Int) + 1 := wrap_id (by omega) (by omega)
   have := ih (p ++ [c]) (by rw [h]; simp)
   rw [len_snoc] at this
   have e2 : (p.map e76 ++ List.replicate (r.length + 1) z69).set p.length (⟨ofL c.1, ofL c.2⟩ : S69) = (p ++ [c]).map e76 ++ List.replicate r.length z69 := by
    rw [List.set_append_right _ _ (by simp), List.length_map, Nat.sub_self, List.replicate_succ, List.set_cons_zero, List.map_append, List.append_assoc]
    rfl
   rw [← e2] at this
   refine vc ?_
   simp only [laws_toFieldS.l0, laws_toField.f, List.length_map, e1, w1, Int.toNat_natCast, List.length_cons, Option.bind_some]
   clear w1
   exact vp (by omega) (vp (by omega) (vp (by simp; omega) this))
 unfold laws_toFieldS.f
 simp only [List.length_map, Int.toNat_natCast]
 exact vp (by omega) (vp (by omega) (key ls [] rfl))
theorem eqFieldS_ev (ls : List (Str × Str)) (hn : ls.length ≤ 1000000000000) : Ev (fun k => laws_eqFieldS.f k (ls.map e76) (ls.map e76)) true := by
 unfold laws_eqFieldS.f
 refine vp rfl (vq (run_start (xs := ls) (F := fun k (_ : Unit) i => laws_eqFieldS.l0 k (ls.map e76) (ls.map e76) i) (st := fun _ _ => .inr ()) (fin := fun _ => true) (s := ()) (fun _ _ => True) trivial ?_ ?_) (run_unit _ _))
 ·
  intro p c r s h _
  have hz := len_mid h
  have e1 := rd76_mid h
  have w1 : wrap64 ((p.length : Int) + 1) = (p.length : Int) + 1 := wrap_id (by omega) (by omega)
  simp only [laws_eqFieldS.l0, laws_eqField.f, e1, w1, List.length_map]
  clear w1 e1
  refine ⟨(fun v hv => by cases hv), fun s' hs => ⟨trivial, fun v hv => ?_⟩⟩
  exact vp (by omega) (vp (by omega) (vp (by omega) (ev_bind0 (by simp) (vp rfl hv))))
 ·
  intro s _
  simp only [laws_eqFieldS.l0, List.length_map]
  exact vn (by omega) (vs _)

theorem rdLL_mid {ps p r : List (List Str)} {c : List Str} (h : ps = p ++ c :: r) : rd_L3 (ps.map (List.map ofL)) (p.length : Int) = c.map ofL := by
 unfold rd_L3
 rw [List.getD_eq_getElem?_getD, h]
 simp
/-- How many lines there are, one more counted for each part. -/
def tl : List (List Str) → Nat
 | [] => 0
 | c :: r => c.length + 1 + tl r
theorem tl_append (a b : List (List Str)) : tl (a ++ b) = tl a + tl b := by
 induction a with
 | nil => simp [tl]
 | cons c a ih => simp only [List.cons_append, tl, ih]; omega
theorem tl_len (a : List (List Str)) : a.length ≤ tl a := by
 induction a with
 | nil => simp [tl]
 | cons c a ih => simp only [List.length_cons, tl]; omega
theorem tl_mem {a : List (List Str)} {c : List Str} (h : c ∈ a) : c.length ≤ tl a := by
 induction a with
 | nil => cases h
 | cons d a ih =>
  simp only [tl]
  rcases List.mem_cons.mp h with rfl | h
  ·
   omega
  ·
   have := ih h; omega

/-! Letters and digits, boundaries: the model. -/
def letB (c : UInt8) : Bool := decide (97 ≤ (c.toNat : Int) ∧ (c.toNat : Int) ≤ 122) || decide (65 ≤ (c.toNat : Int) ∧ (c.toNat : Int) ≤ 90)
def digB (c : UInt8) : Bool := decide (48 ≤ (c.toNat : Int) ∧ (c.toNat : Int) ≤ 57)
def alnB (c : UInt8) : Bool := letB c || digB c
def isBd (l : Str) : Bool := decide (1 ≤ l.length) && decide (l.length ≤ 20) && l.all alnB
theorem isBd_len {l : Str} (h : isBd l = true) : l.length ≤ 20 := by
 unfold isBd at h; simp at h; exact h.1.2

theorem impl_isLetter_eq (c : UInt8) : impl_isLetter.f (c.toNat : Int) = some (letB c) := by
 unfold impl_isLetter.f letB
 by_cases h1 : 97 ≤ (c.toNat : Int) <;> by_cases h2 : (c.toNat : Int) ≤ 122 <;> by_cases h3 : 65 ≤ (c.toNat : Int) <;> by_cases h4 : (c.toNat : Int) ≤ 90 <;> simp [h1, h2, h3, h4]

theorem impl_isDigit_eq (c : UInt8) : impl_isDigit.f (c.toNat : Int) = some (digB c) := by
 unfold impl_isDigit.f digB
 by_cases h1 : 48 ≤ (c.toNat : Int) <;> by_cases h2 : (c.toNat : Int) ≤ 57 <;> simp [h1, h2]

theorem spec_l1Letter_eq (c : UInt8) : spec_l1Letter.f (c.toNat : Int) = some (alnB c) := by
 unfold spec_l1Letter.f alnB letB digB
 by_cases h1 : 97 ≤ (c.toNat : Int) <;> by_cases h2 : (c.toNat : Int) ≤ 122 <;> by_cases h3 : 65 ≤ (c.toNat : Int) <;> by_cases h4 : (c.toNat : Int) ≤ 90 <;> by_cases h5 : 48 ≤ (c.toNat : Int) <;> by_cases h6 : (c.toNat : Int) ≤ 57 <;> simp [h1, h2, h3, h4, h5, h6]

/-! Atoms: the model. -/
def atList : Str := [33, 35, 36, 37, 38, 39, 42, 43, 45, 47, 61, 63, 94, 95, 96, 123, 124, 125, 126]
def atB (c : UInt8) : Bool := alnB c || decide (c ∈ atList)
def atomV (l : Str) : Bool := decide (1 ≤ l.length) && decide (l.length ≤ 40) && l.all atB
theorem u8_all {p : UInt8 → Prop} (h : ∀ n : Nat, n < 256 → p (UInt8.ofNat n)) (c : UInt8) : p c := by
 have := h c.toNat c.toNat_lt
 rwa [UInt8.ofNat_toNat] at this
theorem impl_isAtomByte_eq (c : UInt8) : impl_isAtomByte.f (c.toNat : Int) = some (atB c) := by
 revert c
 exact u8_all (by decide +kernel)

theorem impl_allBytes_isAtomByte_ev (l : Str) (hl : l.length ≤ 1000000000000000) : Ev (fun k => impl_allBytes_isAtomByte.f k (ofL l)) (l.all atB) := by
 unfold impl_allBytes_isAtomByte.f
 rw [size_ofL]
 refine vq (run_start (xs := l) (F := fun k (_ : Unit) i => impl_allBytes_isAtomByte.l0 k (ofL l) (l.length : Int) i) (st := fun _ c => if atB c = true then .inr () else .inl false) (fin := fun _ => true) (s := ()) (fun _ _ => True) trivial ?_ ?_) ?_
 ·
  intro p c r s h _
  have hz := len_mid h
  have e1 := bt_ofL_mid h
  have w1 : wrap64 ((p.length : Int) + 1) = (p.length : Int) + 1 := wrap_id (by omega) (by omega)
  simp only [impl_allBytes_isAtomByte.l0, e1, w1, size_ofL]
  clear w1 e1
  cases e : atB c with
  | true =>
   simp only [if_true]
   refine ⟨(fun v hv => by cases hv), fun s' hs => ⟨trivial, fun v hv => ?_⟩⟩
   refine vp (by omega) (vp (by omega) (vp (by omega) (ev_bind0 (impl_isAtomByte_eq c) (vp e hv))))
  | false =>
   refine ⟨(fun v hv => ?_), fun s' hs => by simp at hs⟩
   simp only [Bool.false_eq_true, if_false, Sum.inl.injEq] at hv
   subst hv
   refine vp (by omega) (vp (by omega) (vp (by omega) (ev_bind0 (impl_isAtomByte_eq c) (vn (by rw [e]; simp) (vs _)))))
 ·
  intro s _
  simp only [impl_allBytes_isAtomByte.l0]
  exact vn (by omega) (vs _)
 ·
  clear hl
  induction l with
  | nil => rfl
  | cons c r ih =>
   unfold run
   cases e : atB c with
   | true => simp [e, ih]
   | false => simp [e]

theorem impl_AtomValid_ev (l : Str) (hl : l.length ≤ 1000000000000000) : Ev (fun k => impl_AtomValid.f k (ofL l)) (atomV l) := by
 unfold impl_AtomValid.f atomV
 rw [size_ofL]
 by_cases h1 : 1 ≤ l.length
 ·
  rw [decide_eq_true h1]
  refine vp (by omega) ?_
  by_cases h2 : l.length ≤ 40
  ·
   rw [decide_eq_true h2]
   exact vp (by omega) (vb (impl_allBytes_isAtomByte_ev l hl) (vs _))
  ·
   rw [decide_eq_false h2]
   exact vn (by omega) (vs _)
 ·
  rw [decide_eq_false h1]
  exact vn (by omega) (vs _)

theorem spec_l1Atom_ev (c : UInt8) : Ev (fun k => spec_l1Atom.f k (c.toNat : Int)) (atB c) := by
 unfold spec_l1Atom.f
 have lit : (⟨#[33, 35, 36, 37, 38, 39, 42, 43, 45, 47, 61, 63, 94, 95, 96, 123, 124, 125, 126]⟩ : ByteArray) = ofL atList := rfl
 have hlen : atList.length = 19 := rfl
 refine vq (run_start (xs := atList) (F := fun k (_ : Unit) i => spec_l1Atom.l0 k (c.toNat : Int) i) (st := fun _ d => if c = d then .inl true else .inr ()) (fin := fun _ => alnB c) (s := ()) (fun _ _ => True) trivial ?_ ?_) ?_
 ·
  intro p d r s h _
  have hz := len_mid h
  have e1 := bt_ofL_mid h
  have w1 : wrap64 ((p.length : Int) + 1) = (p.length : Int) + 1 := wrap_id (by omega) (by omega)
  simp only [spec_l1Atom.l0, lit, e1, w1]
  clear w1 e1
  by_cases e : c = d
  ·
   simp only [if_pos e]
   refine ⟨(fun v hv => ?_), fun s' hs => by cases hs⟩
   cases hv
   exact vp (by omega) (vp (by omega) (vp (by rw [e]) (vs _)))
  ·
   simp only [if_neg e]
   refine ⟨(fun v hv => by cases hv), fun s' hs => ⟨trivial, fun v hv => ?_⟩⟩
   exact vp (by omega) (vp (by omega) (vn (fun hh => e (UInt8.toNat_inj.mp (by omega))) hv))
 ·
  intro s _
  simp only [spec_l1Atom.l0]
  exact vn (by omega) (ev_bind0 (spec_l1Letter_eq c) (vs _))
 ·
  have key : ∀ r : Str, run (fun (_ : Unit) d => if c = d then .inl true else .inr ()) (fun _ => alnB c) r () = (alnB c || decide (c ∈ r)) := by
   intro r
   induction r with
   | nil => simp [run]
   | cons d r ih =>
    unfold run
    by_cases e : c = d
    ·
     simp [e]
    ·
     simp [e, ih]
  exact key atList
theorem spec_AtomValid_ev (l : Str) (hl : l.length ≤ 1000000000000000) : Ev (fun k => spec_AtomValid.f k (ofL l)) (atomV l) := by
 unfold spec_AtomValid.f
 have hj' : ∀ i : Int, Ev (fun k => spec_AtomValid.j1 k (ofL l) i false) (decide (1 ≤ l.length) && decide (l.length ≤ 40)) := by
  intro i
  refine vc ?_
  simp only [spec_AtomValid.j1, size_ofL]
  by_cases h1 : 1 ≤ l.length
  ·
   rw [decide_eq_true h1]
   refine vn (by simp) (vp (by omega) (vq (vs _) ?_))
   rw [Bool.true_and]
   by_cases h2 : l.length ≤ 40
   ·
    rw [decide_eq_true h2]; exact decide_eq_true (by omega)
   ·
    rw [decide_eq_false h2]; exact decide_eq_false (by omega)
  ·
   rw [decide_eq_false h1]
   exact vn (by simp) (vn (by omega) (vs _))
 refine vq (run_start (xs := l) (F := fun k (_ : Nat) i => spec_AtomValid.l0 k (ofL l) i) (st := fun n c => if n ≤ 40 then (if atB c = true then .inr (n + 1) else .inl false) else .inl (decide (1 ≤ l.length) && decide (l.length ≤ 40))) (fin := fun _ => decide (1 ≤ l.length) && decide (l.length ≤ 40)) (s := 0) (fun p n => n = p.length) rfl ?_ ?_) ?_
 ·
  intro p c r n h hn
  subst hn
  have hz := len_mid h
  have e1 := bt_ofL_mid h
  have w1 : wrap64 ((p.length : Int) + 1) = (p.length : Int) + 1 := wrap_id (by omega) (by omega)
  by_cases h20 : p.length ≤ 40
  ·
   simp only [if_pos h20]
   have hd : decide ((p.length : Int) ≤ 40) = true := decide_eq_true (by omega)
   simp only [spec_AtomValid.l0, hd, size_ofL]
   cases e : atB c with
   | true =>
    simp only [if_true]
    refine ⟨(fun v hv => by cases hv), fun s' hs => ⟨?_, fun v hv => ?_⟩⟩
    ·
     cases hs; simp
    ·
     refine vp (by omega) (vc ?_)
     simp only [spec_AtomValid.j1, e1, w1, size_ofL]
     clear w1 e1
     exact vp trivial (vp (by omega) (vp (by omega) (vb (spec_l1Atom_ev c) (vp e hv))))
   | false =>
    refine ⟨(fun v hv => ?_), fun s' hs => by simp at hs⟩
    simp only [Bool.false_eq_true, if_false, Sum.inl.injEq] at hv
    subst hv
    refine vp (by omega) (vc ?_)
    simp only [spec_AtomValid.j1, e1, w1, size_ofL]
    clear w1 e1
    exact vp trivial (vp (by omega) (vp (by omega) (vb (spec_l1Atom_ev c) (vn (by rw [e]; simp) (vs _)))))
  ·
   simp only [if_neg h20]
   have hd : decide ((p.length : Int) ≤ 40) = false := decide_eq_false (by omega)
   refine ⟨(fun v hv => ?_), fun s' hs => by cases hs⟩
   cases hv
   simp only [spec_AtomValid.l0, hd, size_ofL]
   clear w1 e1
   exact vp (by omega) (hj' _)
 ·
  intro s hs
  subst hs
  simp only [spec_AtomValid.l0, size_ofL]
  exact vn (by omega) (hj' _)
 ·
  unfold atomV
  have key : ∀ (r : Str) (n : Nat), n + r.length = l.length → run (fun n c => if n ≤ 40 then (if atB c = true then .inr (n + 1) else .inl false) else .inl (decide (1 ≤ l.length) && decide (l.length ≤ 40))) (fun _ => decide (1 ≤ l.length) && decide (l.length ≤ 40)) r n = (decide (1 ≤ l.length) && decide (l.length ≤ 40) && r.all atB) := by
   intro r
   induction r with
   | nil => intro n _; simp [run]
   | cons c r ih =>
    intro n hn
    simp only [List.length_cons] at hn
    unfold run
    by_cases h20 : n ≤ 40
    ·
     simp only [if_pos h20]
     cases e : atB c with
     | true => simp [e, ih (n + 1) (by omega)]
     | false => simp [e]
    ·
     simp only [if_neg h20]
     have : decide (l.length ≤ 40) = false := decide_eq_false (by omega)
     simp [this]
  exact key l 0 (by omega)

/-! Names, small letters: the model. -/
def nmB (c : UInt8) : Bool := alnB c || decide (c = 45)
def isNm (l : Str) : Bool := decide (l.length ≤ 30) && (match l with
 | [] => false
 | c :: _ => letB c) && l.all nmB
def lowB (c : UInt8) : UInt8 := if 65 ≤ c ∧ c ≤ 90 then c + 32 else c
def low (l : Str) : Str := l.map lowB
def isSmall (l : Str) : Bool := isNm l && decide (low l = l)
theorem isNm_len {l : Str} (h : isNm l = true) : l.length ≤ 30 := by
 unfold isNm at h; simp at h; exact h.1.1
theorem beq_dec (a b : Str) : (a == b) = decide (a = b) := by
 rw [Bool.eq_iff_iff]; simp
theorem lowB_num (c : UInt8) : lowI (c.toNat : Int) = ((lowB c).toNat : Int) := by
 revert c
 exact u8_all (by decide +kernel)
theorem zn_low (l : Str) : (zn l).map lowI = zn (low l) := by
 unfold zn low
 rw [List.map_map, List.map_map]
 exact List.map_congr_left (fun c _ => lowB_num c)
theorem low_len (l : Str) : (low l).length = l.length := by unfold low; simp
theorem impl_LowerText_eq (l : Str) (hl : l.length ≤ 140737488355328) : impl_LowerText.f (ofL l) = some (ofL (low l)) := by
 unfold impl_LowerText.f
 rw [size_ofL, if_pos hl, bytesOf_ofL, zn_low, strOfNums_zn]
theorem spec_LowerText_eq (l : Str) (hl : l.length ≤ 140737488355328) : spec_LowerText.f (ofL l) = some (ofL (low l)) := by
 unfold spec_LowerText.f
 rw [size_ofL, if_pos hl, bytesOf_ofL, zn_low, strOfNums_zn]
theorem impl_SameText_eq (a b : Str) (ha : a.length ≤ 140737488355328) (hb : b.length ≤ 140737488355328) : impl_SameText.f (ofL a) (ofL b) = some (decide (low a = low b)) := by
 unfold impl_SameText.f
 rw [impl_LowerText_eq a ha, impl_LowerText_eq b hb]
 simp only [Option.bind_some, toList_ofL, beq_dec]
theorem spec_SameText_eq (a b : Str) (ha : a.length ≤ 140737488355328) (hb : b.length ≤ 140737488355328) : spec_SameText.f (ofL a) (ofL b) = some (decide (low a = low b)) := by
 unfold spec_SameText.f
 rw [spec_LowerText_eq a ha, spec_LowerText_eq b hb]
 simp only [Option.bind_some, toList_ofL, beq_dec]
theorem impl_isName_1_eq (c : UInt8) : impl_isName_1.f (c.toNat : Int) = some (nmB c) := by
 unfold impl_isName_1.f nmB alnB
 rw [impl_isLetter_eq, impl_isDigit_eq]
 have := u8_eq c 45 (by omega)
 by_cases e : c = 45
 ·
  have h2 := this.mpr e
  cases letB c <;> cases digB c <;> simp [e, h2]
 ·
  have h2 : ¬ (c.toNat : Int) = 45 := fun hh => e (this.mp hh)
  cases letB c <;> cases digB c <;> simp [e, h2]

theorem impl_allBytes_isName_1_ev (l : Str) (hl : l.length ≤ 1000000000000000) : Ev (fun k => impl_allBytes_isName_1.f k (ofL l)) (l.all nmB) := by
 unfold impl_allBytes_isName_1.f
 rw [size_ofL]
 refine vq (run_start (xs := l) (F := fun k (_ : Unit) i => impl_allBytes_isName_1.l0 k (ofL l) (l.length : Int) i) (st := fun _ c => if nmB c = true then .inr () else .inl false) (fin := fun _ => true) (s := ()) (fun _ _ => True) trivial ?_ ?_) ?_
 ·
  intro p c r s h _
  have hz := len_mid h
  have e1 := bt_ofL_mid h
  have w1 : wrap64 ((p.length : Int) + 1) = (p.length : Int) + 1 := wrap_id (by omega) (by omega)
  simp only [impl_allBytes_isName_1.l0, e1, w1, size_ofL]
  clear w1 e1
  cases e : nmB c with
  | true =>
   simp only [if_true]
   refine ⟨(fun v hv => by cases hv), fun s' hs => ⟨trivial, fun v hv => ?_⟩⟩
   refine vp (by omega) (vp (by omega) (vp (by omega) (ev_bind0 (impl_isName_1_eq c) (vp e hv))))
  | false =>
   refine ⟨(fun v hv => ?_), fun s' hs => by simp at hs⟩
   simp only [Bool.false_eq_true, if_false, Sum.inl.injEq] at hv
   subst hv
   refine vp (by omega) (vp (by omega) (vp (by omega) (ev_bind0 (impl_isName_1_eq c) (vn (by rw [e]; simp) (vs _)))))
 ·
  intro s _
  simp only [impl_allBytes_isName_1.l0]
  exact vn (by omega) (vs _)
 ·
  clear hl
  induction l with
  | nil => rfl
  | cons c r ih =>
   unfold run
   cases e : nmB c with
   | true => simp [e, ih]
   | false => simp [e]

theorem impl_isName_ev (l : Str) (hl : l.length ≤ 1000000000000000) : Ev (fun k => impl_isName.f k (ofL l)) (isNm l) := by
 unfold impl_isName.f isNm
 rw [size_ofL]
 cases l with
 | nil => exact vn (by simp) (vs _)
 | cons c r =>
  simp only [bt_zero]
  refine vp (by simp only [List.length_cons]; omega) ?_
  by_cases h2 : (c :: r).length ≤ 30
  ·
   rw [decide_eq_true h2]
   refine vp (by omega) (vp (by simp) (ev_bind0 (impl_isLetter_eq c) ?_))
   cases e : letB c with
   | true => exact vp rfl (vb (impl_allBytes_isName_1_ev (c :: r) hl) (vs _))
   | false => exact vn (by simp) (vs _)
  ·
   rw [decide_eq_false h2]
   exact vn (by omega) (vs _)
theorem impl_isSmallName_ev (l : Str) (hl : l.length ≤ 140737488355328) : Ev (fun k => impl_isSmallName.f k (ofL l)) (isSmall l) := by
 unfold impl_isSmallName.f isSmall
 refine vb (impl_isName_ev l (by omega)) ?_
 cases e : isNm l with
 | true =>
  refine vp rfl (ev_bind0 (impl_LowerText_eq l hl) (vq (vs _) ?_))
  simp only [toList_ofL, beq_dec, Bool.true_and]
 | false => exact vn (by simp) (vs _)

theorem spec_l3Name_ev (l : Str) (hl : l.length ≤ 1000000000000000) : Ev (fun k => spec_l3Name.f k (ofL l)) (isNm l) := by
 unfold spec_l3Name.f
 have hj' : ∀ i : Int, Ev (fun k => spec_l3Name.j1 k (ofL l) i false) (decide (1 ≤ l.length) && decide (l.length ≤ 30)) := by
  intro i
  refine vc ?_
  simp only [spec_l3Name.j1, size_ofL]
  by_cases h1 : 1 ≤ l.length
  ·
   rw [decide_eq_true h1]
   refine vn (by simp) (vp (by omega) (vq (vs _) ?_))
   rw [Bool.true_and]
   by_cases h2 : l.length ≤ 30
   ·
    rw [decide_eq_true h2]; exact decide_eq_true (by omega)
   ·
    rw [decide_eq_false h2]; exact decide_eq_false (by omega)
  ·
   rw [decide_eq_false h1]
   exact vn (by simp) (vn (by omega) (vs _))
 refine vq (run_start (xs := l) (F := fun k (_ : Nat) i => spec_l3Name.l0 k (ofL l) i) (st := fun n c => if n ≤ 30 then (if nmB c = true then (if n = 0 then (if letB c = true then .inr (n + 1) else .inl false) else .inr (n + 1)) else .inl false) else .inl (decide (1 ≤ l.length) && decide (l.length ≤ 30))) (fin := fun _ => decide (1 ≤ l.length) && decide (l.length ≤ 30)) (s := 0) (fun p n => n = p.length) rfl ?_ ?_) ?_
 ·
  intro p c r n h hn
  subst hn
  have hz := len_mid h
  have e1 := bt_ofL_mid h
  have w1 : wrap64 ((p.length : Int) + 1) = (p.length : Int) + 1 := wrap_id (by omega) (by omega)
  by_cases h20 : p.length ≤ 30
  ·
   simp only [if_pos h20]
   have hd : decide ((p.length : Int) ≤ 30) = true := decide_eq_true (by omega)
   simp only [spec_l3Name.l0, hd, size_ofL]
   have h45 := u8_eq c 45 (by omega)
   have hlet : nmB c = true → (letB c = true ↔ ¬ (c.toNat : Int) ≤ 57) := u8_all (p := fun c => nmB c = true → (letB c = true ↔ ¬ (c.toNat : Int) ≤ 57)) (by decide +kernel) c
   cases e : nmB c with
   | true =>
    have hlt := hlet e
    have go : ∀ v, Ev (fun k => if (p.length : Int) = 0 then (if (c.toNat : Int) ≤ 57 then some false else spec_l3Name.l0 k (ofL l) ((p.length : Int) + 1)) else spec_l3Name.l0 k (ofL l) ((p.length : Int) + 1)) v → Ev (fun k => if (p.length : Int) < (l.length : Int) then spec_l3Name.j1 (k + 0) (ofL l) (p.length : Int) true else spec_l3Name.j1 (k + 0) (ofL l) (p.length : Int) false) v := by
     intro v hv
     refine vp (by omega) (vc ?_)
     simp only [spec_l3Name.j1, e1, w1, size_ofL]
     clear w1 e1
     refine vp trivial (vp (by omega) (vp (by omega) (ev_bind0 (spec_l1Letter_eq c) ?_)))
     cases ea : alnB c with
     | true => exact vp rfl hv
     | false =>
      have : c = 45 := by
       unfold nmB at e
       rw [ea, Bool.false_or] at e
       exact of_decide_eq_true e
      exact vn (by simp) (vp (h45.mpr this) hv)
    simp only [if_true]
    by_cases h0 : p.length = 0
    ·
     simp only [if_pos h0]
     by_cases hL : letB c = true
     ·
      simp only [if_pos hL]
      refine ⟨(fun v hv => by cases hv), fun s' hs => ⟨?_, fun v hv => ?_⟩⟩
      ·
       cases hs; simp
      ·
       exact go v (vp (by omega) (vn (hlt.mp hL) hv))
     ·
      simp only [if_neg hL]
      refine ⟨(fun v hv => ?_), fun s' hs => by cases hs⟩
      cases hv
      exact go false (vp (by omega) (vp (Decidable.not_not.mp (fun hh => hL (hlt.mpr hh))) (vs _)))
    ·
     simp only [if_neg h0]
     refine ⟨(fun v hv => by cases hv), fun s' hs => ⟨?_, fun v hv => ?_⟩⟩
     ·
      cases hs; simp
     ·
      exact go v (vn (by omega) hv)
   | false =>
    refine ⟨(fun v hv => ?_), fun s' hs => by simp at hs⟩
    simp only [Bool.false_eq_true, if_false, Sum.inl.injEq] at hv
    subst hv
    refine vp (by omega) (vc ?_)
    simp only [spec_l3Name.j1, e1, w1, size_ofL]
    clear w1 e1
    unfold nmB at e
    rw [Bool.or_eq_false_iff] at e
    exact vp trivial (vp (by omega) (vp (by omega) (ev_bind0 (spec_l1Letter_eq c) (vn (by rw [e.1]; simp) (vn (fun hh => (of_decide_eq_false e.2) (h45.mp hh)) (vs _))))))
  ·
   simp only [if_neg h20]
   have hd : decide ((p.length : Int) ≤ 30) = false := decide_eq_false (by omega)
   refine ⟨(fun v hv => ?_), fun s' hs => by cases hs⟩
   cases hv
   simp only [spec_l3Name.l0, hd, size_ofL]
   clear w1 e1
   exact vp (by omega) (hj' _)
 ·
  intro s hs
  subst hs
  simp only [spec_l3Name.l0, size_ofL]
  exact vn (by omega) (hj' _)
 ·
  have key : ∀ (r : Str) (n : Nat), 1 ≤ n → n + r.length = l.length → run (fun n c => if n ≤ 30 then (if nmB c = true then (if n = 0 then (if letB c = true then .inr (n + 1) else .inl false) else .inr (n + 1)) else .inl false) else .inl (decide (1 ≤ l.length) && decide (l.length ≤ 30))) (fun _ => decide (1 ≤ l.length) && decide (l.length ≤ 30)) r n = (decide (l.length ≤ 30) && r.all nmB) := by
   intro r
   induction r with
   | nil => intro n h1 h2; have : decide (1 ≤ l.length) = true := decide_eq_true (by simp at h2; omega); simp only [run, this]; simp
   | cons c r ih =>
    intro n h1 hn
    simp only [List.length_cons] at hn
    unfold run
    have h1l : decide (1 ≤ l.length) = true := decide_eq_true (by omega)
    by_cases h20 : n ≤ 30
    ·
     simp only [if_pos h20, if_neg (show ¬ n = 0 by omega)]
     cases e : nmB c with
     | true => simp [e, ih (n + 1) (by omega) (by omega)]
     | false => simp [e]
    ·
     simp only [if_neg h20]
     have : decide (l.length ≤ 30) = false := decide_eq_false (by omega)
     simp [this]
  cases l with
  | nil => simp [run, isNm]
  | cons c r =>
   unfold run isNm
   have hc := key r 1 (by omega) (by simp; omega)
   simp only [if_pos (show (0 : Nat) ≤ 30 by omega), if_true]
   cases e : nmB c with
   | true =>
    cases e2 : letB c with
    | true => simp only [if_true]; rw [hc]; simp [e]
    | false => simp
   | false => simp [e]
theorem spec_l7Word_ev (l : Str) (hl : l.length ≤ 140737488355328) : Ev (fun k => spec_l7Word.f k (ofL l)) (isSmall l) := by
 unfold spec_l7Word.f isSmall
 refine vb (spec_l3Name_ev l (by omega)) ?_
 cases e : isNm l with
 | true =>
  refine vp rfl (ev_bind0 (spec_LowerText_eq l hl) (vq (vs _) ?_))
  simp only [toList_ofL, beq_dec, Bool.true_and]
 | false => exact vn (by simp) (vs _)

/-! The place of a name. -/
def fidx (n : Str) : List (Str × Str) → Nat → Int
 | [], _ => -1
 | c :: r, i => if low c.1 = low n then (i : Int) else fidx n r (i + 1)
def small (ls : List (Str × Str)) : Prop := ∀ x ∈ ls, x.1.length ≤ 1048576 ∧ x.2.length ≤ 1048576
theorem small_of {ls : List (Str × Str)} (h : szp ls ≤ 1048576) : small ls := fun x hx => by
 have := szp_mem hx
 exact ⟨by omega, by omega⟩
theorem fidx_range (n : Str) (r : List (Str × Str)) : ∀ i : Nat, fidx n r i = -1 ∨ ((i : Int) ≤ fidx n r i ∧ fidx n r i < i + r.length) := by
 induction r with
 | nil => intro i; exact Or.inl rfl
 | cons c r ih =>
  intro i
  unfold fidx
  split
  ·
   right; simp only [List.length_cons]; omega
  ·
   rcases ih (i + 1) with h | ⟨h1, h2⟩
   ·
    exact Or.inl h
   ·
    right; simp only [List.length_cons]; omega
theorem fidx_run (n : Str) (r : List (Str × Str)) : ∀ i : Nat, run (fun (i : Nat) (c : Str × Str) => if low c.1 = low n then .inl (i : Int) else .inr (i + 1)) (fun _ => (-1 : Int)) r i = fidx n r i := by
 induction r with
 | nil => intro i; rfl
 | cons c r ih =>
  intro i
  unfold run fidx
  by_cases e : low c.1 = low n
  ·
   simp only [if_pos e]
  ·
   simp only [if_neg e, ih]
theorem spec_l3Find_ev (ls : List (Str × Str)) (n : Str) (hs : small ls) (hn : n.length ≤ 1048576) (hl : ls.length ≤ 1048576) : Ev (fun k => spec_l3Find.f k (ls.map e76) (ofL n)) (fidx n ls 0) := by
 unfold spec_l3Find.f
 refine vq (run_start (xs := ls) (F := fun k (_ : Nat) i => spec_l3Find.l0 k (ls.map e76) (ofL n) i) (st := fun i c => if low c.1 = low n then .inl (i : Int) else .inr (i + 1)) (fin := fun _ => (-1 : Int)) (s := 0) (fun p i => i = p.length) rfl ?_ ?_) (fidx_run n ls 0)
 ·
  intro p c r i h hi
  subst hi
  have hz := len_mid h
  have e1 := rd76_mid h
  have hc := hs c (by rw [h]; simp)
  have w1 : wrap64 ((p.length : Int) + 1) = (p.length : Int) + 1 := wrap_id (by omega) (by omega)
  have hq := spec_SameText_eq c.1 n (by omega) (by omega)
  simp only [spec_l3Find.l0, e1, w1, List.length_map, e76, hq]
  clear w1 e1
  by_cases e : low c.1 = low n
  ·
   simp only [if_pos e]
   refine ⟨(fun v hv => ?_), fun s' hs => by cases hs⟩
   cases hv
   exact vp (by omega) (vp (by omega) (ev_bind0 rfl (vp (decide_eq_true e) (vs _))))
  ·
   simp only [if_neg e]
   refine ⟨(fun v hv => by cases hv), fun s' hs => ⟨?_, fun v hv => ?_⟩⟩
   ·
    cases hs; simp
   ·
    exact vp (by omega) (vp (by omega) (ev_bind0 rfl (vn (by simp [e]) hv)))
 ·
  intro s _
  simp only [spec_l3Find.l0, List.length_map]
  exact vn (by omega) (vs _)
theorem impl_fieldPlace_ev (ls : List (Str × Str)) (n : Str) (hs : small ls) (hn : n.length ≤ 1048576) (hl : ls.length ≤ 1048576) : Ev (fun k => impl_fieldPlace.f k (ls.map e76) (ofL n)) (fidx n ls 0) := by
 unfold impl_fieldPlace.f impl_Field_fieldPlace_1.f
 refine vb ?_ (vs _)
 rw [List.length_map]
 refine vq (run_start (xs := ls) (F := fun k (_ : Nat) i => impl_Field_fieldPlace_1.l0 k (ls.map e76) (ls.length : Int) i (ofL n)) (st := fun i c => if low c.1 = low n then .inl (i : Int) else .inr (i + 1)) (fin := fun _ => (-1 : Int)) (s := 0) (fun p i => i = p.length) rfl ?_ ?_) (fidx_run n ls 0)
 ·
  intro p c r i h hi
  subst hi
  have hz := len_mid h
  have e1 := rd76_mid h
  have hc := hs c (by rw [h]; simp)
  have w1 : wrap64 ((p.length : Int) + 1) = (p.length : Int) + 1 := wrap_id (by omega) (by omega)
  have hq := impl_SameText_eq c.1 n (by omega) (by omega)
  simp only [impl_Field_fieldPlace_1.l0, impl_fieldPlace_1.f, e1, w1, List.length_map, e76, hq, Option.bind_some]
  clear w1 e1
  by_cases e : low c.1 = low n
  ·
   simp only [if_pos e]
   refine ⟨(fun v hv => ?_), fun s' hs => by cases hs⟩
   cases hv
   exact vp (by omega) (vp (by omega) (vp (by omega) (vp (decide_eq_true e) (vs _))))
  ·
   simp only [if_neg e]
   refine ⟨(fun v hv => by cases hv), fun s' hs => ⟨?_, fun v hv => ?_⟩⟩
   ·
    cases hs; simp
   ·
    exact vp (by omega) (vp (by omega) (vp (by omega) (vn (by simp [e]) hv)))
 ·
  intro s _
  simp only [impl_Field_fieldPlace_1.l0]
  exact vn (by omega) (vs _)

/-! Texts: the model. -/
def okB (c : UInt8) : Bool := 32 ≤ c && c ≤ 126
def tvalid (l : Str) : Bool := l.all okB && decide (l.length ≤ 200)
theorem okB_lo (c : UInt8) (h : (c.toNat : Int) < 32) : okB c = false := by
 have : c < 32 := (u8_lt c 32 (by omega)).mp h
 unfold okB
 simp [UInt8.le_iff_toNat_le, UInt8.lt_iff_toNat_lt] at this ⊢
 omega
theorem okB_hi (c : UInt8) (h : (c.toNat : Int) > 126) : okB c = false := by
 unfold okB
 simp [UInt8.le_iff_toNat_le, UInt8.lt_iff_toNat_lt]
 omega
theorem okB_mid (c : UInt8) (h : ¬ (c.toNat : Int) < 32) (h2 : ¬ (c.toNat : Int) > 126) : okB c = true := by
 unfold okB
 simp [UInt8.le_iff_toNat_le, UInt8.lt_iff_toNat_lt]
 omega
theorem tvalid_len {l : Str} (h : tvalid l = true) : l.length ≤ 200 := by
 unfold tvalid at h; simp at h; exact h.2

theorem impl_TextValid_loop (l : Str) (hl : l.length ≤ 1000000000000000) (r : Str) : ∀ (p : Str), l = p ++ r → Ev (fun k => impl_TextValid.l0 k (ofL l) (l.length : Int) (p.length : Int)) (r.all okB && decide (l.length ≤ 200)) := by
 induction r with
 | nil =>
  intro p h
  have hz : l.length = p.length := by rw [h, List.append_nil]
  refine vc ?_
  simp only [impl_TextValid.l0, size_ofL]
  repeat (first | refine vp (by first | assumption | omega | decide) ?_ | refine vn (by first | assumption | omega | decide) ?_)
  exact vq (vs _) (by simp; omega)
 | cons c r ih =>
  intro p h
  have hz : l.length = p.length + (r.length + 1) := by rw [h]; simp
  have e1 : bt (ofL l) (p.length : Int) = (c.toNat : Int) := by rw [h]; exact bt_mid p r c
  have := ih (p ++ [c]) (by rw [h]; simp)
  rw [len_snoc] at this
  refine vc ?_
  simp (disch := omega) only [impl_TextValid.l0, size_ofL, e1, wrap_id]
  by_cases h1 : (c.toNat : Int) < 32
  ·
   repeat (first | refine vp (by first | assumption | omega | decide) ?_ | refine vn (by first | assumption | omega | decide) ?_)
   exact vq (vs _) (by simp [okB_lo c h1])
  ·
   by_cases h2 : (c.toNat : Int) > 126
   ·
    repeat (first | refine vp (by first | assumption | omega | decide) ?_ | refine vn (by first | assumption | omega | decide) ?_)
    exact vq (vs _) (by simp [okB_hi c h2])
   ·
    repeat (first | refine vp (by first | assumption | omega | decide) ?_ | refine vn (by first | assumption | omega | decide) ?_)
    exact vq this (by simp [okB_mid c h1 h2])
theorem impl_TextValid_ev (l : Str) (hl : l.length ≤ 1000000000000000) : Ev (fun k => impl_TextValid.f k (ofL l)) (tvalid l) := by
 unfold impl_TextValid.f
 rw [size_ofL]
 exact impl_TextValid_loop l hl l [] rfl

theorem spec_TextValid_loop (l : Str) (hl : l.length ≤ 1000000000000000) (r : Str) : ∀ (p : Str), l = p ++ r → Ev (fun k => spec_TextValid.l0 k (ofL l) (p.length : Int)) (r.all okB && decide (l.length ≤ 200)) := by
 induction r with
 | nil =>
  intro p h
  have hz : l.length = p.length := by rw [h, List.append_nil]
  refine vc ?_
  simp only [spec_TextValid.l0, size_ofL]
  repeat (first | refine vp (by first | assumption | omega | decide) ?_ | refine vn (by first | assumption | omega | decide) ?_)
  refine vc ?_
  simp only [spec_TextValid.j1, size_ofL]
  repeat (first | refine vp (by first | assumption | omega | decide) ?_ | refine vn (by first | assumption | omega | decide) ?_)
  exact vq (vs _) (by simp; omega)
 | cons c r ih =>
  intro p h
  have hz : l.length = p.length + (r.length + 1) := by rw [h]; simp
  have e1 : bt (ofL l) (p.length : Int) = (c.toNat : Int) := by rw [h]; exact bt_mid p r c
  have := ih (p ++ [c]) (by rw [h]; simp)
  rw [len_snoc] at this
  by_cases h0 : (p.length : Int) ≤ 200
  ·
   refine vc ?_
   simp only [spec_TextValid.l0, size_ofL]
   repeat (first | refine vp (by first | assumption | omega | decide) ?_ | refine vn (by first | assumption | omega | decide) ?_)
   refine vc ?_
   simp (disch := omega) only [spec_TextValid.j1, size_ofL, e1, wrap_id, decide_eq_true h0]
   by_cases h1 : (c.toNat : Int) < 32
   ·
    repeat (first | refine vp (by first | assumption | omega | decide) ?_ | refine vn (by first | assumption | omega | decide) ?_)
    exact vq (vs _) (by simp [okB_lo c h1])
   ·
    by_cases h2 : (c.toNat : Int) > 126
    ·
     repeat (first | refine vp (by first | assumption | omega | decide) ?_ | refine vn (by first | assumption | omega | decide) ?_)
     exact vq (vs _) (by simp [okB_hi c h2])
    ·
     repeat (first | refine vp (by first | assumption | omega | decide) ?_ | refine vn (by first | assumption | omega | decide) ?_)
     exact vq this (by simp [okB_mid c h1 h2])
  ·
   refine vc ?_
   simp only [spec_TextValid.l0, size_ofL]
   repeat (first | refine vp (by first | assumption | omega | decide) ?_ | refine vn (by first | assumption | omega | decide) ?_)
   refine vc ?_
   simp only [spec_TextValid.j1, size_ofL, decide_eq_false h0]
   repeat (first | refine vp (by first | assumption | omega | decide) ?_ | refine vn (by first | assumption | omega | decide) ?_)
   have d1 : decide ((l.length : Int) ≤ 200) = false := decide_eq_false (by omega)
   have d2 : decide (l.length ≤ 200) = false := decide_eq_false (by omega)
   exact vq (vs _) (by rw [d1, d2, Bool.and_false])
theorem spec_TextValid_ev (l : Str) (hl : l.length ≤ 1000000000000000) : Ev (fun k => spec_TextValid.f k (ofL l)) (tvalid l) := by
 unfold spec_TextValid.f
 exact spec_TextValid_loop l hl l [] rfl

/-! Words quoted. -/
def escB (c : UInt8) : Str := if c = 34 ∨ c = 92 then [92, c] else [c]
def esc : Str → Str
 | [] => []
 | c :: r => escB c ++ esc r
def quote (l : Str) : Str := 34 :: (esc l ++ [34])
def qw (l : Str) : Str := if tvalid l = true then (if atomV l = true then l else quote l) else []
theorem esc_append (a b : Str) : esc (a ++ b) = esc a ++ esc b := by
 induction a with
 | nil => rfl
 | cons c a ih => simp only [List.cons_append, esc, ih, List.append_assoc]
theorem escB_len (c : UInt8) : (escB c).length ≤ 2 := by unfold escB; split <;> simp
theorem esc_len (l : Str) : (esc l).length ≤ 2 * l.length := by
 induction l with
 | nil => simp [esc]
 | cons c r ih => have := escB_len c; simp only [esc, List.length_append, List.length_cons]; omega
theorem qw_len (l : Str) : (qw l).length ≤ 2 * l.length + 2 := by
 unfold qw quote
 have := esc_len l
 split
 ·
  split
  ·
   omega
  ·
   simp only [List.length_cons, List.length_append, List.length_nil]; omega
 ·
  simp
theorem impl_QuoteWord_ev (l : Str) (hl : l.length ≤ 1048576) : Ev (fun k => impl_QuoteWord.f k (ofL l)) (ofL (qw l)) := by
 have key : ∀ (r p : Str), l = p ++ r → Ev (fun k => impl_QuoteWord.l0 k (ofL l) (zn (34 :: esc p)) (l.length : Int) (p.length : Int)) (ofL (quote l)) := by
  intro r
  induction r with
  | nil =>
   intro p h
   rw [List.append_nil] at h
   subst h
   have h1 := esc_len l
   refine vc ?_
   simp only [impl_QuoteWord.l0, zn_length]
   refine vn (by omega) (vp (by simp only [List.length_cons]; omega) (vq (vs _) ?_))
   rw [show ([34] : List Int) = zn [34] from rfl, ← zn_append, strOfNums_zn]
   rfl
  | cons c r ih =>
   intro p h
   have hz := len_mid h
   have e1 := bt_ofL_mid h
   have h1 := esc_len p
   have hh := ih (p ++ [c]) (by rw [h]; simp)
   rw [len_snoc, esc_append] at hh
   have w1 : wrap64 ((p.length : Int) + 1) = (p.length : Int) + 1 := wrap_id (by omega) (by omega)
   have h34 := u8_eq c 34 (by omega)
   have h92 := u8_eq c 92 (by omega)
   have b1 : (34 :: esc p : Str).length < 140737488355328 := by simp only [List.length_cons]; omega
   have b2 : (34 :: esc p ++ [92] : Str).length < 140737488355328 := by simp only [List.length_cons, List.length_append, List.length_nil]; omega
   refine vc ?_
   have e92 : ([92] : List Int) = zn [92] := rfl
   have ec : ([(c.toNat : Int)] : List Int) = zn [c] := rfl
   simp only [impl_QuoteWord.l0, e1, w1, size_ofL, zn_length, Option.bind_some, e92, ec, ← zn_append]
   clear w1 e1
   refine vp (by omega) (vp (by omega) (vp (by omega) ?_))
   have two : escB c = [92, c] → (34 :: esc p ++ [92]) ++ [c] = 34 :: (esc p ++ (esc [c])) := fun h => by simp [esc, h]
   have one : escB c = [c] → (34 :: esc p) ++ [c] = 34 :: (esc p ++ (esc [c])) := fun h => by simp [esc, h]
   by_cases c1 : (c.toNat : Int) = 34
   ·
    have hc : c = 34 := h34.mp c1
    refine vp c1 (vp b1 (vp b2 ?_))
    rw [two (by unfold escB; rw [if_pos (Or.inl hc)])]
    exact hh
   ·
    have hc : ¬ c = 34 := fun h => c1 (h34.mpr h)
    by_cases c2 : (c.toNat : Int) = 92
    ·
     have hc2 : c = 92 := h92.mp c2
     refine vn c1 (vp c2 (vp b1 (vp b2 ?_)))
     rw [two (by unfold escB; rw [if_pos (Or.inr hc2)])]
     exact hh
    ·
     have hc2 : ¬ c = 92 := fun h => c2 (h92.mpr h)
     refine vn c1 (vn c2 (vp b1 ?_))
     rw [one (by unfold escB; rw [if_neg (by simp [hc, hc2])])]
     exact hh
 unfold impl_QuoteWord.f qw
 refine vb (impl_TextValid_ev l (by omega)) ?_
 cases e1 : tvalid l with
 | false => exact vn (by simp) (vq (vs _) rfl)
 | true =>
  refine vp rfl (vb (impl_AtomValid_ev l (by omega)) ?_)
  cases e2 : atomV l with
  | true => exact vp rfl (vs _)
  | false =>
   have := key l [] rfl
   simp only [size_ofL]
   exact vn (by simp) this
theorem spec_QuoteWord_ev (l : Str) (hl : l.length ≤ 1048576) : Ev (fun k => spec_QuoteWord.f k (ofL l)) (ofL (qw l)) := by
 have key : ∀ (r p : Str), l = p ++ r → Ev (fun k => spec_l1Quote.l0 k (ofL l) (ofL (34 :: esc p)) (p.length : Int)) (ofL (quote l)) := by
  intro r
  induction r with
  | nil =>
   intro p h
   rw [List.append_nil] at h
   subst h
   have h1 := esc_len l
   refine vc ?_
   simp only [spec_l1Quote.l0, size_ofL]
   refine vn (by omega) (vp (by simp only [List.length_cons]; omega) (vq (vs _) ?_))
   rw [show (⟨#[34]⟩ : ByteArray) = ofL [34] from rfl, ofL_append]
   rfl
  | cons c r ih =>
   intro p h
   have hz := len_mid h
   have e1 := bt_ofL_mid h
   have h1 := esc_len p
   have hh := ih (p ++ [c]) (by rw [h]; simp)
   rw [len_snoc, esc_append] at hh
   have w1 : wrap64 ((p.length : Int) + 1) = ((p.length + 1 : Nat) : Int) := (wrap_id (by omega) (by omega)).trans (by omega)
   have w2 : ((p.length + 1 : Nat) : Int) = (p.length : Int) + 1 := by omega
   have h34 := u8_eq c 34 (by omega)
   have h92 := u8_eq c 92 (by omega)
   have e3 : strOfNums ([92] : List Int) = ofL [92] := strOfNums_zn [92]
   have e4 : (l.drop p.length).take (p.length + 1 - p.length) = [c] := by
    rw [h, List.drop_left, show p.length + 1 - p.length = 1 by omega]; rfl
   refine vc ?_
   simp only [spec_l1Quote.l0, e1, w1, size_ofL, Option.bind_some, e3, Int.toNat_natCast, extract_ofL, e4, ofL_append]
   clear w1 e1 e3 e4
   simp only [w2]
   refine vp (by omega) (vp (by omega) ?_)
   have two : escB c = [92, c] → (34 :: esc p ++ [92]) ++ [c] = 34 :: (esc p ++ (esc [c])) := fun h => by simp [esc, h]
   have one : escB c = [c] → (34 :: esc p) ++ [c] = 34 :: (esc p ++ (esc [c])) := fun h => by simp [esc, h]
   have b1 : (34 :: esc p : Str).length + ([92] : Str).length ≤ 9223372036854775807 := by simp only [List.length_cons, List.length_nil]; omega
   have b2 : (34 :: esc p ++ [92] : Str).length + ([c] : Str).length ≤ 9223372036854775807 := by simp only [List.length_cons, List.length_append, List.length_nil]; omega
   have b3 : (34 :: esc p : Str).length + ([c] : Str).length ≤ 9223372036854775807 := by simp only [List.length_cons, List.length_nil]; omega
   by_cases c1 : (c.toNat : Int) = 34
   ·
    have hc : c = 34 := h34.mp c1
    refine vp c1 (vp b1 (vp (by omega) (vp (by omega) (vp b2 ?_))))
    rw [two (by unfold escB; rw [if_pos (Or.inl hc)])]
    exact hh
   ·
    have hc : ¬ c = 34 := fun h => c1 (h34.mpr h)
    by_cases c2 : (c.toNat : Int) = 92
    ·
     have hc2 : c = 92 := h92.mp c2
     refine vn c1 (vp c2 (vp b1 (vp (by omega) (vp (by omega) (vp b2 ?_)))))
     rw [two (by unfold escB; rw [if_pos (Or.inr hc2)])]
     exact hh
    ·
     have hc2 : ¬ c = 92 := fun h => c2 (h92.mpr h)
     refine vn c1 (vn c2 (vp (by omega) (vp (by omega) (vp b3 ?_))))
     rw [one (by unfold escB; rw [if_neg (by simp [hc, hc2])])]
     exact hh
 unfold spec_QuoteWord.f qw
 refine vb (spec_TextValid_ev l (by omega)) ?_
 cases e1 : tvalid l with
 | false => exact vn (by simp) (vq (vs _) rfl)
 | true =>
  refine vp rfl (vb (spec_AtomValid_ev l (by omega)) ?_)
  cases e2 : atomV l with
  | true => exact vp rfl (vs _)
  | false =>
   have := key l [] rfl
   unfold spec_l1Quote.f
   exact vn (by simp) (vb this (vs _))

/-! Kinds as texts, valid kinds. -/
def kpart (p : Str × Str) : Str := [59, 32] ++ p.1 ++ [61] ++ qw p.2
def ktail : List (Str × Str) → Str
 | [] => []
 | c :: r => kpart c ++ ktail r
def ktext (a b : Str) (ps : List (Str × Str)) : Str := (a ++ [47] ++ b) ++ ktail ps
def kfl (q : List (Str × Str)) : List (Str × Str) → Bool
 | [] => true
 | c :: r => isSmall c.1 && (tvalid c.2 && decide (c.2.length ≤ 40)) && decide (¬ (fidx c.1 q 0 ≥ 0)) && kfl (q ++ [c]) r
def kvalid (a b : Str) (ps : List (Str × Str)) : Bool := isSmall a && isSmall b && decide (¬ (ps.length > 4)) && kfl [] ps && decide ((ktext a b ps).length ≤ 150)
theorem kpart_len (p : Str × Str) : (kpart p).length = 3 + p.1.length + (qw p.2).length := by
 unfold kpart; simp only [List.length_append, List.length_cons, List.length_nil]
 omega
theorem ktail_append (a b : List (Str × Str)) : ktail (a ++ b) = ktail a ++ ktail b := by
 induction a with
 | nil => rfl
 | cons c a ih => simp only [List.cons_append, ktail, ih, List.append_assoc]
theorem ktail_len (ps : List (Str × Str)) : (ktail ps).length ≤ 2 * szp ps + 5 * ps.length := by
 induction ps with
 | nil => simp [ktail]
 | cons c r ih =>
  have h1 := kpart_len c
  have h2 := qw_len c.2
  simp only [ktail, szp, List.length_append, List.length_cons]
  omega
theorem szp_append (a b : List (Str × Str)) : szp (a ++ b) = szp a + szp b := by
 induction a with
 | nil => simp [szp]
 | cons c a ih => simp only [List.cons_append, szp, ih]; omega
theorem small_take {ls p r : List (Str × Str)} (h : ls = p ++ r) (hs : small ls) : small p := fun x hx => hs x (by rw [h]; exact List.mem_append_left _ hx)
theorem take_map_mid {ls p r : List (Str × Str)} (h : ls = p ++ r) : (ls.map e76).take p.length = p.map e76 := by
 rw [h, List.map_append]
 exact List.take_left' (by simp)
theorem impl_kindText_ev (a b : Str) (ps : List (Str × Str)) (ha : a.length ≤ 1048576) (hb : b.length ≤ 1048576) (hz : szp ps ≤ 1048576) (hn : ps.length ≤ 1048576) : Ev (fun k => impl_kindText.f k (ofL a) (ofL b) (ps.map e76)) (ofL (ktext a b ps)) := by
 have hs := small_of hz
 unfold impl_kindText.f
 have e47 : (⟨#[47]⟩ : ByteArray) = ofL [47] := rfl
 simp only [e47, ofL_append, size_ofL, List.length_map]
 refine vp (by omega) (vp (by first | omega | (simp only [List.length_append, List.length_cons, List.length_nil]; omega)) ?_)
 have key : ∀ (r p : List (Str × Str)), ps = p ++ r → Ev (fun k => impl_kindText.l0 k (ofL (a ++ [47] ++ b ++ ktail p)) (ps.map e76) (ps.length : Int) (p.length : Int)) (ofL (ktext a b ps)) := by
  intro r
  induction r with
  | nil =>
   intro p h
   rw [List.append_nil] at h
   subst h
   refine vc ?_
   simp only [impl_kindText.l0]
   exact vn (by omega) (vs _)
  | cons c r ih =>
   intro p h
   have hz2 := len_mid h
   have e1 := rd76_mid h
   have hc := hs c (by rw [h]; simp)
   have hh := ih (p ++ [c]) (by rw [h]; simp)
   rw [len_snoc, ktail_append] at hh
   have hq := qw_len c.2
   have hp : (ktail p).length ≤ 20000000 := by
    have h1 := ktail_len p
    have h2 : szp p ≤ szp ps := by rw [h, szp_append]; omega
    omega
   have hi := impl_QuoteWord_ev c.2 (by omega)
   have w1 : wrap64 ((p.length : Int) + 1) = (p.length : Int) + 1 := wrap_id (by omega) (by omega)
   have e59 : (⟨#[59, 32]⟩ : ByteArray) = ofL [59, 32] := rfl
   have e61 : (⟨#[61]⟩ : ByteArray) = ofL [61] := rfl
   refine vc ?_
   simp only [impl_kindText.l0, e1, w1, e76, e59, e61, size_ofL, ofL_append, List.length_map]
   clear w1 e1
   refine vp (by omega) (vp (by omega) (vp (by omega) (vp (by first | omega | (simp only [List.length_cons, List.length_nil]; omega)) (vp (by first | omega | (simp only [List.length_append, List.length_cons, List.length_nil]; omega)) (vb hi ?_)))))
   simp only [size_ofL, ofL_append]
   refine vp (by first | omega | (simp only [List.length_append, List.length_cons, List.length_nil]; omega)) (vp (by first | omega | (simp only [List.length_append, List.length_cons, List.length_nil]; omega)) ?_)
   have e : a ++ [47] ++ b ++ ktail p ++ ([59, 32] ++ c.1 ++ [61] ++ qw c.2) = a ++ [47] ++ b ++ (ktail p ++ ktail [c]) := by
    simp [ktail, kpart]
   rw [e]
   exact hh
 have := key ps [] rfl
 simpa [ktail] using this
theorem impl_KindValid_ev (a b : Str) (ps : List (Str × Str)) (ha : a.length ≤ 1048576) (hb : b.length ≤ 1048576) (hz : szp ps ≤ 1048576) (hn : ps.length ≤ 1048576) : Ev (fun k => impl_KindValid.f k (ofL a) (ofL b) (ps.map e76)) (kvalid a b ps) := by
 have hs := small_of hz
 have ht := impl_kindText_ev a b ps ha hb hz hn
 have hbad : Ev (fun k => impl_KindValid.j0 k true (ofL a) (ofL b) (ps.map e76)) false := by
  refine vc ?_
  simp only [impl_KindValid.j0]
  exact vp trivial (vs _)
 have key : ∀ (r p : List (Str × Str)), ps = p ++ r → Ev (fun k => impl_KindValid.l0 k (ps.map e76) (ps.length : Int) (p.length : Int) (ofL a) (ofL b) (ps.map e76)) (kfl p r && decide ((ktext a b ps).length ≤ 150)) := by
  intro r
  induction r with
  | nil =>
   intro p h
   rw [List.append_nil] at h
   subst h
   refine vc ?_
   simp only [impl_KindValid.l0, kfl, Bool.true_and]
   refine vn (by omega) (vb ht (vq (vs _) ?_))
   rw [size_ofL]
   by_cases h1 : (ktext a b ps).length ≤ 150
   ·
    rw [decide_eq_true h1]; exact decide_eq_true (by omega)
   ·
    rw [decide_eq_false h1]; exact decide_eq_false (by omega)
  | cons c r ih =>
   intro p h
   have hz2 := len_mid h
   have e1 := rd76_mid h
   have hc := hs c (by rw [h]; simp)
   have hh := ih (p ++ [c]) (by rw [h]; simp)
   rw [len_snoc] at hh
   have w1 : wrap64 ((p.length : Int) + 1) = (p.length : Int) + 1 := wrap_id (by omega) (by omega)
   have i1 := impl_isSmallName_ev c.1 (by omega)
   have i2 := impl_TextValid_ev c.2 (by omega)
   have i3 := impl_fieldPlace_ev p c.1 (small_take h hs) hc.1 (by omega)
   have e3 := take_map_mid h
   refine vc ?_
   simp only [impl_KindValid.l0, kfl, e1, w1, e76, size_ofL, List.length_map, Int.toNat_natCast]
   clear w1 e1
   refine vp (by omega) (vp (by omega) (vp (by omega) (vb i1 ?_)))
   cases q1 : isSmall c.1 with
   | false => exact vn (by simp) (vs _)
   | true =>
    refine vp rfl (vb i2 ?_)
    cases q2 : tvalid c.2 with
    | false => exact vn (by simp) (vs _)
    | true =>
     refine vp rfl ?_
     by_cases q3 : c.2.length ≤ 40
     ·
      rw [decide_eq_true q3]
      refine vn (by omega) (vp (by omega) ?_)
      rw [e3]
      refine vb i3 ?_
      by_cases q4 : fidx c.1 p 0 ≥ 0
      ·
       refine vp q4 (vq (vs _) ?_)
       rw [decide_eq_false (fun hn => hn q4)]; rfl
      ·
       refine vn q4 ?_
       rw [decide_eq_true q4]
       simpa using hh
     ·
      rw [decide_eq_false q3]
      exact vp (by omega) (vs _)
 unfold impl_KindValid.f kvalid
 refine vb (impl_isSmallName_ev a (by omega)) ?_
 cases q1 : isSmall a with
 | false => exact vn (by simp) hbad
 | true =>
  refine vp rfl (vb (impl_isSmallName_ev b (by omega)) ?_)
  cases q2 : isSmall b with
  | false => exact vn (by simp) hbad
  | true =>
   refine vp rfl (vc ?_)
   simp only [impl_KindValid.j0, List.length_map]
   by_cases q3 : ps.length > 4
   ·
    refine vp (decide_eq_true (by omega)) (vq (vs _) ?_)
    rw [decide_eq_false (fun hn => hn q3)]; rfl
   ·
    refine vn (by simp; omega) ?_
    rw [decide_eq_true q3]
    have := key ps [] rfl
    simpa using this
theorem spec_l2Name_ev (l : Str) (hl : l.length ≤ 1000000000) : Ev (fun k => spec_l2Name.f k (ofL l)) (tvalid l && decide (l.length ≤ 40)) := by
 unfold spec_l2Name.f
 refine vb (spec_TextValid_ev l (by omega)) ?_
 cases q2 : tvalid l with
 | false => exact vn (by simp) (vs _)
 | true =>
  refine vp rfl (vq (vs _) ?_)
  rw [size_ofL, Bool.true_and]
  by_cases h1 : l.length ≤ 40
  ·
   rw [decide_eq_true h1]; exact decide_eq_true (by omega)
  ·
   rw [decide_eq_false h1]; exact decide_eq_false (by omega)
theorem spec_KindValid_ev (a b : Str) (ps : List (Str × Str)) (ha : a.length ≤ 1048576) (hb : b.length ≤ 1048576) (hz : szp ps ≤ 1048576) (hn : ps.length ≤ 1048576) : Ev (fun k => spec_KindValid.f k (ofL a) (ofL b) (ps.map e76)) (kvalid a b ps) := by
 have hs := small_of hz
 have hbad : Ev (fun k => spec_KindValid.j0 k true (ofL a) (ofL b) (ps.map e76)) false := by
  refine vc ?_
  simp only [spec_KindValid.j0]
  exact vp trivial (vs _)
 have key : ∀ (r p : List (Str × Str)), ps = p ++ r → Ev (fun k => spec_KindValid.l0 k (((a ++ [47] ++ b ++ ktail p : Str).length : Nat) : Int) (p.length : Int) (ofL a) (ofL b) (ps.map e76)) (kfl p r && decide ((ktext a b ps).length ≤ 150)) := by
  intro r
  induction r with
  | nil =>
   intro p h
   rw [List.append_nil] at h
   subst h
   refine vc ?_
   simp only [spec_KindValid.l0, kfl, Bool.true_and, List.length_map]
   refine vn (by omega) (vq (vs _) ?_)
   have e : a ++ [47] ++ b ++ ktail ps = ktext a b ps := rfl
   rw [e]
   by_cases h1 : (ktext a b ps).length ≤ 150
   ·
    rw [decide_eq_true h1]; exact decide_eq_true (by omega)
   ·
    rw [decide_eq_false h1]; exact decide_eq_false (by omega)
  | cons c r ih =>
   intro p h
   have hz2 := len_mid h
   have e1 := rd76_mid h
   have hc := hs c (by rw [h]; simp)
   have hh := ih (p ++ [c]) (by rw [h]; simp)
   rw [len_snoc] at hh
   have hp : (ktail p).length ≤ 20000000 := by
    have h1 := ktail_len p
    have h2 : szp p ≤ szp ps := by rw [h, szp_append]; omega
    omega
   have hq := qw_len c.2
   have hk := kpart_len c
   have i1 := spec_l7Word_ev c.1 (by omega)
   have i2 := spec_l2Name_ev c.2 (by omega)
   have i3 := spec_l3Find_ev p c.1 (small_take h hs) hc.1 (by omega)
   have i4 := spec_QuoteWord_ev c.2 (by omega)
   have e3 := take_map_mid h
   have en : (a ++ [47] ++ b ++ ktail (p ++ [c]) : Str).length = (a ++ [47] ++ b ++ ktail p : Str).length + 3 + c.1.length + (qw c.2).length := by
    rw [ktail_append]
    simp only [List.length_append, ktail, List.length_nil, hk]
    omega
   have hm : (a ++ [47] ++ b ++ ktail p : Str).length ≤ 30000000 := by
    simp only [List.length_append, List.length_cons, List.length_nil]; omega
   rw [en] at hh
   generalize (a ++ [47] ++ b ++ ktail p : Str).length = m at hh hm
   have w1 : Unit → wrap64 ((p.length : Int) + 1) = (p.length : Int) + 1 ∧ wrap64 (wrap64 (wrap64 ((m : Int) + 3) + (c.1.length : Int)) + ((qw c.2).length : Int)) = ((m + 3 + c.1.length + (qw c.2).length : Nat) : Int) := by
    intro _
    have x1 : wrap64 ((m : Int) + 3) = (m : Int) + 3 := wrap_id (by omega) (by omega)
    rw [x1]
    clear x1
    have x2 : wrap64 ((m : Int) + 3 + (c.1.length : Int)) = (m : Int) + 3 + (c.1.length : Int) := wrap_id (by omega) (by omega)
    rw [x2]
    clear x2
    exact ⟨wrap_id (by omega) (by omega), (wrap_id (by omega) (by omega)).trans (by omega)⟩
   refine vc ?_
   simp only [spec_KindValid.l0, kfl, e1, (w1 ()).1, e76, size_ofL, List.length_map, Int.toNat_natCast]
   refine vp (by omega) (vp (by omega) (vb i1 ?_))
   cases q1 : isSmall c.1 with
   | false => exact vn (by simp) (vs _)
   | true =>
    refine vp rfl (vb i2 ?_)
    cases q2 : (tvalid c.2 && decide (c.2.length ≤ 40)) with
    | false => exact vn (by simp) (vs _)
    | true =>
     refine vp rfl (vp (by omega) ?_)
     rw [e3]
     refine vb i3 ?_
     by_cases q4 : fidx c.1 p 0 ≥ 0
     ·
      refine vp q4 (vq (vs _) ?_)
      rw [decide_eq_false (fun hn => hn q4)]; rfl
     ·
      refine vn q4 (vb i4 ?_)
      rw [decide_eq_true q4]
      simp only [size_ofL, (w1 ()).2]
      simpa using hh
 unfold spec_KindValid.f kvalid
 refine vb (spec_l7Word_ev a (by omega)) ?_
 cases q1 : isSmall a with
 | false => exact vn (by simp) hbad
 | true =>
  refine vp rfl (vb (spec_l7Word_ev b (by omega)) ?_)
  cases q2 : isSmall b with
  | false => exact vn (by simp) hbad
  | true =>
   refine vp rfl (vc ?_)
   simp only [spec_KindValid.j0, List.length_map, size_ofL]
   by_cases q3 : ps.length > 4
   ·
    refine vp (decide_eq_true (by omega)) (vq (vs _) ?_)
    rw [decide_eq_false (fun hn => hn q3)]; rfl
   ·
    refine vn (by simp; omega) ?_
    rw [decide_eq_true q3]
    have := key ps [] rfl
    have x1 : wrap64 ((a.length : Int) + (b.length : Int)) = (a.length : Int) + (b.length : Int) := wrap_id (by omega) (by omega)
    rw [x1]
    clear x1
    have x2 : wrap64 ((a.length : Int) + (b.length : Int) + 1) = (((a ++ [47] ++ b ++ ktail [] : Str).length : Nat) : Int) := by
     refine (wrap_id (by omega) (by omega)).trans ?_
     simp only [ktail, List.length_append, List.length_cons, List.length_nil]
     omega
    rw [x2]
    simpa using this

theorem impl_isBoundary_1_eq (c : UInt8) : impl_isBoundary_1.f (c.toNat : Int) = some (alnB c) := by
 unfold impl_isBoundary_1.f alnB
 rw [impl_isLetter_eq, impl_isDigit_eq]
 cases letB c <;> simp
theorem impl_allBytes_isBoundary_1_ev (l : Str) (hl : l.length ≤ 1000000000000000) : Ev (fun k => impl_allBytes_isBoundary_1.f k (ofL l)) (l.all alnB) := by
 unfold impl_allBytes_isBoundary_1.f
 rw [size_ofL]
 refine vq (run_start (xs := l) (F := fun k (_ : Unit) i => impl_allBytes_isBoundary_1.l0 k (ofL l) (l.length : Int) i) (st := fun _ c => if alnB c = true then .inr () else .inl false) (fin := fun _ => true) (s := ()) (fun _ _ => True) trivial ?_ ?_) ?_
 ·
  intro p c r s h _
  have hz := len_mid h
  have e1 := bt_ofL_mid h
  have w1 : wrap64 ((p.length : Int) + 1) = (p.length : Int) + 1 := wrap_id (by omega) (by omega)
  simp only [impl_allBytes_isBoundary_1.l0, e1, w1, size_ofL]
  clear w1 e1
  cases e : alnB c with
  | true =>
   simp only [if_true]
   refine ⟨(fun v hv => by cases hv), fun s' hs => ⟨trivial, fun v hv => ?_⟩⟩
   refine vp (by omega) (vp (by omega) (vp (by omega) (ev_bind0 (impl_isBoundary_1_eq c) (vp e hv))))
  | false =>
   refine ⟨(fun v hv => ?_), fun s' hs => by simp at hs⟩
   simp only [Bool.false_eq_true, if_false, Sum.inl.injEq] at hv
   subst hv
   refine vp (by omega) (vp (by omega) (vp (by omega) (ev_bind0 (impl_isBoundary_1_eq c) (vn (by rw [e]; simp) (vs _)))))
 ·
  intro s _
  simp only [impl_allBytes_isBoundary_1.l0]
  exact vn (by omega) (vs _)
 ·
  clear hl
  induction l with
  | nil => rfl
  | cons c r ih =>
   unfold run
   cases e : alnB c with
   | true => simp [e, ih]
   | false => simp [e]
theorem impl_isBoundary_ev (l : Str) (hl : l.length ≤ 1000000000000000) : Ev (fun k => impl_isBoundary.f k (ofL l)) (isBd l) := by
 unfold impl_isBoundary.f isBd
 rw [size_ofL]
 by_cases h1 : 1 ≤ l.length
 ·
  rw [decide_eq_true h1]
  refine vp (by omega) ?_
  by_cases h2 : l.length ≤ 20
  ·
   rw [decide_eq_true h2]
   exact vp (by omega) (vb (impl_allBytes_isBoundary_1_ev l hl) (vs _))
  ·
   rw [decide_eq_false h2]
   exact vn (by omega) (vs _)
 ·
  rw [decide_eq_false h1]
  exact vn (by omega) (vs _)

theorem spec_l7Boundary_ev (l : Str) (hl : l.length ≤ 1000000000000000) : Ev (fun k => spec_l7Boundary.f k (ofL l)) (isBd l) := by
 unfold spec_l7Boundary.f
 have hj : Ev (fun k => spec_l7Boundary.j1 k (ofL l) (0 : Int) false) (decide (1 ≤ l.length) && decide (l.length ≤ 20)) := by
  refine vc ?_
  simp only [spec_l7Boundary.j1, size_ofL]
  by_cases h1 : 1 ≤ l.length
  ·
   rw [decide_eq_true h1]
   refine vn (by simp) (vp (by omega) (vq (vs _) ?_))
   rw [Bool.true_and]
   by_cases h2 : l.length ≤ 20
   ·
    rw [decide_eq_true h2]; exact decide_eq_true (by omega)
   ·
    rw [decide_eq_false h2]; exact decide_eq_false (by omega)
  ·
   rw [decide_eq_false h1]
   exact vn (by simp) (vn (by omega) (vs _))
 have hj' : ∀ i : Int, Ev (fun k => spec_l7Boundary.j1 k (ofL l) i false) (decide (1 ≤ l.length) && decide (l.length ≤ 20)) := by
  intro i
  obtain ⟨K, hK⟩ := hj
  refine ⟨K + 1, fun k hk => ?_⟩
  have := hK k (by omega)
  obtain ⟨m, rfl⟩ : ∃ m, k = m + 1 := ⟨k - 1, by omega⟩
  simp only [spec_l7Boundary.j1] at this ⊢
  exact this
 refine vq (run_start (xs := l) (F := fun k (_ : Nat) i => spec_l7Boundary.l0 k (ofL l) i) (st := fun n c => if n ≤ 20 then (if alnB c = true then .inr (n + 1) else .inl false) else .inl (decide (1 ≤ l.length) && decide (l.length ≤ 20))) (fin := fun _ => decide (1 ≤ l.length) && decide (l.length ≤ 20)) (s := 0) (fun p n => n = p.length) rfl ?_ ?_) ?_
 ·
  intro p c r n h hn
  subst hn
  have hz := len_mid h
  have e1 := bt_ofL_mid h
  have w1 : wrap64 ((p.length : Int) + 1) = (p.length : Int) + 1 := wrap_id (by omega) (by omega)
  by_cases h20 : p.length ≤ 20
  ·
   simp only [if_pos h20]
   have hd : decide ((p.length : Int) ≤ 20) = true := decide_eq_true (by omega)
   simp only [spec_l7Boundary.l0, hd, size_ofL]
   cases e : alnB c with
   | true =>
    simp only [if_true]
    refine ⟨(fun v hv => by cases hv), fun s' hs => ⟨?_, fun v hv => ?_⟩⟩
    ·
     cases hs; simp
    ·
     refine vp (by omega) (vc ?_)
     simp only [spec_l7Boundary.j1, e1, w1, size_ofL]
     clear w1 e1
     exact vp trivial (vp (by omega) (vp (by omega) (ev_bind0 (spec_l1Letter_eq c) (vp e hv))))
   | false =>
    refine ⟨(fun v hv => ?_), fun s' hs => by simp at hs⟩
    simp only [Bool.false_eq_true, if_false, Sum.inl.injEq] at hv
    subst hv
    refine vp (by omega) (vc ?_)
    simp only [spec_l7Boundary.j1, e1, w1, size_ofL]
    clear w1 e1
    exact vp trivial (vp (by omega) (vp (by omega) (ev_bind0 (spec_l1Letter_eq c) (vn (by rw [e]; simp) (vs _)))))
  ·
   simp only [if_neg h20]
   have hd : decide ((p.length : Int) ≤ 20) = false := decide_eq_false (by omega)
   refine ⟨(fun v hv => ?_), fun s' hs => by cases hs⟩
   cases hv
   simp only [spec_l7Boundary.l0, hd, size_ofL]
   clear w1 e1
   exact vp (by omega) (hj' _)
 ·
  intro s hs
  subst hs
  simp only [spec_l7Boundary.l0, size_ofL]
  exact vn (by omega) (hj' _)
 ·
  unfold isBd
  have key : ∀ (r : Str) (n : Nat), n + r.length = l.length → run (fun n c => if n ≤ 20 then (if alnB c = true then .inr (n + 1) else .inl false) else .inl (decide (1 ≤ l.length) && decide (l.length ≤ 20))) (fun _ => decide (1 ≤ l.length) && decide (l.length ≤ 20)) r n = (decide (1 ≤ l.length) && decide (l.length ≤ 20) && r.all alnB) := by
   intro r
   induction r with
   | nil => intro n _; simp [run]
   | cons c r ih =>
    intro n hn
    simp only [List.length_cons] at hn
    unfold run
    by_cases h20 : n ≤ 20
    ·
     simp only [if_pos h20]
     cases e : alnB c with
     | true => simp [e, ih (n + 1) (by omega)]
     | false => simp [e]
    ·
     simp only [if_neg h20]
     have : decide (l.length ≤ 20) = false := decide_eq_false (by omega)
     simp [this]
  exact key l 0 (by omega)

/-! The boundary of a kind. -/
def getF (ps : List (Str × Str)) (n : Str) : Str × Bool := if fidx n ps 0 < 0 then ([], false) else ((ps.getD (fidx n ps 0).toNat ([], [])).2, true)
def multi : Str := [109, 117, 108, 116, 105, 112, 97, 114, 116]
def bnd : Str := [98, 111, 117, 110, 100, 97, 114, 121]
def bOf (a b : Str) (ps : List (Str × Str)) : Str × Bool := if kvalid a b ps = true ∧ a = multi ∧ isBd (getF ps bnd).1 = true then ((getF ps bnd).1, true) else ([], false)
theorem getF_small (ps : List (Str × Str)) (n : Str) (hs : small ps) : (getF ps n).1.length ≤ 1048576 := by
 unfold getF
 split
 ·
  simp
 ·
  rw [List.getD_eq_getElem?_getD]
  cases e : ps[(fidx n ps 0).toNat]? with
  | none => simp
  | some x => exact (hs x (List.mem_of_getElem? e)).2
theorem rd76_getD (ps : List (Str × Str)) (i : Int) : (rd_T69 (ps.map e76) i).f1 = ofL ((ps.getD i.toNat ([], [])).2) := by
 unfold rd_T69
 rw [List.getD_eq_getElem?_getD, List.getD_eq_getElem?_getD, List.getElem?_map]
 cases ps[i.toNat]? with
 | none => rfl
 | some x => rfl
theorem impl_GetField_ev (ps : List (Str × Str)) (n : Str) (hs : small ps) (hn : n.length ≤ 1048576) (hl : ps.length ≤ 1048576) : Ev (fun k => impl_GetField.f k (ps.map e76) (ofL n)) (ofL (getF ps n).1, (getF ps n).2) := by
 unfold impl_GetField.f getF
 refine vb (impl_fieldPlace_ev ps n hs hn hl) ?_
 have hr := fidx_range n ps 0
 by_cases h : fidx n ps 0 < 0
 ·
  simp only [if_pos h]; exact vq (vs _) rfl
 ·
  simp only [if_neg h, List.length_map, rd76_getD]
  exact vp (by omega) (vp (by omega) (vs _))
theorem spec_GetField_ev (ps : List (Str × Str)) (n : Str) (hs : small ps) (hn : n.length ≤ 1048576) (hl : ps.length ≤ 1048576) : Ev (fun k => spec_GetField.f k (ps.map e76) (ofL n)) (ofL (getF ps n).1, (getF ps n).2) := by
 unfold spec_GetField.f getF
 refine vb (spec_l3Find_ev ps n hs hn hl) ?_
 have hr := fidx_range n ps 0
 by_cases h : fidx n ps 0 < 0
 ·
  simp only [if_pos h]; exact vq (vs _) rfl
 ·
  simp only [if_neg h, List.length_map, rd76_getD]
  exact vp (by omega) (vp (by omega) (vs _))
theorem getF_none (ps : List (Str × Str)) (n : Str) (h : (getF ps n).2 = false) : (getF ps n).1 = [] := by
 unfold getF at *
 split at h
 ·
  rename_i h1; rw [if_pos h1]
 ·
  cases h
theorem bnd_lit : (⟨#[98, 111, 117, 110, 100, 97, 114, 121]⟩ : ByteArray) = ofL bnd := rfl
theorem impl_BoundaryOf_ev (a b : Str) (ps : List (Str × Str)) (ha : a.length ≤ 1048576) (hb : b.length ≤ 1048576) (hz : szp ps ≤ 1048576) (hn : ps.length ≤ 1048576) : Ev (fun k => impl_BoundaryOf.f k (ofL a) (ofL b) (ps.map e76)) (ofL (bOf a b ps).1, (bOf a b ps).2) := by
 have hs := small_of hz
 have hg := getF_small ps bnd hs
 unfold impl_BoundaryOf.f
 refine vb (impl_KindValid_ev a b ps ha hb hz hn) ?_
 simp only [toList_ofL]
 have hbad : bOf a b ps = ([], false) → Ev (fun k => impl_BoundaryOf.j0 k true (ofL a) (ofL b) (ps.map e76)) (ofL (bOf a b ps).1, (bOf a b ps).2) := by
  intro e
  rw [e]
  refine vc ?_
  simp only [impl_BoundaryOf.j0]
  exact vp trivial (vq (vs _) rfl)
 cases e : kvalid a b ps with
 | false => exact vn (by simp) (hbad (by unfold bOf; rw [if_neg (by simp [e])]))
 | true =>
  refine vp rfl ?_
  by_cases hm : a = multi
  ·
   have e2 : (a != ([109, 117, 108, 116, 105, 112, 97, 114, 116] : List UInt8)) = false := by rw [hm]; decide
   rw [e2]
   refine vc ?_
   simp only [impl_BoundaryOf.j0, bnd_lit]
   refine vn (by simp) (vb (impl_GetField_ev ps bnd hs (by decide) (by omega)) (vb (impl_isBoundary_ev (getF ps bnd).1 (by omega)) ?_))
   cases e3 : isBd (getF ps bnd).1 with
   | true =>
    have hv : bOf a b ps = ((getF ps bnd).1, true) := by unfold bOf; rw [if_pos ⟨e, hm, e3⟩]
    rw [hv]; exact vp rfl (vs _)
   | false =>
    have hv : bOf a b ps = ([], false) := by unfold bOf; rw [if_neg (by rw [e3]; simp)]
    rw [hv]; exact vn (by simp) (vq (vs _) rfl)
  ·
   have e2 : (a != ([109, 117, 108, 116, 105, 112, 97, 114, 116] : List UInt8)) = true := by simpa [multi] using hm
   rw [e2]
   exact hbad (by unfold bOf; rw [if_neg (by simp [hm])])
theorem spec_BoundaryOf_ev (a b : Str) (ps : List (Str × Str)) (ha : a.length ≤ 1048576) (hb : b.length ≤ 1048576) (hz : szp ps ≤ 1048576) (hn : ps.length ≤ 1048576) : Ev (fun k => spec_BoundaryOf.f k (ofL a) (ofL b) (ps.map e76)) (ofL (bOf a b ps).1, (bOf a b ps).2) := by
 have hs := small_of hz
 have hg := getF_small ps bnd hs
 unfold spec_BoundaryOf.f
 simp only [bnd_lit, toList_ofL]
 refine vb (spec_GetField_ev ps bnd hs (by decide) (by omega)) (vb (spec_KindValid_ev a b ps ha hb hz hn) ?_)
 cases e : kvalid a b ps with
 | false =>
  have hv : bOf a b ps = ([], false) := by unfold bOf; rw [if_neg (by rw [e]; simp)]
  rw [hv]; exact vn (by simp) (vq (vs _) rfl)
 | true =>
  refine vp rfl ?_
  by_cases hm : a = multi
  ·
   refine vp hm ?_
   cases e4 : (getF ps bnd).2 with
   | false =>
    have := getF_none ps bnd e4
    have hv : bOf a b ps = ([], false) := by unfold bOf; rw [if_neg (by rw [this]; simp [isBd])]
    rw [hv]; exact vn (by simp) (vq (vs _) rfl)
   | true =>
    refine vp rfl (vb (spec_l7Boundary_ev (getF ps bnd).1 (by omega)) ?_)
    cases e3 : isBd (getF ps bnd).1 with
    | true =>
     have hv : bOf a b ps = ((getF ps bnd).1, true) := by unfold bOf; rw [if_pos ⟨e, hm, e3⟩]
     rw [hv]; exact vp rfl (vs _)
    | false =>
     have hv : bOf a b ps = ([], false) := by unfold bOf; rw [if_neg (by rw [e3]; simp)]
     rw [hv]; exact vn (by simp) (vq (vs _) rfl)
  ·
   have hv : bOf a b ps = ([], false) := by unfold bOf; rw [if_neg (by simp [hm])]
   rw [hv]; exact vn hm (vq (vs _) rfl)

/-! Kinds parsed: the model. -/
def rdq : Str → Option (Str × Str)
 | [] => none
 | c :: r => if c = 34 then some ([], r) else if c = 92 then (match r with
   | [] => none
   | d :: t => (rdq t).map fun q => (d :: q.1, q.2)) else (rdq r).map fun q => (c :: q.1, q.2)
theorem rdq_cons (c : UInt8) (r : Str) : rdq (c :: r) = if c = 34 then some ([], r) else if c = 92 then (match r with
   | [] => none
   | d :: t => (rdq t).map fun q => (d :: q.1, q.2)) else (rdq r).map fun q => (c :: q.1, q.2) := by rw [rdq.eq_def]; rfl
def nq (q : Nat) (c : UInt8) : Nat := if q = 2 then 1 else if q = 1 then (if c = 34 then 0 else if c = 92 then 2 else 1) else (if c = 34 then 1 else 0)
def cut0 (b : UInt8) : Nat → Str → Option (Str × Str)
 | _, [] => none
 | q, c :: r => if q = 0 ∧ c = b then some ([], r) else (cut0 b (nq q c) r).map fun x => (c :: x.1, x.2)
def hd1 (c : UInt8) : List Str → List Str
 | [] => [[c]]
 | x :: r => (c :: x) :: r
def parts (b : UInt8) : Nat → Str → List Str
 | _, [] => [[]]
 | q, c :: r => if q = 0 ∧ c = b then [] :: parts b 0 r else hd1 c (parts b (nq q c) r)
theorem rdq_suf (b : UInt8) : ∀ (n : Nat) (r w t : Str), r.length ≤ n → rdq r = some (w, t) → ∃ m, r = m ++ t ∧ w.length < m.length ∧ cut0 b 1 r = (cut0 b 0 t).map fun x => (m ++ x.1, x.2) := by
 intro n
 induction n with
 | zero => intro r w t h h2; cases r with
  | nil => cases h2
  | cons c r => simp at h
 | succ n ih =>
  intro r w t h h2
  cases r with
  | nil => cases h2
  | cons c r =>
   simp only [List.length_cons] at h
   rw [rdq_cons] at h2
   by_cases c1 : c = 34
   ·
    rw [if_pos c1] at h2
    cases h2
    refine ⟨[c], rfl, by simp, ?_⟩
    rw [cut0, if_neg (by simp), c1]
    rfl
   ·
    rw [if_neg c1] at h2
    by_cases c2 : c = 92
    ·
     rw [if_pos c2] at h2
     cases r with
     | nil => cases h2
     | cons d r =>
      simp only [List.length_cons] at h
      simp only [Option.map_eq_some_iff] at h2
      obtain ⟨⟨w1, t1⟩, e1, e2⟩ := h2
      cases e2
      obtain ⟨m, e3, e4, e5⟩ := ih r w1 t1 (by omega) e1
      refine ⟨c :: d :: m, by rw [e3]; rfl, by simp only [List.length_cons]; omega, ?_⟩
      rw [cut0, if_neg (by simp), c2, cut0, if_neg (by simp [nq])]
      have : nq (nq 1 92) d = 1 := by simp [nq]
      rw [this, e5]
      cases cut0 b 0 t1 <;> rfl
    ·
     rw [if_neg c2] at h2
     simp only [Option.map_eq_some_iff] at h2
     obtain ⟨⟨w1, t1⟩, e1, e2⟩ := h2
     cases e2
     obtain ⟨m, e3, e4, e5⟩ := ih r w1 t1 (by omega) e1
     refine ⟨c :: m, by rw [e3]; rfl, by simp only [List.length_cons]; omega, ?_⟩
     have : nq 1 c = 1 := by simp [nq, c1, c2]
     rw [cut0, if_neg (by simp), this, e5]
     cases cut0 b 0 t1 <;> rfl
theorem rdq_none (b : UInt8) : ∀ (n : Nat) (r : Str), r.length ≤ n → rdq r = none → cut0 b 1 r = none := by
 intro n
 induction n with
 | zero => intro r h h2; cases r with
  | nil => rfl
  | cons c r => simp at h
 | succ n ih =>
  intro r h h2
  cases r with
  | nil => rfl
  | cons c r =>
   simp only [List.length_cons] at h
   rw [rdq_cons] at h2
   by_cases c1 : c = 34
   ·
    rw [if_pos c1] at h2; cases h2
   ·
    rw [if_neg c1] at h2
    by_cases c2 : c = 92
    ·
     rw [if_pos c2] at h2
     cases r with
     | nil => rw [cut0, if_neg (by simp)]; rfl
     | cons d r =>
      simp only [List.length_cons] at h
      simp only [Option.map_eq_none_iff] at h2
      rw [cut0, if_neg (by simp), c2, cut0, if_neg (by simp [nq])]
      have : nq (nq 1 92) d = 1 := by simp [nq]
      rw [this, ih r (by omega) h2]; rfl
    ·
     rw [if_neg c2] at h2
     simp only [Option.map_eq_none_iff] at h2
     have : nq 1 c = 1 := by simp [nq, c1, c2]
     rw [cut0, if_neg (by simp), this, ih r (by omega) h2]; rfl
theorem cut0_eq (b : UInt8) (s : Str) : ∀ (q : Nat) (x t : Str), cut0 b q s = some (x, t) → s = x ++ b :: t := by
 induction s with
 | nil => intro q x t h; cases h
 | cons c r ih =>
  intro q x t h
  rw [cut0] at h
  split at h
  ·
   rename_i hc; cases h; rw [hc.2]; rfl
  ·
   simp only [Option.map_eq_some_iff] at h
   obtain ⟨⟨w1, t1⟩, e1, e2⟩ := h
   cases e2
   rw [ih _ _ _ e1]; rfl
theorem parts_cut (b : UInt8) (s : Str) : ∀ q : Nat, parts b q s = match cut0 b q s with
  | none => [s]
  | some x => x.1 :: parts b 0 x.2 := by
 induction s with
 | nil => intro q; rfl
 | cons c r ih =>
  intro q
  rw [parts, cut0]
  by_cases h : q = 0 ∧ c = b
  ·
   rw [if_pos h, if_pos h]
  ·
   rw [if_neg h, if_neg h, ih]
   cases cut0 b (nq q c) r <;> rfl
theorem parts_len (b : UInt8) (s : Str) : ∀ q : Nat, 1 ≤ (parts b q s).length ∧ (parts b q s).length ≤ s.length + 1 := by
 induction s with
 | nil => intro q; exact ⟨Nat.le_refl _, Nat.le_refl _⟩
 | cons c r ih =>
  intro q
  rw [parts]
  split
  ·
   have := ih 0; simp only [List.length_cons]; omega
  ·
   have := ih (nq q c)
   cases e : parts b (nq q c) r with
   | nil => rw [e] at this; simp at this
   | cons y l => rw [e] at this; simp only [hd1, List.length_cons] at this ⊢; omega
/-- Each part is a piece of the text. -/
theorem parts_mem (b : UInt8) (s : Str) : ∀ (q : Nat) (x : Str), x ∈ parts b q s → x.length ≤ s.length ∧ ∀ c ∈ x, c ∈ s := by
 induction s with
 | nil => intro q x h; simp only [parts, List.mem_singleton] at h; subst h; simp
 | cons c r ih =>
  intro q x h
  rw [parts] at h
  split at h
  ·
   rcases List.mem_cons.mp h with rfl | h
   ·
    simp
   ·
    obtain ⟨h1, h2⟩ := ih _ x h
    exact ⟨by simp only [List.length_cons]; omega, fun d hd => List.mem_cons_of_mem _ (h2 d hd)⟩
  ·
   cases e : parts b (nq q c) r with
   | nil => have := parts_len b r (nq q c); rw [e] at this; simp at this
   | cons y l =>
    rw [e, hd1] at h
    rcases List.mem_cons.mp h with rfl | h
    ·
     obtain ⟨h1, h2⟩ := ih (nq q c) y (by rw [e]; simp)
     refine ⟨by simp only [List.length_cons]; omega, fun d hd => ?_⟩
     rcases List.mem_cons.mp hd with rfl | hd
     ·
      simp
     ·
      exact List.mem_cons_of_mem _ (h2 d hd)
    ·
     obtain ⟨h1, h2⟩ := ih (nq q c) x (by rw [e]; exact List.mem_cons_of_mem _ h)
     exact ⟨by simp only [List.length_cons]; omega, fun d hd => List.mem_cons_of_mem _ (h2 d hd)⟩
/-! Words. -/
def wds : Nat → Bool → Str → Option (List Str)
 | 0, _, _ => none
 | _ + 1, _, [] => some []
 | n + 1, a, c :: r => if c = 32 then wds n true r else if a = false then none else if c = 34 then (match rdq r with
   | none => none
   | some q => (wds n false q.2).map (q.1 :: ·)) else if (c :: r).takeWhile atB = [] then none else (wds n false ((c :: r).dropWhile atB)).map ((c :: r).takeWhile atB :: ·)
def words (s : Str) : Option (List Str) := wds (s.length + 1) true s
/-! Cut at a byte. -/
def cutB (b : UInt8) : Str → Option (Str × Str)
 | [] => none
 | c :: r => if c = b then some ([], r) else (cutB b r).map fun x => (c :: x.1, x.2)
theorem cutB_eq (b : UInt8) (s : Str) : ∀ (x t : Str), cutB b s = some (x, t) → s = x ++ b :: t := by
 induction s with
 | nil => intro x t h; cases h
 | cons c r ih =>
  intro x t h
  rw [cutB] at h
  split at h
  ·
   rename_i hc; cases h; rw [hc]; rfl
  ·
   simp only [Option.map_eq_some_iff] at h
   obtain ⟨⟨w1, t1⟩, e1, e2⟩ := h
   cases e2
   rw [ih _ _ e1]; rfl
theorem index_B (b : UInt8) (s : Str) : Lib.index s [b] = match cutB b s with
  | none => -1
  | some x => (x.1.length : Int) := by
 induction s with
 | nil => rfl
 | cons c r ih =>
  rw [Lib.index, cutB]
  by_cases h : c = b
  ·
   rw [if_pos (by simp [List.isPrefixOf, h]), if_pos h]; rfl
  ·
   rw [if_neg (by simp only [List.isPrefixOf, Bool.and_true, beq_iff_eq]; exact fun e => h e.symm), if_neg h, ih]
   cases e : cutB b r with
   | none => rfl
   | some q =>
    simp only [Option.map_some, List.length_cons]
    rw [if_neg (by simp)]
    rfl
theorem cut_B (b : UInt8) (s : Str) : Lib.cut s [b] = match cutB b s with
  | none => (s, [], false)
  | some x => (x.1, x.2, true) := by
 unfold Lib.cut
 rw [index_B]
 cases e : cutB b s with
 | none => rfl
 | some q =>
  obtain ⟨x, t⟩ := q
  have := cutB_eq b s x t e
  simp only
  rw [if_pos (by omega)]
  subst this
  simp
def trim (l : Str) : Str := Lib.trimB l 32
theorem dropWhile_suf (p : UInt8 → Bool) (l : Str) : ∃ m, l = m ++ l.dropWhile p ∧ ∀ c ∈ m, p c = true := by
 induction l with
 | nil => exact ⟨[], rfl, by simp⟩
 | cons c r ih =>
  cases e : p c with
  | true =>
   obtain ⟨m, h1, h2⟩ := ih
   refine ⟨c :: m, by simp [List.dropWhile, e]; exact h1, fun d hd => ?_⟩
   rcases List.mem_cons.mp hd with rfl | hd
   ·
    exact e
   ·
    exact h2 d hd
  | false => exact ⟨[], by simp [List.dropWhile, e], by simp⟩
/-- What is trimmed: spaces ahead and behind. -/
theorem trim_split (l : Str) : ∃ i j, l = List.replicate i 32 ++ trim l ++ List.replicate j 32 := by
 unfold trim Lib.trimB Lib.trimLeftB Lib.trimRightB
 have rep : ∀ m : Str, (∀ c ∈ m, (c == 32) = true) → m = List.replicate m.length 32 := fun m h => List.eq_replicate_iff.mpr ⟨rfl, fun c hc => by simpa using h c hc⟩
 obtain ⟨m, h1, h2⟩ := dropWhile_suf (· == 32) l.reverse
 obtain ⟨m2, h3, h4⟩ := dropWhile_suf (· == 32) (l.reverse.dropWhile (· == 32)).reverse
 refine ⟨m2.length, m.length, ?_⟩
 rw [← rep m2 h4, ← h3]
 have e : m.reverse = List.replicate m.length 32 := by
  have := rep m.reverse (fun c hc => h2 c (List.mem_reverse.mp hc))
  rwa [List.length_reverse] at this
 rw [← e, ← List.reverse_append, ← h1, List.reverse_reverse]
theorem trim_len (l : Str) : (trim l).length ≤ l.length := by
 obtain ⟨i, j, h⟩ := trim_split l
 have := congrArg List.length h
 simp only [List.length_append] at this
 omega
theorem mem_trim (l : Str) (c : UInt8) (hc : c ∈ l) (h32 : c ≠ 32) : c ∈ trim l := by
 obtain ⟨i, j, h⟩ := trim_split l
 rw [h] at hc
 simp only [List.mem_append, List.mem_replicate] at hc
 rcases hc with (⟨_, h⟩ | h) | ⟨_, h⟩
 ·
  exact absurd h h32
 ·
  exact h
 ·
  exact absurd h h32
theorem trim_cons (l : Str) : trim (32 :: l) = trim l := by
 unfold trim Lib.trimB Lib.trimLeftB Lib.trimRightB
 rw [List.reverse_cons, List.dropWhile_append]
 split
 ·
  rename_i h
  have : l.reverse.dropWhile (· == 32) = [] := by simpa using h
  rw [this]; rfl
 ·
  rw [List.reverse_append]; simp
/-- One parameter; all of them; a kind. -/
def par1 (s : Str) : Option (Str × Str) := match cutB 61 s with
 | none => none
 | some x => match words x.2 with
  | some [w] => some (low (trim x.1), w)
  | _ => none
def pars : List Str → Option (List (Str × Str))
 | [] => some []
 | s :: r => match par1 s with
  | none => none
  | some x => (pars r).map (x :: ·)
def pkO (o : Option (Str × Str)) (ps : Option (List (Str × Str))) : Option (Str × Str × List (Str × Str)) := match o, ps with
 | some x, some ps => if kvalid (low x.1) (low x.2) ps = true then some (low x.1, low x.2, ps) else none
 | _, _ => none
def pk (s : Str) : Option (Str × Str × List (Str × Str)) := if tvalid s = true then pkO (cutB 47 (trim ((parts 59 0 s).headD []))) (pars ((parts 59 0 s).drop 1)) else none

/-! Kinds parsed: the program. -/
theorem u8_inj (c b : UInt8) : ((c.toNat : Int) = (b.toNat : Int)) ↔ c = b := by
 constructor
 ·
  intro e; exact UInt8.toNat_inj.mp (by omega)
 ·
  intro e; rw [e]
def qres (L : Nat) (acc : Str) : Option (Str × Str) → ByteArray × Int × Bool
 | none => (ofL [], 0, false)
 | some q => (ofL (acc ++ q.1), ((L - q.2.length : Nat) : Int), true)
theorem impl_quoted_loop (l : Str) (hl : l.length ≤ 1048576) : ∀ (n : Nat) (r p acc : Str), r.length ≤ n → l = p ++ r → acc.length ≤ p.length → Ev (fun k => impl_quoted.l0 k (ofL l) (zn acc) (p.length : Int)) (qres l.length acc (rdq r)) := by
 intro n
 induction n with
 | zero =>
  intro r p acc h h2 h3
  have : r = [] := List.length_eq_zero_iff.mp (by omega)
  subst this
  rw [List.append_nil] at h2
  subst h2
  refine vc ?_
  simp only [impl_quoted.l0, size_ofL]
  exact vn (by omega) (vq (vs _) rfl)
 | succ n ih =>
  intro r p acc h h2 h3
  cases r with
  | nil =>
   rw [List.append_nil] at h2
   subst h2
   refine vc ?_
   simp only [impl_quoted.l0, size_ofL]
   exact vn (by omega) (vq (vs _) rfl)
  | cons c r =>
   simp only [List.length_cons] at h
   have hz := len_mid h2
   have e1 := bt_ofL_mid h2
   have w1 : wrap64 ((p.length : Int) + 1) = ((p.length + 1 : Nat) : Int) := (wrap_id (by omega) (by omega)).trans (by omega)
   have h34 : (c.toNat : Int) = 34 ↔ c = 34 := u8_eq c 34 (by omega)
   have h92 : (c.toNat : Int) = 92 ↔ c = 92 := u8_eq c 92 (by omega)
   refine vc ?_
   simp only [impl_quoted.l0, e1, w1, size_ofL, zn_length]
   clear e1 w1
   rw [rdq_cons]
   refine vp (by omega) (vp (by omega) ?_)
   by_cases c1 : (c.toNat : Int) = 34
   ·
    refine vp c1 (vq (vs _) ?_)
    rw [if_pos (h34.mp c1), qres, strOfNums_zn, show l.length - r.length = p.length + 1 by omega]
    simp
   ·
    refine vn c1 ?_
    rw [if_neg (fun hh => c1 (h34.mpr hh))]
    by_cases c2 : (c.toNat : Int) = 92
    ·
     refine vp c2 ?_
     rw [if_pos (h92.mp c2)]
     cases r with
     | nil =>
      simp only [List.length_nil] at hz
      exact vp (by omega) (vq (vs _) rfl)
     | cons d r =>
      simp only [List.length_cons] at h hz
      have e2 : bt (ofL l) ((p.length + 1 : Nat) : Int) = (d.toNat : Int) := by
       have := bt_ofL_mid (l := l) (p := p ++ [c]) (c := d) (r := r) (by rw [h2]; simp)
       rwa [List.length_append] at this
      have w2 : wrap64 (((p.length + 1 : Nat) : Int) + 1) = ((p.length + 2 : Nat) : Int) := (wrap_id (by omega) (by omega)).trans (by omega)
      have := ih r (p ++ [c, d]) (acc ++ [d]) (by omega) (by rw [h2]; simp) (by simp; omega)
      rw [zn_append, List.length_append] at this
      have e3 : ([(d.toNat : Int)] : List Int) = zn [d] := rfl
      rw [e2, w2, e3]
      clear e2 w2
      refine vn (by omega) (vp (by omega) (vp (by omega) (vp (by omega) (vq this ?_))))
      show _ = qres l.length acc ((rdq r).map fun q => (d :: q.1, q.2))
      cases rdq r with
      | none => rfl
      | some q => simp [qres]
    ·
     refine vn c2 ?_
     rw [if_neg (fun hh => c2 (h92.mpr hh))]
     have := ih r (p ++ [c]) (acc ++ [c]) (by omega) (by rw [h2]; simp) (by simp; omega)
     rw [zn_append, List.length_append] at this
     have e3 : ([(c.toNat : Int)] : List Int) = zn [c] := rfl
     rw [e3]
     refine vp (by omega) (vq this ?_)
     cases rdq r with
     | none => rfl
     | some q => simp [qres]
theorem impl_quoted_ev (c : UInt8) (r : Str) (hl : r.length ≤ 1048575) : Ev (fun k => impl_quoted.f k (ofL (c :: r))) (qres (r.length + 1) [] (rdq r)) := impl_quoted_loop (c :: r) (by simp only [List.length_cons]; omega) r.length r [c] [] (Nat.le_refl _) rfl (by simp)
def ores (p : Nat) : Option (Str × Str) → Int
 | none => -1
 | some q => ((p + q.1.length : Nat) : Int)
theorem drop_mid {l p r : Str} (h : l = p ++ r) : l.drop p.length = r := by rw [h, List.drop_left]
theorem impl_outside_loop (l : Str) (b : UInt8) (hb : b ≠ 34) (hl : l.length ≤ 1048576) : ∀ (n : Nat) (r p : Str), r.length ≤ n → l = p ++ r → Ev (fun k => impl_outside.l0 k (ofL l) (b.toNat : Int) (p.length : Int)) (ores p.length (cut0 b 0 r)) := by
 intro n
 induction n with
 | zero =>
  intro r p h h2
  have : r = [] := List.length_eq_zero_iff.mp (by omega)
  subst this
  rw [List.append_nil] at h2
  subst h2
  refine vc ?_
  simp only [impl_outside.l0, size_ofL]
  exact vn (by omega) (vq (vs _) rfl)
 | succ n ih =>
  intro r p h h2
  cases r with
  | nil =>
   rw [List.append_nil] at h2
   subst h2
   refine vc ?_
   simp only [impl_outside.l0, size_ofL]
   exact vn (by omega) (vq (vs _) rfl)
  | cons c r =>
   simp only [List.length_cons] at h
   have hz := len_mid h2
   have e1 := bt_ofL_mid h2
   have w1 : wrap64 ((p.length : Int) + 1) = ((p.length + 1 : Nat) : Int) := (wrap_id (by omega) (by omega)).trans (by omega)
   have h34 : (c.toNat : Int) = 34 ↔ c = 34 := u8_eq c 34 (by omega)
   have hbb := u8_inj c b
   have ex : (ofL l).extract (p.length : Int).toNat l.length = ofL (c :: r) := by
    rw [Int.toNat_natCast, extract_ofL, drop_mid h2, List.take_of_length_le (by simp only [List.length_cons]; omega)]
   refine vc ?_
   simp only [impl_outside.l0, e1, w1, size_ofL, ex]
   clear e1 w1 ex
   rw [cut0]
   refine vp (by omega) (vp (by omega) ?_)
   by_cases c1 : (c.toNat : Int) = 34
   ·
    have hc := h34.mp c1
    refine vp c1 (vp (by omega) (vb (impl_quoted_ev c r (by omega)) ?_))
    rw [if_neg (by intro hh; exact hb (hh.2.symm.trans hc)), show nq 0 c = 1 by rw [hc]; rfl]
    cases e : rdq r with
    | none => rw [rdq_none b r.length r (Nat.le_refl _) e]; exact vn (by simp [qres]) (vq (vs _) rfl)
    | some q =>
     obtain ⟨w, t⟩ := q
     obtain ⟨m, h3, h4, h5⟩ := rdq_suf b r.length r w t (Nat.le_refl _) e
     have hm : r.length = m.length + t.length := by rw [h3, List.length_append]
     have := ih t (p ++ c :: m) (by omega) (by rw [h2, h3]; simp)
     refine vp rfl ?_
     simp only [qres]
     have w2 : wrap64 (((r.length + 1 - t.length : Nat) : Int) - 1) = (m.length : Int) := (wrap_id (by omega) (by omega)).trans (by omega)
     rw [w2]
     clear w2
     have w3 : wrap64 ((p.length : Int) + (m.length : Int)) = ((p.length + m.length : Nat) : Int) := (wrap_id (by omega) (by omega)).trans (by omega)
     rw [w3]
     clear w3
     have w4 : wrap64 (((p.length + m.length : Nat) : Int) + 1) = ((p ++ c :: m).length : Int) := (wrap_id (by omega) (by omega)).trans (by simp only [List.length_append, List.length_cons]; omega)
     rw [w4, h5]
     clear w4
     refine vq this ?_
     cases cut0 b 0 t with
     | none => rfl
     | some x => simp only [Option.map_some, ores, List.length_append, List.length_cons]; omega
   ·
    refine vn c1 ?_
    have hc : ¬ c = 34 := fun hh => c1 (h34.mpr hh)
    by_cases c2 : c = b
    ·
     rw [if_pos ⟨rfl, c2⟩]
     exact vp (hbb.mpr c2) (vq (vs _) (by simp [ores]))
    ·
     rw [if_neg (fun hh => c2 hh.2), show nq 0 c = 0 by simp [nq, hc]]
     have := ih r (p ++ [c]) (by omega) (by rw [h2]; simp)
     rw [List.length_append] at this
     refine vn (fun hh => c2 (hbb.mp hh)) (vq this ?_)
     cases cut0 b 0 r with
     | none => rfl
     | some x => simp only [Option.map_some, ores, List.length_append, List.length_cons, List.length_nil]; omega
theorem impl_outside_ev (l : Str) (b : UInt8) (hb : b ≠ 34) (hl : l.length ≤ 1048576) : Ev (fun k => impl_outside.f k (ofL l) (b.toNat : Int)) (ores 0 (cut0 b 0 l)) := impl_outside_loop l b hb hl l.length l [] (Nat.le_refl _) rfl
theorem impl_splitOutside_loop (b : UInt8) (hb : b ≠ 34) : ∀ (n : Nat) (s : Str) (acc : List Str), s.length ≤ n → s.length + acc.length ≤ 1048576 → Ev (fun k => impl_splitOutside.l0 k (ofL s) (b.toNat : Int) (acc.map ofL)) ((acc ++ parts b 0 s).map ofL) := by
 intro n
 induction n with
 | zero =>
  intro s acc h h2
  have : s = [] := List.length_eq_zero_iff.mp (by omega)
  subst this
  refine vc ?_
  simp only [impl_splitOutside.l0, List.length_map]
  refine vb (impl_outside_ev [] b hb (by simp)) (vp (by simp [cut0, ores]) (vp (by simp at h2; omega) (vq (vs _) ?_)))
  simp [parts]
 | succ n ih =>
  intro s acc h h2
  refine vc ?_
  simp only [impl_splitOutside.l0, List.length_map, size_ofL]
  refine vb (impl_outside_ev s b hb (by omega)) ?_
  rw [parts_cut]
  cases e : cut0 b 0 s with
  | none => exact vp (by simp [ores]) (vp (by omega) (vq (vs _) (by simp)))
  | some q =>
   obtain ⟨x, t⟩ := q
   have hs := cut0_eq b s 0 x t e
   have hz : s.length = x.length + (t.length + 1) := by rw [hs]; simp
   have := ih t (acc ++ [x]) (by omega) (by simp; omega)
   have w1 : wrap64 ((x.length : Int) + 1) = ((x.length + 1 : Nat) : Int) := (wrap_id (by omega) (by omega)).trans (by omega)
   simp only [ores, Nat.zero_add, w1, Int.toNat_natCast, extract_ofL, List.drop_zero, Nat.sub_zero]
   have e1 : s.take x.length = x := by rw [hs, List.take_left]
   have e2 : (s.drop (x.length + 1)).take (s.length - (x.length + 1)) = t := by
    rw [List.take_of_length_le (by simp), hs, ← List.drop_drop, List.drop_left]; rfl
   rw [e1, e2]
   clear w1
   refine vn (by omega) (vp (by omega) (vp (by omega) (vp (by omega) (vp (by omega) (vp (by omega) (vq (r := ((acc ++ [x] ++ parts b 0 t).map ofL)) ?_ (by simp)))))))
   simpa using this
theorem impl_splitOutside_ev (s : Str) (hs : s.length ≤ 1048576) : Ev (fun k => impl_splitOutside.f k (ofL s) 59) ((parts 59 0 s).map ofL) := by
 have := impl_splitOutside_loop 59 (by decide) s.length s [] (Nat.le_refl _) (by simpa using hs)
 unfold impl_splitOutside.f
 simpa using this

def wres (acc : List Str) : Option (List Str) → List ByteArray × Bool
 | none => ([], false)
 | some ws => ((acc ++ ws).map ofL, true)
/-- The run of an atom, from its begin. -/
theorem impl_SplitWords_run (l : Str) (acc : List Str) (hl : l.length ≤ 1048576) (ha : acc.length ≤ 1048576) (p : Str) (v : List ByteArray × Bool) : ∀ (r a : Str), l = p ++ (a ++ r) → a.all atB = true →
  (a ++ r.takeWhile atB = [] → v = ([], false)) →
  (a ++ r.takeWhile atB ≠ [] → Ev (fun k => impl_SplitWords.l0 k (ofL l) ((acc ++ [a ++ r.takeWhile atB]).map ofL) (((p ++ (a ++ r.takeWhile atB)).length : Nat) : Int) false) v) →
  Ev (fun k => impl_SplitWords.l1 k (ofL l) (acc.map ofL) (p.length : Int) (((p ++ a).length : Nat) : Int)) v := by
 intro r
 induction r with
 | nil =>
  intro a h h2 h3 h4
  have hz : l.length = p.length + a.length := by rw [h]; simp
  have hpa : (p ++ a).length = p.length + a.length := by simp
  simp only [List.takeWhile_nil, List.append_nil] at h3 h4
  refine vc ?_
  simp only [impl_SplitWords.l1, size_ofL, List.length_map]
  refine vn (by omega) ?_
  by_cases e : a = []
  ·
   rw [h3 e]; subst e; exact vp (by simp) (vs _)
  ·
   have hne : 0 < a.length := List.length_pos_iff.mpr e
   have ex : (ofL l).extract (p.length : Int).toNat (((p ++ a).length : Nat) : Int).toNat = ofL a := by
    rw [Int.toNat_natCast, Int.toNat_natCast, extract_ofL, drop_mid h, hpa, List.append_nil]
    rw [List.take_of_length_le (by omega)]
   rw [ex]
   have := h4 e
   rw [List.map_append, List.map_singleton] at this
   exact vn (by omega) (vp (by omega) (vp (by omega) (vp (by omega) (vp (by omega) this))))
 | cons c r ih =>
  intro a h h2 h3 h4
  have hz : l.length = p.length + (a.length + (r.length + 1)) := by rw [h]; simp
  have hpa : (p ++ a).length = p.length + a.length := by simp
  have e1 : bt (ofL l) (((p ++ a).length : Nat) : Int) = (c.toNat : Int) := bt_ofL_mid (l := l) (p := p ++ a) (c := c) (r := r) (by rw [h]; simp)
  have w1 : wrap64 ((((p ++ a).length : Nat) : Int) + 1) = ((p ++ (a ++ [c])).length : Int) := (wrap_id (by omega) (by omega)).trans (by simp only [List.length_append, List.length_cons, List.length_nil]; omega)
  refine vc ?_
  simp only [impl_SplitWords.l1, size_ofL, List.length_map, e1, w1]
  clear e1 w1
  refine vp (by omega) (vp (by omega) (ev_bind0 (impl_isAtomByte_eq c) ?_))
  cases e : atB c with
  | true =>
   refine vp rfl ?_
   have ec : a ++ (c :: r).takeWhile atB = a ++ [c] ++ r.takeWhile atB := by simp [List.takeWhile, e]
   refine ih (a ++ [c]) (by rw [h]; simp) (by simp [h2, e]) (fun hh => h3 (by rw [ec]; exact hh)) (fun hh => ?_)
   have := h4 (by rw [ec]; exact hh)
   rwa [ec] at this
  | false =>
   have et : (c :: r).takeWhile atB = [] := by simp [List.takeWhile, e]
   rw [et, List.append_nil] at h3 h4
   refine vn (by simp) ?_
   by_cases e : a = []
   ·
    rw [h3 e]; subst e; exact vp (by simp) (vs _)
   ·
    have hne : 0 < a.length := List.length_pos_iff.mpr e
    have ex : (ofL l).extract (p.length : Int).toNat (((p ++ a).length : Nat) : Int).toNat = ofL a := by
     rw [Int.toNat_natCast, Int.toNat_natCast, extract_ofL, drop_mid h, hpa, show p.length + a.length - p.length = a.length by omega, List.take_left]
    rw [ex]
    have := h4 e
    rw [List.map_append, List.map_singleton] at this
    exact vn (by omega) (vp (by omega) (vp (by omega) (vp (by omega) (vp (by omega) this))))
theorem split_while (p : UInt8 → Bool) (l : Str) : l.takeWhile p ++ l.dropWhile p = l := List.takeWhile_append_dropWhile
theorem impl_SplitWords_loop (l : Str) (hl : l.length ≤ 1048576) : ∀ (n : Nat) (r p : Str) (acc : List Str) (a : Bool), r.length < n → l = p ++ r → acc.length ≤ p.length → Ev (fun k => impl_SplitWords.l0 k (ofL l) (acc.map ofL) (p.length : Int) a) (wres acc (wds n a r)) := by
 intro n
 induction n with
 | zero => intro r p acc a h; omega
 | succ n ih =>
  intro r p acc a h h2 h3
  refine vc ?_
  cases r with
  | nil =>
   rw [List.append_nil] at h2
   subst h2
   simp only [impl_SplitWords.l0, size_ofL]
   exact vn (by omega) (vq (vs _) (by simp [wds, wres]))
  | cons c r =>
   simp only [List.length_cons] at h
   have hz := len_mid h2
   have e1 := bt_ofL_mid h2
   have w1 : wrap64 ((p.length : Int) + 1) = (((p ++ [c]).length : Nat) : Int) := (wrap_id (by omega) (by omega)).trans (by simp)
   have h32 : (c.toNat : Int) = 32 ↔ c = 32 := u8_eq c 32 (by omega)
   have h34 : (c.toNat : Int) = 34 ↔ c = 34 := u8_eq c 34 (by omega)
   have ex : (ofL l).extract (p.length : Int).toNat l.length = ofL (c :: r) := by
    rw [Int.toNat_natCast, extract_ofL, drop_mid h2, List.take_of_length_le (by simp only [List.length_cons]; omega)]
   simp only [impl_SplitWords.l0, e1, w1, size_ofL, ex, List.length_map]
   clear e1 w1 ex
   rw [wds]
   refine vp (by omega) (vp (by omega) ?_)
   by_cases c1 : (c.toNat : Int) = 32
   ·
    rw [if_pos (h32.mp c1)]
    exact vp c1 (ih r (p ++ [c]) acc true (by omega) (by rw [h2]; simp) (by simp; omega))
   ·
    rw [if_neg (fun hh => c1 (h32.mpr hh))]
    refine vn c1 ?_
    cases a with
    | false => exact vn (by simp) (vq (vs _) rfl)
    | true =>
     refine vp rfl ?_
     rw [if_neg (by simp)]
     by_cases c2 : (c.toNat : Int) = 34
     ·
      rw [if_pos (h34.mp c2)]
      refine vp c2 (vp (by omega) (vb (impl_quoted_ev c r (by omega)) ?_))
      cases e : rdq r with
      | none => exact vn (by simp [qres]) (vq (vs _) rfl)
      | some q =>
       obtain ⟨w, t⟩ := q
       obtain ⟨m, h4, h5, _⟩ := rdq_suf 0 r.length r w t (Nat.le_refl _) e
       have hm : r.length = m.length + t.length := by rw [h4, List.length_append]
       have := ih t (p ++ c :: m) (acc ++ [w]) false (by omega) (by rw [h2, h4]; simp) (by simp; omega)
       have w2 : wrap64 ((p.length : Int) + ((r.length + 1 - t.length : Nat) : Int)) = ((p ++ c :: m).length : Int) := (wrap_id (by omega) (by omega)).trans (by simp only [List.length_append, List.length_cons]; omega)
       simp only [qres, List.nil_append, w2]
       rw [List.map_append, List.map_singleton] at this
       refine vp trivial (vp (by omega) (vq this ?_))
       cases wds n false t with
       | none => rfl
       | some ws => simp [wres]
     ·
      rw [if_neg (fun hh => c2 (h34.mpr hh))]
      refine vn c2 ?_
      have hsw := split_while atB (c :: r)
      refine impl_SplitWords_run l acc hl (by omega) p _ (c :: r) [] h2 rfl (fun hh => ?_) (fun hh => ?_) |> fun hq => by simpa using hq
      ·
       rw [List.nil_append] at hh; rw [if_pos hh]; rfl
      ·
       rw [List.nil_append] at hh ⊢
       rw [if_neg hh]
       have hne : 0 < ((c :: r).takeWhile atB).length := List.length_pos_iff.mpr hh
       have hlen : ((c :: r).takeWhile atB).length + ((c :: r).dropWhile atB).length = r.length + 1 := by
        have := congrArg List.length hsw
        rwa [List.length_append, List.length_cons] at this
       have := ih ((c :: r).dropWhile atB) (p ++ (c :: r).takeWhile atB) (acc ++ [(c :: r).takeWhile atB]) false (by omega) (by rw [List.append_assoc, hsw]; exact h2) (by simp only [List.length_append, List.length_cons, List.length_nil]; omega)
       refine vq this ?_
       cases wds n false ((c :: r).dropWhile atB) with
       | none => rfl
       | some ws => simp [wres]
theorem impl_SplitWords_ev (l : Str) (hl : l.length ≤ 1048576) (ht : tvalid l = true) : Ev (fun k => impl_SplitWords.f k (ofL l)) (wres [] (words l)) := by
 unfold impl_SplitWords.f
 refine vb (impl_TextValid_ev l (by omega)) (vp ht ?_)
 exact impl_SplitWords_loop l hl (l.length + 1) l [] [] true (by omega) rfl (by simp)

/-! The program's ParseKind. -/
def kres : Option (Str × Str × List (Str × Str)) → ByteArray × ByteArray × List S69 × Bool
 | none => (ofL [], ofL [], [], false)
 | some x => (ofL x.1, ofL x.2.1, x.2.2.map e76, true)
theorem strings_Trim_eq (l : Str) (hl : l.length ≤ 1048576) : strings_Trim.f (ofL l) ⟨#[32]⟩ = some (ofL (trim l)) := by
 unfold strings_Trim.f
 rw [if_pos rfl, if_pos (by rw [size_ofL]; omega)]
 rfl
def cres (s : Str) : Option (Str × Str) → ByteArray × ByteArray × Bool
 | none => (ofL s, ofL [], false)
 | some x => (ofL x.1, ofL x.2, true)
theorem strings_Cut_eq (b : UInt8) (l : Str) (hl : l.length ≤ 1048576) : strings_Cut.f (ofL l) ⟨#[b]⟩ = some (cres l (cutB b l)) := by
 unfold strings_Cut.f
 rw [if_pos (by rw [size_ofL]; omega)]
 have e : Lib.cut (ofL l).data.toList (⟨#[b]⟩ : ByteArray).data.toList = Lib.cut l [b] := rfl
 rw [e, cut_B]
 cases cutB b l with
 | none => rfl
 | some x => rfl
theorem cutB_len {b : UInt8} {s x t : Str} (h : cutB b s = some (x, t)) : s.length = x.length + t.length + 1 := by
 rw [cutB_eq b s x t h]; simp; omega
theorem tvalid_sub {s t : Str} (h : tvalid s = true) (hl : t.length ≤ s.length) (hm : ∀ c ∈ t, c ∈ s) : tvalid t = true := by
 unfold tvalid at *
 simp only [Bool.and_eq_true, List.all_eq_true, decide_eq_true_iff] at *
 exact ⟨fun c hc => h.1 c (hm c hc), by omega⟩
theorem wds_len : ∀ (n : Nat) (a : Bool) (s : Str) (ws : List Str), wds n a s = some ws → ∀ w ∈ ws, w.length ≤ s.length := by
 intro n
 induction n with
 | zero => intro a s ws h; cases h
 | succ n ih =>
  intro a s ws h
  cases s with
  | nil => simp only [wds, Option.some.injEq] at h; subst h; simp
  | cons c r =>
   rw [wds] at h
   split at h
   ·
    intro w hw; have := ih _ _ _ h w hw; simp only [List.length_cons]; omega
   ·
    split at h
    ·
     cases h
    ·
     split at h
     ·
      cases e : rdq r with
      | none => rw [e] at h; cases h
      | some q =>
       obtain ⟨w1, t⟩ := q
       obtain ⟨m, h4, h5, _⟩ := rdq_suf 0 r.length r w1 t (Nat.le_refl _) e
       have hm : r.length = m.length + t.length := by rw [h4, List.length_append]
       rw [e] at h
       simp only [Option.map_eq_some_iff] at h
       obtain ⟨v, e1, rfl⟩ := h
       intro w hw
       simp only [List.length_cons]
       rcases List.mem_cons.mp hw with rfl | hw
       ·
        omega
       ·
        have := ih _ _ _ e1 w hw; omega
     ·
      split at h
      ·
       cases h
      ·
       simp only [Option.map_eq_some_iff] at h
       obtain ⟨v, e1, rfl⟩ := h
       have hlen := congrArg List.length (split_while atB (c :: r))
       rw [List.length_append] at hlen
       intro w hw
       rcases List.mem_cons.mp hw with rfl | hw
       ·
        omega
       ·
        have := ih _ _ _ e1 w hw; omega
theorem words_len {s : Str} {ws : List Str} (h : words s = some ws) : ∀ w ∈ ws, w.length ≤ s.length := wds_len _ _ _ _ h
/-- What is lacking: the kind is read out of the head and the parameters that are read. -/
def fin1 (ok : Bool) (m u : Str) (ps : List (Str × Str)) : Option (Str × Str × List (Str × Str)) := if ok = true ∧ kvalid m u ps = true then some (m, u, ps) else none
def fins (ok : Bool) (m u : Str) (q : List (Str × Str)) : Option (List (Str × Str)) → Option (Str × Str × List (Str × Str))
 | none => none
 | some ps => fin1 ok m u (q ++ ps)
theorem fins_cons (ok : Bool) (m u : Str) (q : List (Str × Str)) (x : Str × Str) (o : Option (List (Str × Str))) : fins ok m u q (o.map (x :: ·)) = fins ok m u (q ++ [x]) o := by
 cases o with
 | none => rfl
 | some ps => simp [fins]
theorem impl_ParseKind_end (ok : Bool) (m u : Str) (ps : List (Str × Str)) (hm : m.length ≤ 1048576) (hu : u.length ≤ 1048576) (hz : szp ps ≤ 1048576) (hn : ps.length ≤ 1048576) :
  Ev (fun k => if ok = true then ((impl_KindValid.f k (ofL m) (ofL u) (ps.map e76)).bind fun t => (if t = true then (some (ofL m, ofL u, ps.map e76, true)) else (some ((⟨#[]⟩ : ByteArray), (⟨#[]⟩ : ByteArray), ([] : List S69), false)))) else (some ((⟨#[]⟩ : ByteArray), (⟨#[]⟩ : ByteArray), ([] : List S69), false))) (kres (fin1 ok m u ps)) := by
 cases ok with
 | false => exact vn (by simp) (vq (vs _) (by unfold fin1; rw [if_neg (by simp)]; rfl))
 | true =>
  refine vp rfl (vb (impl_KindValid_ev m u ps hm hu hz hn) ?_)
  cases e : kvalid m u ps with
  | true => exact vp rfl (vq (vs _) (by unfold fin1; rw [if_pos ⟨rfl, e⟩]; rfl))
  | false => exact vn (by simp) (vq (vs _) (by unfold fin1; rw [if_neg (by simp [e])]; rfl))
theorem impl_ParseKind_loop (ok : Bool) (xs : List Str) (m u : Str) (hx : xs.length ≤ 1000) (ht : ∀ x ∈ xs, tvalid x = true) (hm : m.length ≤ 1048576) (hu : u.length ≤ 1048576) : ∀ (r p : List Str) (q : List (Str × Str)), xs = p ++ r → q.length ≤ p.length → szp q ≤ 400 * q.length →
  Ev (fun k => impl_ParseKind.l0 k ok (xs.map ofL) (xs.length : Int) (p.length : Int) (ofL m) (ofL u) (q.map e76)) (kres (fins ok m u q (pars r))) := by
 intro r
 induction r with
 | nil =>
  intro p q h hq hz
  rw [List.append_nil] at h
  subst h
  refine vc ?_
  simp only [impl_ParseKind.l0]
  refine vn (by omega) ?_
  have := impl_ParseKind_end ok m u q hm hu (by omega) (by omega)
  simpa [pars, fins] using this
 | cons c r ih =>
  intro p q h hq hz
  have hz2 := len_mid h
  have e1 := rdOf_ofL h
  have htc := ht c (by rw [h]; simp)
  have hcl := tvalid_len htc
  have w1 : wrap64 ((p.length : Int) + 1) = ((p ++ [c]).length : Int) := (wrap_id (by omega) (by omega)).trans (by simp)
  have hcut := strings_Cut_eq 61 c (by omega)
  refine vc ?_
  simp only [impl_ParseKind.l0, e1, hcut, List.length_map, Option.bind_some]
  clear e1 hcut
  have hbad : ∀ (x11 : ByteArray) (x14 : List ByteArray), Ev (fun k => impl_ParseKind.j1 k ok x11 x14 (xs.map ofL) (xs.length : Int) (p.length : Int) true (ofL m) (ofL u) (q.map e76)) (kres none) := by
   intro x11 x14
   refine vc ?_
   simp only [impl_ParseKind.j1]
   exact vp trivial (vs _)
  refine vp (by omega) (vp (by omega) (vp (by omega) ?_))
  cases e : cutB 61 c with
  | none =>
   simp only [cres]
   refine vb (impl_SplitWords_ev [] (by simp) (by decide)) (vn (by simp) (vq (hbad _ _) ?_))
   rw [pars, par1, e]; rfl
  | some x =>
   obtain ⟨n, v⟩ := x
   have hlen := cutB_len e
   have hvs : tvalid v = true := tvalid_sub htc (by omega) (fun d hd => by rw [cutB_eq 61 c n v e]; simp [hd])
   simp only [cres]
   refine vb (impl_SplitWords_ev v (by omega) hvs) (vp trivial ?_)
   cases e2 : words v with
   | none =>
    refine vn (by simp [wres]) (vq (hbad _ _) ?_)
    rw [pars, par1, e]; simp only [e2]; rfl
   | some ws =>
    simp only [wres, List.nil_append]
    refine vp trivial ?_
    by_cases h1 : ws.length = 1
    ·
     obtain ⟨w, rfl⟩ := List.length_eq_one_iff.mp h1
     have hwl := words_len e2 w (by simp)
     have hnl := trim_len n
     have e3 : par1 c = some (low (trim n), w) := by rw [par1, e]; simp only [e2]
     have := ih (p ++ [c]) (q ++ [(low (trim n), w)]) (by rw [h]; simp) (by simp; omega) (by rw [szp_append]; simp only [szp, List.length_append, List.length_cons, List.length_nil, low_len]; omega)
     have ht := strings_Trim_eq n (by omega)
     have hl := impl_LowerText_eq (trim n) (by omega)
     refine vc ?_
     simp only [impl_ParseKind.j1, List.map_cons, List.map_nil, List.length_cons, List.length_nil, ht, hl, w1, Option.bind_some, List.length_map]
     clear w1 ht hl
     refine vn (by simp) (vp (by omega) (vp (by omega) ?_))
     rw [pars, e3]
     simp only
     rw [fins_cons]
     rw [List.map_append] at this
     exact this
    ·
     have e4 : ((((ws.map ofL).length : Nat) : Int) != 1) = true := by
      rw [List.length_map]; simp only [bne_iff_ne, ne_eq]; omega
     rw [e4]
     refine vq (hbad _ _) ?_
     have e3 : par1 c = none := by
      rw [par1, e]
      simp only [e2]
      match ws, h1 with
      | [], _ => rfl
      | [w], h1 => exact absurd rfl h1
      | _ :: _ :: _, _ => rfl
     rw [pars, e3]; rfl
theorem pk_fins (o : Option (Str × Str)) (ps : Option (List (Str × Str))) (s : Str) : pkO o ps = fins (cres s o).2.2 (match o with
  | none => low s
  | some x => low x.1) (match o with
  | none => []
  | some x => low x.2) [] ps := by
 cases o with
 | none => cases ps with
  | none => rfl
  | some p => simp [pkO, fins, fin1, cres]
 | some x => cases ps with
  | none => rfl
  | some p => simp [pkO, fins, fin1, cres]
theorem impl_ParseKind_ev (s : Str) (hs : s.length ≤ 1048576) : Ev (fun k => impl_ParseKind.f k (ofL s)) (kres (pk s)) := by
 unfold impl_ParseKind.f pk
 refine vb (impl_TextValid_ev s (by omega)) ?_
 cases et : tvalid s with
 | false => exact vn (by simp) (vq (vs _) rfl)
 | true =>
  refine vp rfl (vb (impl_splitOutside_ev s hs) ?_)
  rw [if_pos rfl]
  have hpl := parts_len 59 s 0
  have hpm := parts_mem 59 s 0
  have hsl := tvalid_len et
  generalize parts 59 0 s = xs at hpl hpm ⊢
  cases xs with
  | nil => simp at hpl
  | cons h0 r =>
   have hh := hpm h0 (by simp)
   have htl := trim_len h0
   have e0 : rdOf ByteArray.empty (ofL h0 :: r.map ofL) 0 = ofL h0 := rfl
   have et := strings_Trim_eq h0 (by omega)
   have ec := strings_Cut_eq 47 (trim h0) (by omega)
   have hr : r.length ≤ 1000 := by simp only [List.length_cons] at hpl; omega
   simp only [e0, et, ec, List.length_map, List.length_cons, Option.bind_some, List.drop_one, List.map_cons, List.tail_cons, List.headD_cons]
   rw [pk_fins _ _ (trim h0)]
   have htv : ∀ x ∈ r, tvalid x = true := fun x hx => by
    have := hpm x (by simp [hx])
    exact tvalid_sub (by assumption) this.1 this.2
   cases e : cutB 47 (trim h0) with
   | none =>
    simp only [cres]
    have l1 := impl_LowerText_eq (trim h0) (by omega)
    have l2 := impl_LowerText_eq [] (by simp)
    have := impl_ParseKind_loop false r (low (trim h0)) (low []) hr htv (by rw [low_len]; omega) (by simp [low]) r [] [] rfl (by simp) (by simp [szp])
    simp only [l1, l2, Option.bind_some]
    refine vp (by omega) (vp (by omega) ?_)
    simpa [low] using this
   | some x =>
    obtain ⟨a, b⟩ := x
    have hlen := cutB_len e
    simp only [cres]
    have l1 := impl_LowerText_eq a (by omega)
    have l2 := impl_LowerText_eq b (by omega)
    have := impl_ParseKind_loop true r (low a) (low b) hr htv (by rw [low_len]; omega) (by rw [low_len]; omega) r [] [] rfl (by simp) (by simp [szp])
    simp only [l1, l2, Option.bind_some]
    refine vp (by omega) (vp (by omega) ?_)
    simpa using this

/-! A valid kind is read back. -/
theorem nmB_not (c : UInt8) : nmB c = true → c ≠ 34 ∧ c ≠ 59 ∧ c ≠ 47 ∧ c ≠ 61 ∧ c ≠ 32 ∧ okB c = true := by
 revert c
 exact u8_all (by decide +kernel)
theorem isNm_all {l : Str} (h : isNm l = true) : ∀ c ∈ l, nmB c = true := by
 unfold isNm at h
 simp only [Bool.and_eq_true, List.all_eq_true] at h
 exact h.2
theorem isSmall_nm {l : Str} (h : isSmall l = true) : isNm l = true ∧ low l = l := by
 unfold isSmall at h
 simpa using h
def hd1s (x : Str) (l : List Str) : List Str := x.foldr hd1 l
def Pass (b : UInt8) (x : Str) : Prop := ∀ t, parts b 0 (x ++ t) = hd1s x (parts b 0 t)
def seg (p : Str × Str) : Str := 32 :: (p.1 ++ [61] ++ qw p.2)
theorem kfl_all : ∀ (ps q : List (Str × Str)), kfl q ps = true → ∀ p ∈ ps, isSmall p.1 = true ∧ tvalid p.2 = true ∧ p.2.length ≤ 40 := by
 intro ps
 induction ps with
 | nil => intro q h p hp; cases hp
 | cons c r ih =>
  intro q h p hp
  rw [kfl] at h
  simp only [Bool.and_eq_true, decide_eq_true_iff] at h
  rcases List.mem_cons.mp hp with rfl | hp
  ·
   exact ⟨h.1.1.1, h.1.1.2.1, h.1.1.2.2⟩
  ·
   exact ih _ h.2 p hp
theorem kvalid_split {a b : Str} {ps : List (Str × Str)} (h : kvalid a b ps = true) : isSmall a = true ∧ isSmall b = true ∧ ps.length ≤ 4 ∧ kfl [] ps = true ∧ (ktext a b ps).length ≤ 150 := by
 unfold kvalid at h
 simp only [Bool.and_eq_true, decide_eq_true_iff] at h
 obtain ⟨⟨⟨⟨h1, h2⟩, h3⟩, h4⟩, h5⟩ := h
 exact ⟨h1, h2, by omega, h4, h5⟩
/-- What is read is valid. -/
theorem pk_valid {s a b : Str} {ps : List (Str × Str)} (h : pk s = some (a, b, ps)) : kvalid a b ps = true := by
 unfold pk at h
 split at h
 ·
  unfold pkO at h
  split at h
  ·
   split at h
   ·
    rename_i hk
    cases h; exact hk
   ·
    cases h
  ·
   cases h
 ·
  cases h

/-! The reference's ParseKind. -/
def sres (L : Nat) (acc : Str) : Option (Str × Str) → ByteArray × Int
 | none => (ofL [], -1)
 | some q => (ofL (acc ++ q.1), ((L - q.2.length : Nat) : Int))
theorem take_mid1 {l p r : Str} {c : UInt8} (h : l = p ++ c :: r) : (l.drop p.length).take (p.length + 1 - p.length) = [c] := by
 rw [drop_mid h, show p.length + 1 - p.length = 1 by omega]; rfl
theorem spec_l1Read_loop (l : Str) (hl : l.length ≤ 1048576) : ∀ (n : Nat) (r p acc : Str), r.length ≤ n → l = p ++ r → acc.length ≤ p.length → Ev (fun k => spec_l1Read.l0 k (ofL l) (ofL acc) (p.length : Int)) (sres l.length acc (rdq r)) := by
 intro n
 induction n with
 | zero =>
  intro r p acc h h2 h3
  have : r = [] := List.length_eq_zero_iff.mp (by omega)
  subst this
  rw [List.append_nil] at h2
  subst h2
  refine vc ?_
  simp only [spec_l1Read.l0, size_ofL]
  exact vn (by omega) (vq (vs _) rfl)
 | succ n ih =>
  intro r p acc h h2 h3
  cases r with
  | nil =>
   rw [List.append_nil] at h2
   subst h2
   refine vc ?_
   simp only [spec_l1Read.l0, size_ofL]
   exact vn (by omega) (vq (vs _) rfl)
  | cons c r =>
   simp only [List.length_cons] at h
   have hz := len_mid h2
   have e1 := bt_ofL_mid h2
   have w1 : wrap64 ((p.length : Int) + 1) = ((p.length + 1 : Nat) : Int) := (wrap_id (by omega) (by omega)).trans (by omega)
   have h34 : (c.toNat : Int) = 34 ↔ c = 34 := u8_eq c 34 (by omega)
   have h92 : (c.toNat : Int) = 92 ↔ c = 92 := u8_eq c 92 (by omega)
   have e4 := take_mid1 h2
   refine vc ?_
   simp only [spec_l1Read.l0, e1, w1, size_ofL, Int.toNat_natCast, extract_ofL, e4, ofL_append]
   clear e1 w1 e4
   rw [rdq_cons]
   refine vp (by omega) (vp (by omega) ?_)
   by_cases c1 : (c.toNat : Int) = 34
   ·
    refine vp c1 (vq (vs _) ?_)
    rw [if_pos (h34.mp c1), sres, show l.length - r.length = p.length + 1 by omega]
    simp
   ·
    refine vn c1 ?_
    rw [if_neg (fun hh => c1 (h34.mpr hh))]
    by_cases c2 : (c.toNat : Int) = 92
    ·
     refine vp c2 ?_
     rw [if_pos (h92.mp c2)]
     cases r with
     | nil =>
      simp only [List.length_nil] at hz
      exact vp (by omega) (vq (vs _) rfl)
     | cons d r =>
      simp only [List.length_cons] at h hz
      have w2 : wrap64 (((p.length + 1 : Nat) : Int) + 1) = ((p.length + 2 : Nat) : Int) := (wrap_id (by omega) (by omega)).trans (by omega)
      have hd : l = (p ++ [c]) ++ d :: r := by rw [h2]; simp
      have e5 : (l.drop (p.length + 1)).take (p.length + 2 - (p.length + 1)) = [d] := by
       have := take_mid1 hd
       rwa [List.length_append] at this
      have := ih r (p ++ [c, d]) (acc ++ [d]) (by omega) (by rw [h2]; simp) (by simp; omega)
      rw [List.length_append] at this
      rw [w2, Int.toNat_natCast, e5]
      clear w2 e5
      refine vn (by omega) (vp (by omega) (vp (by omega) (vp (by omega) (vp (by simp only [List.length_cons, List.length_nil]; omega) (vq this ?_)))))
      show _ = sres l.length acc ((rdq r).map fun q => (d :: q.1, q.2))
      cases rdq r with
      | none => rfl
      | some q => simp [sres]
    ·
     refine vn c2 ?_
     rw [if_neg (fun hh => c2 (h92.mpr hh))]
     have := ih r (p ++ [c]) (acc ++ [c]) (by omega) (by rw [h2]; simp) (by simp; omega)
     rw [List.length_append] at this
     refine vp (by omega) (vp (by omega) (vp (by simp only [List.length_cons, List.length_nil]; omega) (vq this ?_)))
     cases rdq r with
     | none => rfl
     | some q => simp [sres]
theorem spec_l1Read_ev {l p r : Str} {c : UInt8} (h : l = p ++ c :: r) (hl : l.length ≤ 1048576) : Ev (fun k => spec_l1Read.f k (ofL l) (p.length : Int)) (sres l.length [] (rdq r)) := by
 have hz := len_mid h
 have := spec_l1Read_loop l hl r.length r (p ++ [c]) [] (Nat.le_refl _) (by rw [h]; simp) (by simp)
 have w1 : wrap64 ((p.length : Int) + 1) = ((p ++ [c]).length : Int) := (wrap_id (by omega) (by omega)).trans (by simp)
 unfold spec_l1Read.f
 rw [w1]
 exact this
def cres0 (s p : Str) : Option (Str × Str) → ByteArray × ByteArray × Bool
 | none => (ofL s, ofL [], false)
 | some x => (ofL (p ++ x.1), ofL x.2, true)
theorem spec_l2Cut_loop (l : Str) (b : UInt8) (hb : b ≠ 34) (hl : l.length ≤ 1048576) : ∀ (n : Nat) (r p : Str), r.length ≤ n → l = p ++ r → Ev (fun k => spec_l2Cut.l0 k (ofL l) (b.toNat : Int) (p.length : Int)) (cres0 l p (cut0 b 0 r)) := by
 intro n
 induction n with
 | zero =>
  intro r p h h2
  have : r = [] := List.length_eq_zero_iff.mp (by omega)
  subst this
  rw [List.append_nil] at h2
  subst h2
  refine vc ?_
  simp only [spec_l2Cut.l0, size_ofL]
  exact vn (by omega) (vq (vs _) rfl)
 | succ n ih =>
  intro r p h h2
  cases r with
  | nil =>
   rw [List.append_nil] at h2
   subst h2
   refine vc ?_
   simp only [spec_l2Cut.l0, size_ofL]
   exact vn (by omega) (vq (vs _) rfl)
  | cons c r =>
   simp only [List.length_cons] at h
   have hz := len_mid h2
   have e1 := bt_ofL_mid h2
   have w1 : wrap64 ((p.length : Int) + 1) = ((p.length + 1 : Nat) : Int) := (wrap_id (by omega) (by omega)).trans (by omega)
   have h34 : (c.toNat : Int) = 34 ↔ c = 34 := u8_eq c 34 (by omega)
   have hbb := u8_inj c b
   have x1 : (l.drop 0).take (p.length - 0) = p := by rw [List.drop_zero, Nat.sub_zero, h2, List.take_left]
   have x2 : (l.drop (p.length + 1)).take (l.length - (p.length + 1)) = r := by
    rw [List.take_of_length_le (by simp), h2, ← List.drop_drop, List.drop_left]; rfl
   refine vc ?_
   simp only [spec_l2Cut.l0, e1, w1, size_ofL, Int.toNat_natCast, extract_ofL, x1, x2]
   clear e1 w1 x1 x2
   rw [cut0]
   refine vp (by omega) (vp (by omega) ?_)
   by_cases c1 : (c.toNat : Int) = 34
   ·
    have hc := h34.mp c1
    refine vp c1 (vb (spec_l1Read_ev h2 hl) ?_)
    rw [if_neg (show ¬ ((0 : Nat) = 0 ∧ c = b) from fun hh => hb (hh.2.symm.trans hc)), show nq 0 c = 1 by rw [hc]; rfl]
    cases e : rdq r with
    | none => rw [rdq_none b r.length r (Nat.le_refl _) e]; exact vp (by simp [sres]) (vq (vs _) rfl)
    | some q =>
     obtain ⟨w, t⟩ := q
     obtain ⟨m, h3, h4, h5⟩ := rdq_suf b r.length r w t (Nat.le_refl _) e
     have hm : r.length = m.length + t.length := by rw [h3, List.length_append]
     have := ih t (p ++ c :: m) (by omega) (by rw [h2, h3]; simp)
     have ei : l.length - t.length = (p ++ c :: m).length := by simp only [List.length_append, List.length_cons]; omega
     simp only [sres, ei]
     refine vn (by omega) ?_
     rw [h5]
     refine vq this ?_
     cases cut0 b 0 t with
     | none => rfl
     | some x => simp [cres0]
   ·
    refine vn c1 ?_
    have hc : ¬ c = 34 := fun hh => c1 (h34.mpr hh)
    by_cases c2 : c = b
    ·
     rw [if_pos (show (0 : Nat) = 0 ∧ c = b from ⟨rfl, c2⟩)]
     exact vp (hbb.mpr c2) (vp (by omega) (vp (by omega) (vp (by omega) (vq (vs _) (by simp [cres0])))))
    ·
     rw [if_neg (show ¬ ((0 : Nat) = 0 ∧ c = b) from fun hh => c2 hh.2), show nq 0 c = 0 by simp [nq, hc]]
     have := ih r (p ++ [c]) (by omega) (by rw [h2]; simp)
     rw [List.length_append] at this
     refine vn (fun hh => c2 (hbb.mp hh)) (vq this ?_)
     cases cut0 b 0 r with
     | none => rfl
     | some x => simp [cres0]
theorem spec_l2Cut_ev (l : Str) (b : UInt8) (hb : b ≠ 34) (hl : l.length ≤ 1048576) : Ev (fun k => spec_l2Cut.f k (ofL l) (b.toNat : Int)) (cres l (cut0 b 0 l)) := by
 refine vq (spec_l2Cut_loop l b hb hl l.length l [] (Nat.le_refl _) rfl) ?_
 cases cut0 b 0 l <;> rfl
def trimR (l : Str) : Str := (l.reverse.dropWhile (· == 32)).reverse
theorem trimR_snoc (l : Str) (c : UInt8) : trimR (l ++ [c]) = if c = 32 then trimR l else l ++ [c] := by
 unfold trimR
 rw [List.reverse_append, List.reverse_singleton, List.singleton_append, List.dropWhile]
 by_cases h : c = 32
 ·
  simp [h]
 ·
  rw [show (c == 32) = false by simp [h]]; simp [h]
theorem spec_l2Trim_right : ∀ (n : Nat) (s : Str), s.length ≤ n → s.length ≤ 1048576 → Ev (fun k => spec_l2Trim.l1 k (ofL s)) (ofL (trimR s)) := by
 intro n
 induction n with
 | zero =>
  intro s h _
  have : s = [] := List.length_eq_zero_iff.mp (by omega)
  subst this
  refine vc ?_
  simp only [spec_l2Trim.l1, size_ofL]
  exact vn (by simp) (vq (vs _) rfl)
 | succ n ih =>
  intro s h hl
  rcases List.eq_nil_or_concat s with rfl | ⟨p, c, rfl⟩
  ·
   refine vc ?_
   simp only [spec_l2Trim.l1, size_ofL]
   exact vn (by simp) (vq (vs _) rfl)
  ·
   rw [List.concat_eq_append] at *
   simp only [List.length_append, List.length_cons, List.length_nil] at h hl
   have hz : (p ++ [c]).length = p.length + 1 := by simp
   have e1 := bt_ofL_mid (l := p ++ [c]) (p := p) (c := c) (r := []) rfl
   have w1 : wrap64 (((p ++ [c]).length : Int) - 1) = ((p.length : Nat) : Int) := (wrap_id (by omega) (by omega)).trans (by omega)
   have h32 : (c.toNat : Int) = 32 ↔ c = 32 := u8_eq c 32 (by omega)
   have x1 : ((p ++ [c]).drop 0).take (p.length - 0) = p := by rw [List.drop_zero, Nat.sub_zero, List.take_left]
   refine vc ?_
   simp only [spec_l2Trim.l1, size_ofL, w1, e1, Int.toNat_natCast, extract_ofL, x1]
   clear e1 w1 x1
   rw [trimR_snoc]
   refine vp (by omega) (vp (by omega) (vp (by omega) ?_))
   by_cases c1 : (c.toNat : Int) = 32
   ·
    rw [if_pos (h32.mp c1)]
    exact vp c1 (vp (by omega) (ih p (by omega) (by omega)))
   ·
    rw [if_neg (fun hh => c1 (h32.mpr hh))]
    exact vn c1 (vs _)
theorem trim_cons_ne (c : UInt8) (r : Str) (h : c ≠ 32) : trim (c :: r) = trimR (c :: r) := by
 unfold trim Lib.trimB Lib.trimLeftB Lib.trimRightB trimR
 obtain ⟨m, h1, h2⟩ := dropWhile_suf (· == 32) (c :: r).reverse
 have h3 := congrArg List.reverse h1
 rw [List.reverse_reverse, List.reverse_append] at h3
 cases e : ((c :: r).reverse.dropWhile (· == 32)).reverse with
 | nil =>
  rw [e, List.nil_append] at h3
  have : c ∈ m := by
   have : c ∈ m.reverse := by rw [← h3]; simp
   exact List.mem_reverse.mp this
  exact absurd (by simpa using h2 c this) h
 | cons d u =>
  rw [e] at h3
  injection h3 with h4 h5
  subst h4
  rw [List.dropWhile, show (c == 32) = false by simp [h]]
theorem spec_l2Trim_ev (s : Str) (hl : s.length ≤ 1048576) : Ev (fun k => spec_l2Trim.f k (ofL s)) (ofL (trim s)) := by
 unfold spec_l2Trim.f
 induction s with
 | nil =>
  refine vc ?_
  simp only [spec_l2Trim.l0, size_ofL]
  refine vn (by simp) (vc ?_)
  simp only [spec_l2Trim.j1]
  exact spec_l2Trim_right 0 [] (by simp) (by simp)
 | cons c r ih =>
  simp only [List.length_cons] at hl
  have hz : (c :: r).length = r.length + 1 := rfl
  have h32 : (c.toNat : Int) = 32 ↔ c = 32 := u8_eq c 32 (by omega)
  have x1 : ((c :: r).drop 1).take ((c :: r).length - 1) = r := by rw [List.drop_one, List.tail_cons, hz, List.take_of_length_le (by omega)]
  refine vc ?_
  simp only [spec_l2Trim.l0, size_ofL, bt_zero, extract_ofL, x1]
  clear x1
  refine vp (by omega) (vp (by omega) ?_)
  by_cases c1 : (c.toNat : Int) = 32
  ·
   rw [h32.mp c1, trim_cons]
   exact vp (by decide) (vp (by simp; omega) (ih (by omega)))
  ·
   rw [trim_cons_ne c r (fun hh => c1 (h32.mpr hh))]
   refine vn c1 (vc ?_)
   simp only [spec_l2Trim.j1]
   exact spec_l2Trim_right (r.length + 1) (c :: r) (by simp) (by simp; omega)
/-- Behind a word: a space or the end, else nothing. -/
theorem wds_false (n : Nat) (s : Str) (h : s.length < n) : wds n false s = if s = [] ∨ s.head? = some 32 then wds n true s else none := by
 obtain ⟨n, rfl⟩ : ∃ m, n = m + 1 := ⟨n - 1, by omega⟩
 cases s with
 | nil => rw [if_pos (Or.inl rfl)]; rfl
 | cons c r =>
  by_cases c1 : c = 32
  ·
   rw [if_pos (Or.inr (by rw [c1]; rfl)), wds, wds, if_pos c1, if_pos c1]
  ·
   rw [if_neg (by simp [c1]), wds, if_neg c1, if_pos rfl]
theorem spec_l1Words_run (l : Str) (acc : List Str) (hl : l.length ≤ 1048576) (ha : acc.length ≤ 1048576) (p : Str) (v : List ByteArray × Bool) : ∀ (r a : Str), l = p ++ (a ++ r) → a.all atB = true →
  (a ++ r.takeWhile atB = [] → v = ([], false)) →
  (a ++ r.takeWhile atB ≠ [] → ¬ (r.dropWhile atB = [] ∨ (r.dropWhile atB).head? = some 32) → v = ([], false)) →
  (a ++ r.takeWhile atB ≠ [] → (r.dropWhile atB = [] ∨ (r.dropWhile atB).head? = some 32) → Ev (fun k => spec_l1Words.l0 k (ofL l) ((acc ++ [a ++ r.takeWhile atB]).map ofL) (((p ++ (a ++ r.takeWhile atB)).length : Nat) : Int)) v) →
  Ev (fun k => spec_l1Words.l1 k (ofL l) (acc.map ofL) (((p ++ a).length : Nat) : Int) (p.length : Int)) v := by
 intro r
 induction r with
 | nil =>
  intro a h h2 h3 h4 h5
  have hz : l.length = p.length + a.length := by rw [h]; simp
  have hpa : (p ++ a).length = p.length + a.length := by simp
  simp only [List.takeWhile_nil, List.append_nil, List.dropWhile_nil] at h3 h4 h5
  refine vc ?_
  simp only [spec_l1Words.l1, size_ofL, List.length_map]
  refine vn (by omega) (vp (by omega) (vp (by omega) (vp (by omega) ?_)))
  by_cases e : a = []
  ·
   rw [h3 e]; subst e; exact vp (by simp) (vs _)
  ·
   have hne : 0 < a.length := List.length_pos_iff.mpr e
   have ex : (ofL l).extract (p.length : Int).toNat (((p ++ a).length : Nat) : Int).toNat = ofL a := by
    rw [Int.toNat_natCast, Int.toNat_natCast, extract_ofL, drop_mid h, hpa, List.append_nil]
    rw [List.take_of_length_le (by omega)]
   rw [ex]
   have := h5 e (by simp)
   rw [List.map_append, List.map_singleton] at this
   exact vn (by omega) (vp (by omega) this)
 | cons c r ih =>
  intro a h h2 h3 h4 h5
  have hz : l.length = p.length + (a.length + (r.length + 1)) := by rw [h]; simp
  have hpa : (p ++ a).length = p.length + a.length := by simp
  have e1 : bt (ofL l) (((p ++ a).length : Nat) : Int) = (c.toNat : Int) := bt_ofL_mid (l := l) (p := p ++ a) (c := c) (r := r) (by rw [h]; simp)
  have w1 : wrap64 ((((p ++ a).length : Nat) : Int) + 1) = ((p ++ (a ++ [c])).length : Int) := (wrap_id (by omega) (by omega)).trans (by simp only [List.length_append, List.length_cons, List.length_nil]; omega)
  have h32 : (c.toNat : Int) = 32 ↔ c = 32 := u8_eq c 32 (by omega)
  refine vc ?_
  simp only [spec_l1Words.l1, size_ofL, List.length_map, e1, w1]
  clear e1 w1
  refine vp (by omega) (vp (by omega) (vb (spec_l1Atom_ev c) ?_))
  cases e : atB c with
  | true =>
   refine vp rfl ?_
   have ec : a ++ (c :: r).takeWhile atB = a ++ [c] ++ r.takeWhile atB := by simp [List.takeWhile, e]
   have ed : (c :: r).dropWhile atB = r.dropWhile atB := by simp [List.dropWhile, e]
   rw [ec] at h3
   rw [ec, ed] at h4
   rw [ec, ed] at h5
   exact ih (a ++ [c]) (by rw [h]; simp) (by simp [h2, e]) h3 h4 h5
  | false =>
   have et : (c :: r).takeWhile atB = [] := by simp [List.takeWhile, e]
   have ed : (c :: r).dropWhile atB = c :: r := by simp [List.dropWhile, e]
   rw [et, List.append_nil] at h3
   rw [et, ed, List.append_nil] at h4
   rw [et, ed, List.append_nil] at h5
   refine vn (by simp) (vp (by omega) (vp (by omega) (vp (by omega) ?_)))
   by_cases e : a = []
   ·
    rw [h3 e]; subst e; exact vp (by simp) (vs _)
   ·
    have hne : 0 < a.length := List.length_pos_iff.mpr e
    have ex : (ofL l).extract (p.length : Int).toNat (((p ++ a).length : Nat) : Int).toNat = ofL a := by
     rw [Int.toNat_natCast, Int.toNat_natCast, extract_ofL, drop_mid h, hpa, show p.length + a.length - p.length = a.length by omega, List.take_left]
    rw [ex]
    refine vn (by omega) ?_
    by_cases c1 : (c.toNat : Int) = 32
    ·
     have := h5 e (Or.inr (by rw [h32.mp c1]; rfl))
     rw [List.map_append, List.map_singleton] at this
     exact vp c1 (vp (by omega) this)
    ·
     rw [h4 e (by simp only [List.head?_cons, Option.some.injEq, reduceCtorEq, false_or]; exact fun hh => c1 (h32.mpr hh))]
     exact vn c1 (vs _)
theorem spec_l1Words_loop (l : Str) (hl : l.length ≤ 1048576) : ∀ (n : Nat) (r p : Str) (acc : List Str), r.length < n → l = p ++ r → acc.length ≤ p.length → Ev (fun k => spec_l1Words.l0 k (ofL l) (acc.map ofL) (p.length : Int)) (wres acc (wds n true r)) := by
 intro n
 induction n with
 | zero => intro r p acc h; omega
 | succ n ih =>
  intro r p acc h h2 h3
  refine vc ?_
  cases r with
  | nil =>
   rw [List.append_nil] at h2
   subst h2
   simp only [spec_l1Words.l0, size_ofL]
   exact vn (by omega) (vq (vs _) (by simp [wds, wres]))
  | cons c r =>
   simp only [List.length_cons] at h
   have hz := len_mid h2
   have e1 := bt_ofL_mid h2
   have w1 : wrap64 ((p.length : Int) + 1) = (((p ++ [c]).length : Nat) : Int) := (wrap_id (by omega) (by omega)).trans (by simp)
   have h32 : (c.toNat : Int) = 32 ↔ c = 32 := u8_eq c 32 (by omega)
   have h34 : (c.toNat : Int) = 34 ↔ c = 34 := u8_eq c 34 (by omega)
   simp only [spec_l1Words.l0, e1, w1, size_ofL, List.length_map]
   clear e1 w1
   rw [wds]
   refine vp (by omega) (vp (by omega) ?_)
   by_cases c1 : (c.toNat : Int) = 32
   ·
    rw [if_pos (h32.mp c1)]
    exact vp c1 (ih r (p ++ [c]) acc (by omega) (by rw [h2]; simp) (by simp; omega))
   ·
    rw [if_neg (fun hh => c1 (h32.mpr hh)), if_neg (by simp)]
    refine vn c1 ?_
    by_cases c2 : (c.toNat : Int) = 34
    ·
     rw [if_pos (h34.mp c2)]
     refine vp c2 (vb (spec_l1Read_ev h2 hl) ?_)
     cases e : rdq r with
     | none => exact vp (by simp [sres]) (vq (vs _) rfl)
     | some q =>
      obtain ⟨w, t⟩ := q
      obtain ⟨m, h4, h5, _⟩ := rdq_suf 0 r.length r w t (Nat.le_refl _) e
      have hm : r.length = m.length + t.length := by rw [h4, List.length_append]
      have hpm : (p ++ c :: m).length = p.length + m.length + 1 := by simp only [List.length_append, List.length_cons]; omega
      have ei : l.length - t.length = (p ++ c :: m).length := by omega
      have := ih t (p ++ c :: m) (acc ++ [w]) (by omega) (by rw [h2, h4]; simp) (by simp; omega)
      rw [List.map_append, List.map_singleton] at this
      simp only [sres, ei, List.nil_append]
      rw [wds_false n t (by omega)]
      refine vn (by omega) (vn (by omega) ?_)
      cases t with
      | nil =>
       rw [if_pos (Or.inl rfl)]
       simp only [List.length_nil] at hm ei
       refine vn (by omega) (vp (by omega) (vq this ?_))
       cases wds n true [] with
       | none => rfl
       | some ws => simp [wres]
      | cons d t =>
       have e2 : bt (ofL l) ((p ++ c :: m).length : Int) = (d.toNat : Int) := bt_ofL_mid (l := l) (p := p ++ c :: m) (c := d) (r := t) (by rw [h2, h4]; simp)
       have h32 : (d.toNat : Int) = 32 ↔ d = 32 := u8_eq d 32 (by omega)
       simp only [List.length_cons] at hm
       rw [e2]
       clear e2
       refine vp (by omega) (vp (by omega) ?_)
       by_cases c3 : (d.toNat : Int) = 32
       ·
        rw [if_pos (Or.inr (by rw [h32.mp c3]; rfl))]
        refine vp c3 (vp (by omega) (vq this ?_))
        cases wds n true (d :: t) with
        | none => rfl
        | some ws => simp [wres]
       ·
        rw [if_neg (by simp only [List.head?_cons, Option.some.injEq, reduceCtorEq, false_or]; exact fun hh => c3 (h32.mpr hh))]
        exact vn c3 (vq (vs _) rfl)
    ·
     rw [if_neg (fun hh => c2 (h34.mpr hh))]
     refine vn c2 ?_
     have hsw := split_while atB (c :: r)
     have hlen := congrArg List.length hsw
     rw [List.length_append, List.length_cons] at hlen
     have key := spec_l1Words_run l acc hl (by omega) p (wres acc (if (c :: r).takeWhile atB = [] then none else (wds n false ((c :: r).dropWhile atB)).map ((c :: r).takeWhile atB :: ·))) (c :: r) [] h2 rfl (fun hh => by rw [List.nil_append] at hh; rw [if_pos hh]; rfl)
     refine (key (fun hh hn => ?_) (fun hh hn => ?_)) |> fun hq => by simpa using hq
     ·
      rw [List.nil_append] at hh
      have hne : 0 < ((c :: r).takeWhile atB).length := List.length_pos_iff.mpr hh
      rw [if_neg hh, wds_false _ _ (by omega), if_neg hn]; rfl
     ·
      rw [List.nil_append] at hh ⊢
      have hne : 0 < ((c :: r).takeWhile atB).length := List.length_pos_iff.mpr hh
      rw [if_neg hh, wds_false _ _ (by omega), if_pos hn]
      have := ih ((c :: r).dropWhile atB) (p ++ (c :: r).takeWhile atB) (acc ++ [(c :: r).takeWhile atB]) (by omega) (by rw [List.append_assoc, hsw]; exact h2) (by simp only [List.length_append, List.length_cons, List.length_nil]; omega)
      refine vq this ?_
      cases wds n true ((c :: r).dropWhile atB) with
      | none => rfl
      | some ws => simp [wres]
theorem spec_l1Words_ev (l : Str) (hl : l.length ≤ 1048576) : Ev (fun k => spec_l1Words.f k (ofL l)) (wres [] (words l)) := by
 unfold spec_l1Words.f
 exact spec_l1Words_loop l hl (l.length + 1) l [] [] (by omega) rfl (by simp)

/-! The reference's ParseKind answers as the program's. -/
theorem rdq_sp (s : Str) : ∀ n : Nat, s.length ≤ n → rdq (s ++ [32]) = (rdq s).map fun q => (q.1, q.2 ++ [32]) := by
 intro n
 induction n generalizing s with
 | zero =>
  intro h
  have : s = [] := List.length_eq_zero_iff.mp (by omega)
  subst this; rfl
 | succ n ih =>
  intro h
  cases s with
  | nil => rfl
  | cons c r =>
   simp only [List.length_cons] at h
   rw [List.cons_append, rdq_cons, rdq_cons]
   by_cases c1 : c = 34
   ·
    rw [if_pos c1, if_pos c1]; rfl
   ·
    rw [if_neg c1, if_neg c1]
    by_cases c2 : c = 92
    ·
     rw [if_pos c2, if_pos c2]
     cases r with
     | nil => rfl
     | cons d r =>
      simp only [List.length_cons] at h
      simp only [List.cons_append]
      rw [ih r (by omega)]
      cases rdq r <;> rfl
    ·
     rw [if_neg c2, if_neg c2, ih r (by omega)]
     cases rdq r <;> rfl
theorem while_sp (l : Str) : (l ++ [32]).takeWhile atB = l.takeWhile atB ∧ (l ++ [32]).dropWhile atB = l.dropWhile atB ++ [32] := by
 induction l with
 | nil => exact ⟨rfl, rfl⟩
 | cons c r ih =>
  rw [List.cons_append]
  cases e : atB c with
  | true => simp only [List.takeWhile, List.dropWhile, e]; exact ⟨congrArg _ ih.1, ih.2⟩
  | false => simp [List.takeWhile, List.dropWhile, e]
theorem wds_sp : ∀ (n : Nat) (a : Bool) (s : Str), s.length < n → wds (n + 1) a (s ++ [32]) = wds n a s := by
 intro n
 induction n with
 | zero => intro a s h; omega
 | succ n ih =>
  intro a s h
  cases s with
  | nil => rfl
  | cons c r =>
   simp only [List.length_cons] at h
   rw [List.cons_append, wds, wds, ih true r (by omega)]
   by_cases c1 : c = 32
   ·
    rw [if_pos c1, if_pos c1]
   ·
    rw [if_neg c1, if_neg c1]
    by_cases c2 : a = false
    ·
     rw [if_pos c2, if_pos c2]
    ·
     rw [if_neg c2, if_neg c2]
     by_cases c3 : c = 34
     ·
      rw [if_pos c3, if_pos c3, rdq_sp r r.length (Nat.le_refl _)]
      cases e : rdq r with
      | none => rfl
      | some q =>
       obtain ⟨w, t⟩ := q
       obtain ⟨m, h4, h5, _⟩ := rdq_suf 0 r.length r w t (Nat.le_refl _) e
       have hm : r.length = m.length + t.length := by rw [h4, List.length_append]
       simp only [Option.map_some]
       rw [ih false t (by omega)]
     ·
      rw [if_neg c3, if_neg c3]
      have hw := while_sp (c :: r)
      rw [List.cons_append] at hw
      rw [hw.1, hw.2]
      by_cases c4 : (c :: r).takeWhile atB = []
      ·
       rw [if_pos c4, if_pos c4]
      ·
       have hne : 0 < ((c :: r).takeWhile atB).length := List.length_pos_iff.mpr c4
       have hlen := congrArg List.length (split_while atB (c :: r))
       rw [List.length_append, List.length_cons] at hlen
       rw [if_neg c4, if_neg c4, ih false _ (by omega)]
theorem words_snoc (s : Str) : words (s ++ [32]) = words s := by
 unfold words
 rw [List.length_append]
 exact wds_sp (s.length + 1) true s (by omega)
theorem words_sp_cons (s : Str) : words (32 :: s) = words s := by
 unfold words
 rw [wds, if_pos rfl]; rfl
/-- What does not mind a space ahead or behind does not mind being trimmed. -/
theorem trim_ind {α : Type} (f : Str → α) (h1 : ∀ s, f (32 :: s) = f s) (h2 : ∀ s, f (s ++ [32]) = f s) (s : Str) : f (trim s) = f s := by
 have r1 : ∀ (i : Nat) (t : Str), f (List.replicate i 32 ++ t) = f t := by
  intro i
  induction i with
  | zero => intro t; rfl
  | succ i ih => intro t; rw [List.replicate_succ, List.cons_append, h1, ih]
 have r2 : ∀ (j : Nat) (t : Str), f (t ++ List.replicate j 32) = f t := by
  intro j
  induction j with
  | zero => intro t; rw [List.replicate_zero, List.append_nil]
  | succ j ih => intro t; rw [List.replicate_succ', ← List.append_assoc, h2, ih]
 obtain ⟨i, j, e⟩ := trim_split s
 have : f s = f (List.replicate i 32 ++ trim s ++ List.replicate j 32) := congrArg f e
 rw [this, r2, r1]
theorem words_trim (s : Str) : words (trim s) = words s := trim_ind words words_sp_cons words_snoc s
theorem cutB_snoc (b : UInt8) (hb : b ≠ 32) (s : Str) : cutB b (s ++ [32]) = (cutB b s).map fun x => (x.1, x.2 ++ [32]) := by
 induction s with
 | nil =>
  have h : ¬ (32 : UInt8) = b := fun h => hb h.symm
  simp [cutB, h]
 | cons c r ih =>
  rw [List.cons_append, cutB, cutB]
  by_cases h : c = b
  ·
   rw [if_pos h, if_pos h]; rfl
  ·
   rw [if_neg h, if_neg h, ih]; cases cutB b r <;> rfl
theorem par1_trim (s : Str) : par1 (trim s) = par1 s := by
 refine trim_ind par1 (fun s => ?_) (fun s => ?_) s
 ·
  unfold par1
  rw [cutB, if_neg (by decide)]
  cases cutB 61 s with
  | none => rfl
  | some x => simp only [Option.map_some, trim_cons]
 ·
  unfold par1
  rw [cutB_snoc 61 (by decide)]
  cases cutB 61 s with
  | none => rfl
  | some x => simp only [Option.map_some, words_snoc]
/-- Cut outside of quotes, or plainly: the same, or a quote stands in what is ahead. -/
theorem cut_or (b : UInt8) (s : Str) : cut0 b 0 s = cutB b s ∨ ((∀ x, cut0 b 0 s = some x → 34 ∈ x.1) ∧ (∀ x, cutB b s = some x → 34 ∈ x.1)) := by
 induction s with
 | nil => exact Or.inl rfl
 | cons c r ih =>
  rw [cut0, cutB]
  by_cases h : c = b
  ·
   rw [if_pos ⟨rfl, h⟩, if_pos h]; exact Or.inl rfl
  ·
   rw [if_neg (fun hh => h hh.2), if_neg h]
   by_cases c1 : c = 34
   ·
    right
    rw [c1]
    refine ⟨fun x hx => ?_, fun x hx => ?_⟩ <;>
    ·
     simp only [Option.map_eq_some_iff] at hx
     obtain ⟨y, _, rfl⟩ := hx
     simp
   ·
    rw [show nq 0 c = 0 by simp [nq, c1]]
    rcases ih with h2 | ⟨h2, h3⟩
    ·
     left; rw [h2]
    ·
     right
     refine ⟨fun x hx => ?_, fun x hx => ?_⟩
     ·
      simp only [Option.map_eq_some_iff] at hx
      obtain ⟨y, hy, rfl⟩ := hx
      simp [h2 y hy]
     ·
      simp only [Option.map_eq_some_iff] at hx
      obtain ⟨y, hy, rfl⟩ := hx
      simp [h3 y hy]
/-- The reference's parameter. -/
def parS (s : Str) : Option (Str × Str) := match cut0 61 0 (trim s) with
 | none => none
 | some x => match words x.2 with
  | some [w] => some (low (trim x.1), w)
  | _ => none
def Bad (o : Option (Str × Str)) : Prop := ∀ x, o = some x → 34 ∈ x.1
theorem low_mem {l : Str} (h : (34 : UInt8) ∈ l) : (34 : UInt8) ∈ low l := List.mem_map.mpr ⟨34, h, by decide⟩
theorem par_or (s : Str) : parS s = par1 s ∨ (Bad (parS s) ∧ Bad (par1 s)) := by
 rw [← par1_trim s]
 unfold parS par1
 rcases cut_or 61 (trim s) with h | ⟨h1, h2⟩
 ·
  left; rw [h]
 ·
  right
  refine ⟨fun x hx => ?_, fun x hx => ?_⟩
  ·
   cases e : cut0 61 0 (trim s) with
   | none => rw [e] at hx; cases hx
   | some y =>
    have h3 := h1 y e
    rw [e] at hx
    simp only at hx
    split at hx
    ·
     cases hx; exact low_mem (mem_trim _ _ h3 (by decide))
    ·
     cases hx
  ·
   cases e : cutB 61 (trim s) with
   | none => rw [e] at hx; cases hx
   | some y =>
    have h3 := h2 y e
    rw [e] at hx
    simp only at hx
    split at hx
    ·
     cases hx; exact low_mem (mem_trim _ _ h3 (by decide))
    ·
     cases hx
def parsS : List Str → Option (List (Str × Str))
 | [] => some []
 | s :: r => match parS s with
  | none => none
  | some x => (parsS r).map (x :: ·)
def Bads (o : Option (List (Str × Str))) : Prop := ∀ l, o = some l → ∃ x ∈ l, (34 : UInt8) ∈ x.1
theorem pars_or (r : List Str) : parsS r = pars r ∨ (Bads (parsS r) ∧ Bads (pars r)) := by
 induction r with
 | nil => exact Or.inl rfl
 | cons s r ih =>
  rw [parsS, pars]
  have badHead : ∀ (o : Option (Str × Str)) (p : Option (List (Str × Str))), Bad o → Bads (match o with
    | none => none
    | some x => p.map (x :: ·)) := by
   intro o p h l hl
   cases o with
   | none => cases hl
   | some x =>
    simp only [Option.map_eq_some_iff] at hl
    obtain ⟨y, _, rfl⟩ := hl
    exact ⟨x, by simp, h x rfl⟩
  have badTail : ∀ (o : Option (Str × Str)) (p : Option (List (Str × Str))), Bads p → Bads (match o with
    | none => none
    | some x => p.map (x :: ·)) := by
   intro o p h l hl
   cases o with
   | none => cases hl
   | some x =>
    simp only [Option.map_eq_some_iff] at hl
    obtain ⟨y, hy, rfl⟩ := hl
    obtain ⟨z, hz, h3⟩ := h y hy
    exact ⟨z, by simp [hz], h3⟩
  rcases par_or s with h | ⟨h1, h2⟩
  ·
   rcases ih with h2 | ⟨h2, h3⟩
   ·
    left; rw [h, h2]
   ·
    right; exact ⟨badTail _ _ h2, badTail _ _ h3⟩
  ·
   right; exact ⟨badHead _ _ h1, badHead _ _ h2⟩
theorem isSmall_no {l : Str} (h : (34 : UInt8) ∈ l) : isSmall l = false := by
 cases e : isSmall l with
 | false => rfl
 | true => exact absurd rfl (nmB_not 34 (isNm_all (isSmall_nm e).1 34 h)).1
theorem kvalid_bad (a b : Str) (ps : List (Str × Str)) (h : (34 : UInt8) ∈ a ∨ ∃ x ∈ ps, (34 : UInt8) ∈ x.1) : kvalid a b ps = false := by
 cases e : kvalid a b ps with
 | false => rfl
 | true =>
  obtain ⟨h1, _, _, h4, _⟩ := kvalid_split e
  rcases h with h | ⟨x, hx, h⟩
  ·
   rw [isSmall_no h] at h1; cases h1
  ·
   have := (kfl_all ps [] h4 x hx).1
   rw [isSmall_no h] at this; cases this
/-- The reference's kind. -/
def pkS (s : Str) : Option (Str × Str × List (Str × Str)) := if tvalid s = true then pkO (cut0 47 0 (trim ((parts 59 0 s).headD []))) (parsS ((parts 59 0 s).drop 1)) else none
theorem pkO_bad1 (o : Option (Str × Str)) (p : Option (List (Str × Str))) (h : Bad o) : pkO o p = none := by
 unfold pkO
 split
 ·
  rename_i x ps
  rw [kvalid_bad _ _ _ (Or.inl (low_mem (h x rfl)))]; rfl
 ·
  rfl
theorem pkO_bad2 (o : Option (Str × Str)) (p : Option (List (Str × Str))) (h : Bads p) : pkO o p = none := by
 unfold pkO
 split
 ·
  rename_i x ps
  rw [kvalid_bad _ _ _ (Or.inr (h ps rfl))]; rfl
 ·
  rfl
theorem pkS_eq (s : Str) : pkS s = pk s := by
 unfold pkS pk
 split
 ·
  rcases cut_or 47 (trim ((parts 59 0 s).headD [])) with h | ⟨h1, h2⟩
  ·
   rw [h]
   rcases pars_or ((parts 59 0 s).drop 1) with h3 | ⟨h3, h4⟩
   ·
    rw [h3]
   ·
    rw [pkO_bad2 _ _ h3, pkO_bad2 _ _ h4]
  ·
   rw [pkO_bad1 _ _ h1, pkO_bad1 _ _ h2]
 ·
  rfl
theorem spec_ParseKind_end (ok : Bool) (m u : Str) (ps : List (Str × Str)) (hm : m.length ≤ 1048576) (hu : u.length ≤ 1048576) (hz : szp ps ≤ 1048576) (hn : ps.length ≤ 1048576) :
  Ev (fun k => if ok = true then ((spec_KindValid.f k (ofL m) (ofL u) (ps.map e76)).bind fun t => (if t = true then (some (ofL m, ofL u, ps.map e76, true)) else (some ((⟨#[]⟩ : ByteArray), (⟨#[]⟩ : ByteArray), ([] : List S69), false)))) else (some ((⟨#[]⟩ : ByteArray), (⟨#[]⟩ : ByteArray), ([] : List S69), false))) (kres (fin1 ok m u ps)) := by
 cases ok with
 | false => exact vn (by simp) (vq (vs _) (by unfold fin1; rw [if_neg (by simp)]; rfl))
 | true =>
  refine vp rfl (vb (spec_KindValid_ev m u ps hm hu hz hn) ?_)
  cases e : kvalid m u ps with
  | true => exact vp rfl (vq (vs _) (by unfold fin1; rw [if_pos ⟨rfl, e⟩]; rfl))
  | false => exact vn (by simp) (vq (vs _) (by unfold fin1; rw [if_neg (by simp [e])]; rfl))
theorem cut0_len {b : UInt8} {q : Nat} {s x t : Str} (h : cut0 b q s = some (x, t)) : s.length = x.length + t.length + 1 := by
 rw [cut0_eq b s q x t h]; simp; omega
/-- What is still to be read: nothing, or a rest. -/
def rest (more : Bool) (s : Str) : List Str := if more = true then parts 59 0 s else []
theorem spec_ParseKind_loop (ok : Bool) (m u : Str) (hm : m.length ≤ 1048576) (hu : u.length ≤ 1048576) : ∀ (n : Nat) (s : Str) (more : Bool) (q : List (Str × Str)), s.length + (if more = true then 1 else 0) ≤ n → s.length + q.length + (if more = true then 1 else 0) ≤ 500 → szp q ≤ 1000 * q.length →
  Ev (fun k => spec_ParseKind.l0 k (ofL s) more ok (ofL m) (ofL u) (q.map e76)) (kres (fins ok m u q (parsS (rest more s)))) := by
 intro n
 induction n with
 | zero =>
  intro s more q h h2 h3
  cases more with
  | true => simp at h
  | false =>
   refine vc ?_
   simp only [spec_ParseKind.l0]
   refine vn (by simp) ?_
   have := spec_ParseKind_end ok m u q hm hu (by omega) (by omega)
   simpa [rest, parsS, fins] using this
 | succ n ih =>
  intro s more q h h2 h3
  cases more with
  | false =>
   refine vc ?_
   simp only [spec_ParseKind.l0]
   refine vn (by simp) ?_
   have := spec_ParseKind_end ok m u q hm hu (by omega) (by omega)
   simpa [rest, parsS, fins] using this
  | true =>
   simp only [if_true] at h h2
   have hbad : ∀ (x5 : ByteArray) (x6 : Bool) (x12 : ByteArray) (x15 : List ByteArray), Ev (fun k => spec_ParseKind.j1 k x5 x6 ok x12 x15 true (ofL m) (ofL u) (q.map e76)) (kres none) := by
    intro x5 x6 x12 x15
    refine vc ?_
    simp only [spec_ParseKind.j1]
    exact vp trivial (vs _)
   /- one part -/
   have one : ∀ (c t : Str) (more : Bool), c.length ≤ 500 → t.length + (if more = true then 1 else 0) ≤ n → t.length + (q.length + 1) + (if more = true then 1 else 0) ≤ 500 → 
     Ev (fun k => (spec_l2Trim.f k (ofL c)).bind fun t317 => ((spec_l2Cut.f k t317 61).bind fun bt318 => ((spec_l2Trim.f k bt318.2.1).bind fun t321 => ((spec_l1Words.f k t321).bind fun bt322 => (if bt318.2.2 = true then (if bt322.2 = true then (spec_ParseKind.j1 k (ofL t) more ok bt318.1 bt322.1 ((bt322.1.length : Int) != 1) (ofL m) (ofL u) (q.map e76)) else (spec_ParseKind.j1 k (ofL t) more ok bt318.1 bt322.1 true (ofL m) (ofL u) (q.map e76))) else (spec_ParseKind.j1 k (ofL t) more ok bt318.1 bt322.1 true (ofL m) (ofL u) (q.map e76))))))) (kres (fins ok m u q (parsS (c :: rest more t)))) := by
    intro c t more hc ht hq
    have htl := trim_len c
    refine vb (spec_l2Trim_ev c (by omega)) (vb (spec_l2Cut_ev (trim c) 61 (by decide) (by omega)) ?_)
    cases e : cut0 61 0 (trim c) with
    | none =>
     simp only [cres]
     refine vb (spec_l2Trim_ev [] (by simp)) (vb (spec_l1Words_ev _ (by decide)) (vn (by simp) (vq (hbad _ _ _ _) ?_)))
     rw [parsS, parS, e]; rfl
    | some x =>
     obtain ⟨a, v⟩ := x
     have hlen := cut0_len e
     have hvl := trim_len v
     have hal := trim_len a
     simp only [cres]
     refine vb (spec_l2Trim_ev v (by omega)) (vb (spec_l1Words_ev _ (by omega)) (vp trivial ?_))
     rw [words_trim]
     cases e2 : words v with
     | none =>
      refine vn (by simp [wres]) (vq (hbad _ _ _ _) ?_)
      rw [parsS, parS, e]; simp only [e2]; rfl
     | some ws =>
      simp only [wres, List.nil_append]
      refine vp trivial ?_
      by_cases h1 : ws.length = 1
      ·
       obtain ⟨w, rfl⟩ := List.length_eq_one_iff.mp h1
       have hwl := words_len e2 w (by simp)
       have e3 : parS c = some (low (trim a), w) := by rw [parS, e]; simp only [e2]
       have := ih t more (q ++ [(low (trim a), w)]) ht (by simp only [List.length_append, List.length_cons, List.length_nil]; omega) (by rw [szp_append]; simp only [szp, List.length_append, List.length_cons, List.length_nil, low_len]; omega)
       have hl := spec_LowerText_eq (trim a) (by omega)
       refine vc ?_
       simp only [spec_ParseKind.j1, List.map_cons, List.map_nil, List.length_cons, List.length_nil, List.length_map]
       refine vn (by simp) (vb (spec_l2Trim_ev a (by omega)) ?_)
       simp only [hl, Option.bind_some]
       refine vp (by omega) (vp (by omega) ?_)
       rw [parsS, e3]
       simp only
       rw [fins_cons]
       rw [List.map_append] at this
       exact this
      ·
       have e4 : ((((ws.map ofL).length : Nat) : Int) != 1) = true := by
        rw [List.length_map]; simp only [bne_iff_ne, ne_eq]; omega
       rw [e4]
       refine vq (hbad _ _ _ _) ?_
       have e3 : parS c = none := by
        rw [parS, e]
        simp only [e2]
        match ws, h1 with
        | [], _ => rfl
        | [w], h1 => exact absurd rfl h1
        | _ :: _ :: _, _ => rfl
       rw [parsS, e3]; rfl
   refine vc ?_
   simp only [spec_ParseKind.l0]
   refine vp trivial (vb (spec_l2Cut_ev s 59 (by decide) (by omega)) ?_)
   rw [rest, if_pos rfl, parts_cut]
   cases e : cut0 59 0 s with
   | none =>
    simp only [cres]
    have := one s [] false (by omega) (by simp) (by simp; omega)
    simpa [rest] using this
   | some x =>
    obtain ⟨c, t⟩ := x
    have hlen := cut0_len e
    simp only [cres]
    have := one c t true (by omega) (by simp; omega) (by simp only [if_true]; omega)
    rw [rest, if_pos rfl] at this
    exact this
theorem spec_ParseKind_ev (s : Str) (hs : s.length ≤ 1048576) : Ev (fun k => spec_ParseKind.f k (ofL s)) (kres (pk s)) := by
 rw [← pkS_eq]
 unfold spec_ParseKind.f pkS
 refine vb (spec_TextValid_ev s (by omega)) ?_
 cases et : tvalid s with
 | false => exact vn (by simp) (vq (vs _) rfl)
 | true =>
  have hsl := tvalid_len et
  refine vp rfl ?_
  rw [if_pos rfl]
  /- the head, and what is behind it -/
  have key : ∀ (h0 t : Str) (more : Bool), h0.length ≤ 200 → t.length ≤ 200 → Ev (fun k => (spec_l2Trim.f k (ofL h0)).bind fun t306 => ((spec_l2Cut.f k t306 47).bind fun bt307 => ((spec_LowerText.f bt307.1).bind fun t310 => ((spec_LowerText.f bt307.2.1).bind fun t311 => (spec_ParseKind.l0 k (ofL t) more bt307.2.2 t310 t311 ([] : List S69)))))) (kres (pkO (cut0 47 0 (trim h0)) (parsS (rest more t)))) := by
   intro h0 t more hh ht
   have htl := trim_len h0
   refine vb (spec_l2Trim_ev h0 (by omega)) (vb (spec_l2Cut_ev (trim h0) 47 (by decide) (by omega)) ?_)
   rw [pk_fins _ _ (trim h0)]
   cases e : cut0 47 0 (trim h0) with
   | none =>
    have l1 := spec_LowerText_eq (trim h0) (by omega)
    have l2 := spec_LowerText_eq [] (by simp)
    have := spec_ParseKind_loop false (low (trim h0)) (low []) (by rw [low_len]; omega) (by simp [low]) (t.length + 1) t more [] (by split <;> omega) (by simp only [List.length_nil]; split <;> omega) (by simp [szp])
    simp only [cres, l1, l2, Option.bind_some]
    simpa [low] using this
   | some x =>
    obtain ⟨a, b⟩ := x
    have hlen := cut0_len e
    have l1 := spec_LowerText_eq a (by omega)
    have l2 := spec_LowerText_eq b (by omega)
    have := spec_ParseKind_loop true (low a) (low b) (by rw [low_len]; omega) (by rw [low_len]; omega) (t.length + 1) t more [] (by split <;> omega) (by simp only [List.length_nil]; split <;> omega) (by simp [szp])
    simp only [cres, l1, l2, Option.bind_some]
    simpa using this
  refine vb (spec_l2Cut_ev s 59 (by decide) (by omega)) ?_
  rw [parts_cut]
  cases e : cut0 59 0 s with
  | none =>
   simp only [cres]
   have := key s [] false (by omega) (by simp)
   simpa [rest] using this
  | some x =>
   obtain ⟨c, t⟩ := x
   have hlen := cut0_len e
   simp only [cres]
   have := key c t true (by omega) (by omega)
   rw [rest, if_pos rfl] at this
   simpa using this

theorem slices_Index_ev (ls : List Str) (x : Str) (hn : ls.length ≤ 1000000000000000) : ∃ i : Int, Ev (fun k => slices_Index_string_string.f k (ls.map ofL) (ofL x)) i ∧ (i = -1 ∨ 0 ≤ i) ∧ (0 ≤ i ↔ x ∈ ls) := by
 unfold slices_Index_string_string.f
 rw [List.length_map]
 refine ⟨_, run_start (xs := ls) (F := fun k (_ : Nat) i => slices_Index_string_string.l0 k (ls.map ofL) (ofL x) (ls.length : Int) i) (st := fun n c => if x = c then .inl (n : Int) else .inr (n + 1)) (fin := fun _ => (-1 : Int)) (s := 0) (fun p n => n = p.length) rfl ?_ ?_, ?_, ?_⟩
 ·
  intro p c r n h hn
  subst hn
  have hz := len_mid h
  have e1 := rdOf_ofL h
  have w1 : wrap64 ((p.length : Int) + 1) = (p.length : Int) + 1 := wrap_id (by omega) (by omega)
  simp only [slices_Index_string_string.l0, e1, w1, List.length_map, toList_ofL]
  clear w1 e1
  by_cases e : x = c
  ·
   simp only [if_pos e]
   refine ⟨(fun v hv => ?_), fun s' hs => by cases hs⟩
   cases hv
   exact vp (by omega) (vp (by omega) (vp (by omega) (vs _)))
  ·
   simp only [if_neg e]
   refine ⟨(fun v hv => by cases hv), fun s' hs => ⟨?_, fun v hv => ?_⟩⟩
   ·
    cases hs; simp
   ·
    exact vp (by omega) (vp (by omega) (vp (by omega) hv))
 ·
  intro s _
  simp only [slices_Index_string_string.l0]
  exact vn (by omega) (vs _)
 ·
  have key : ∀ (r : List Str) (n : Nat), run (fun (n : Nat) c => if x = c then .inl (n : Int) else .inr (n + 1)) (fun _ => (-1 : Int)) r n = -1 ∨ 0 ≤ run (fun (n : Nat) c => if x = c then .inl (n : Int) else .inr (n + 1)) (fun _ => (-1 : Int)) r n := by
   intro r
   induction r with
   | nil => intro n; exact Or.inl rfl
   | cons c r ih =>
    intro n
    unfold run
    by_cases e : x = c
    ·
     simp only [if_pos e]; exact Or.inr (by omega)
    ·
     simp only [if_neg e]; exact ih (n + 1)
  exact key ls 0
 ·
  have key : ∀ (r : List Str) (n : Nat), 0 ≤ run (fun (n : Nat) c => if x = c then .inl (n : Int) else .inr (n + 1)) (fun _ => (-1 : Int)) r n ↔ x ∈ r := by
   intro r
   induction r with
   | nil => intro n; simp [run]
   | cons c r ih =>
    intro n
    unfold run
    by_cases e : x = c
    ·
     simp only [if_pos e]; simp [e]
    ·
     simp only [if_neg e]; rw [ih]; simp [e]
  exact key ls 0
theorem slices_Contains_ev (ls : List Str) (x : Str) (hn : ls.length ≤ 1000000000000000) : Ev (fun k => slices_Contains_string_string.f k (ls.map ofL) (ofL x)) (decide (x ∈ ls)) := by
 obtain ⟨i, hi, h1, h2⟩ := slices_Index_ev ls x hn
 unfold slices_Contains_string_string.f
 refine vb hi (vq (vs _) ?_)
 by_cases h : x ∈ ls
 ·
  rw [decide_eq_true h]; exact decide_eq_true (h2.mpr h)
 ·
  rw [decide_eq_false h]; exact decide_eq_false (fun hh => h (h2.mp hh))

/-! Lines that divide: the model. -/
def dash (b : Str) : Str := [45, 45] ++ b
def fin2 (b : Str) : Str := [45, 45] ++ b ++ [45, 45]
def dv (ls : List Str) (b : Str) : Bool := decide (dash b ∈ ls) || decide (fin2 b ∈ ls)
def lk (l b : Str) : Bool := decide (l = dash b) || decide (l = fin2 b)
theorem dv_lk (ls : List Str) (b : Str) : dv ls b = ls.any (fun l => lk l b) := by
 unfold dv
 rw [Bool.eq_iff_iff]
 simp only [lk, Bool.or_eq_true, decide_eq_true_iff, List.any_eq_true]
 constructor
 ·
  rintro (h | h)
  ·
   exact ⟨_, h, Or.inl rfl⟩
  ·
   exact ⟨_, h, Or.inr rfl⟩
 ·
  rintro ⟨x, h, rfl | rfl⟩
  ·
   exact Or.inl h
  ·
   exact Or.inr h
theorem dash_ofL (b : Str) : (⟨#[45, 45]⟩ : ByteArray) ++ ofL b = ofL (dash b) := by rw [mk_ofL, lit_list, ofL_append]; rfl
theorem fin_ofL (b : Str) : ofL (dash b) ++ (⟨#[45, 45]⟩ : ByteArray) = ofL (fin2 b) := by rw [mk_ofL, lit_list, ofL_append]; rfl
theorem dash_len (b : Str) : (dash b).length = b.length + 2 := by unfold dash; simp
theorem fin_len (b : Str) : (fin2 b).length = b.length + 4 := by unfold fin2; simp

theorem impl_divides_ev (ls : List Str) (b : Str) (hb : b.length ≤ 1000000000000000) (hn : ls.length ≤ 1000000000000000) : Ev (fun k => impl_divides.f k (ls.map ofL) (ofL b)) (dv ls b) := by
 unfold impl_divides.f dv
 have hd := dash_len b
 simp only [dash_ofL, fin_ofL, size_ofL]
 refine vp (by omega) (vb (slices_Contains_ev ls (dash b) hn) ?_)
 cases e : decide (dash b ∈ ls) with
 | true => exact vp rfl (vs _)
 | false => exact vn (by simp) (vp (by omega) (vb (slices_Contains_ev ls (fin2 b) hn) (vs _)))

theorem spec_l7Looks_eq (l b : Str) (hb : b.length ≤ 1000000000000000) : spec_l7Looks.f (ofL l) (ofL b) = some (lk l b) := by
 unfold spec_l7Looks.f lk
 have hd := dash_len b
 simp only [dash_ofL, fin_ofL, size_ofL, toList_ofL]
 rw [if_pos (by omega)]
 by_cases h : l = dash b
 ·
  rw [if_pos h, decide_eq_true h]; rfl
 ·
  rw [if_neg h, decide_eq_false h, if_pos (by omega)]
  simp only [Bool.false_or]
  congr 1
  rw [Bool.eq_iff_iff]; simp

/-! Parts joined: the model. -/
def jb (b : Str) : List (List Str) → List Str
 | [] => []
 | c :: r => dash b :: (c ++ jb b r)
def jR (b : Str) (ps : List (List Str)) : Option (List Str) := if isBd b = true ∧ ps ≠ [] ∧ ps.any (fun c => dv c b) = false then some (jb b ps ++ [fin2 b]) else none
def jres (o : Option (List Str)) : List ByteArray × Bool := match o with
 | none => ([], false)
 | some l => (l.map ofL, true)
theorem jb_len (b : Str) (ps : List (List Str)) : (jb b ps).length = tl ps := by
 induction ps with
 | nil => rfl
 | cons c r ih => simp only [jb, tl, List.length_cons, List.length_append, ih]; omega
theorem jb_append (b : Str) (a c : List (List Str)) : jb b (a ++ c) = jb b a ++ jb b c := by
 induction a with
 | nil => rfl
 | cons d a ih => simp [jb, ih]
theorem jR_bad1 {b : Str} (ps : List (List Str)) (h : isBd b = false) : jR b ps = none := by
 unfold jR; rw [if_neg (by rw [h]; simp)]
theorem jR_bad2 (b : Str) : jR b [] = none := by
 unfold jR; rw [if_neg (by simp)]
theorem jR_val {b : Str} {ps : List (List Str)} (h1 : isBd b = true) (h2 : ps ≠ []) : jres (jR b ps) = if ps.any (fun c => dv c b) = true then ([], false) else ((jb b ps ++ [fin2 b]).map ofL, true) := by
 unfold jR
 cases e : ps.any (fun c => dv c b) with
 | true => rw [if_neg (by simp), if_pos rfl]; rfl
 | false => rw [if_pos ⟨h1, h2, rfl⟩, if_neg (by simp)]; rfl

theorem impl_JoinParts_1_ev (ls : List Str) (b : Str) (hb : b.length ≤ 1000000000000) (hn : ls.length ≤ 1000000000000) : Ev (fun k => impl_JoinParts_1.f k (ls.map ofL) (ofL b)) (dv ls b) := by
 unfold impl_JoinParts_1.f
 exact vb (impl_divides_ev ls b (by omega) (by omega)) (vs _)
theorem impl_ContainsParts_ev (ps : List (List Str)) (b : Str) (hb : b.length ≤ 1000000000000) (hn : tl ps ≤ 1000000000000) : Ev (fun k => slices_ContainsFunc_string_string_JoinParts_1.f k (ps.map (List.map ofL)) (ofL b)) (ps.any (fun c => dv c b)) := by
 unfold slices_ContainsFunc_string_string_JoinParts_1.f slices_IndexFunc_string_string_JoinParts_1.f
 have hl := tl_len ps
 have key : ∀ (r : List (List Str)) (n : Nat), decide (run (fun (n : Nat) c => if dv c b = true then .inl (n : Int) else .inr (n + 1)) (fun _ => (-1 : Int)) r n ≥ 0) = r.any (fun c => dv c b) := by
  intro r
  induction r with
  | nil => intro n; rfl
  | cons c r ih =>
   intro n
   unfold run
   cases e : dv c b with
   | true => simp [e]
   | false => simp only [Bool.false_eq_true, if_false, ih, List.any_cons, e, Bool.false_or]
 rw [List.length_map]
 refine vb (run_start (xs := ps) (F := fun k (_ : Nat) i => slices_IndexFunc_string_string_JoinParts_1.l0 k (ps.map (List.map ofL)) (ps.length : Int) i (ofL b)) (st := fun n c => if dv c b = true then .inl (n : Int) else .inr (n + 1)) (fin := fun _ => (-1 : Int)) (s := 0) (fun p n => n = p.length) rfl ?_ ?_) (vq (vs _) (key ps 0))
 ·
  intro p c r n h hn'
  subst hn'
  have hz := len_mid h
  have hc : c.length ≤ tl ps := tl_mem (by rw [h]; simp)
  have e1 := rdLL_mid h
  have w1 : wrap64 ((p.length : Int) + 1) = (p.length : Int) + 1 := wrap_id (by omega) (by omega)
  simp only [slices_IndexFunc_string_string_JoinParts_1.l0, e1, w1, List.length_map]
  clear w1 e1
  have hd := impl_JoinParts_1_ev c b hb (by omega)
  cases e : dv c b with
  | true =>
   simp only [if_true]
   rw [e] at hd
   refine ⟨(fun v hv => ?_), fun s' hs => by cases hs⟩
   cases hv
   exact vp (by omega) (vp (by omega) (vp (by omega) (vb hd (vp rfl (vs _)))))
  | false =>
   rw [e] at hd
   refine ⟨(fun v hv => by cases hv), fun s' hs => ⟨?_, fun v hv => ?_⟩⟩
   ·
    cases hs; simp
   ·
    exact vp (by omega) (vp (by omega) (vp (by omega) (vb hd (vn (by simp) hv))))
 ·
  intro s _
  simp only [slices_IndexFunc_string_string_JoinParts_1.l0]
  exact vn (by omega) (vs _)
theorem impl_JoinParts_ev (ps : List (List Str)) (b : Str) (hb : b.length ≤ 1000000000000) (hn : tl ps ≤ 1000000000000) : Ev (fun k => impl_JoinParts.f k (ps.map (List.map ofL)) (ofL b)) (jres (jR b ps)) := by
 have hl := tl_len ps
 have hd := dash_len b
 have hbad : ∀ ps : List (List Str), Ev (fun k => impl_JoinParts.j0 k (ps.map (List.map ofL)) true (ofL b)) (jres none) := by
  intro ps
  refine vc ?_
  simp only [impl_JoinParts.j0]
  exact vp trivial (vs _)
 unfold impl_JoinParts.f
 refine vb (impl_isBoundary_ev b (by omega)) ?_
 unfold jR
 cases e1 : isBd b with
 | false =>
  rw [if_neg (by simp)]
  exact vn (by simp) (hbad ps)
 | true =>
  refine vp rfl ?_
  rw [List.length_map]
  by_cases e2 : ps = []
  ·
   rw [if_neg (by simp [e2])]
   exact vp (by simp [e2]) (hbad ps)
  ·
   have h2 : ps.length ≠ 0 := by rw [ne_eq, List.length_eq_zero_iff]; exact e2
   refine vn (by omega) (vb (impl_ContainsParts_ev ps b hb hn) ?_)
   cases e3 : ps.any (fun c => dv c b) with
   | true =>
    rw [if_neg (by simp)]
    exact hbad ps
   | false =>
    rw [if_pos ⟨rfl, e2, rfl⟩]
    refine vc ?_
    simp only [impl_JoinParts.j0, Bool.false_eq_true, if_false, List.length_map]
    refine vq (run_start (xs := ps) (F := fun k (out : List Str) i => impl_JoinParts.l0 k (out.map ofL) (ps.map (List.map ofL)) (ps.length : Int) i (ofL b)) (st := fun out c => .inr (out ++ (dash b :: c))) (fin := fun out => jres (some (out ++ [fin2 b]))) (s := []) (fun p out => out = jb b p) rfl ?_ ?_) ?_
    ·
     intro p c r out h ho
     have hz := len_mid h
     have e1 := rdLL_mid h
     have hlen : out.length = tl p := by rw [ho, jb_len]
     have htl : tl ps = tl p + (c.length + 1 + tl r) := by rw [h, tl_append]; rfl
     have w1 : wrap64 ((p.length : Int) + 1) = (p.length : Int) + 1 := wrap_id (by omega) (by omega)
     simp only [impl_JoinParts.l0, e1, w1, List.length_map, dash_ofL, size_ofL, Option.bind_some, List.length_append, List.length_cons, List.length_nil]
     clear w1 e1
     refine ⟨(fun v hv => by cases hv), fun s' hs => ⟨?_, fun v hv => ?_⟩⟩
     ·
      cases hs; rw [ho, jb_append]; simp [jb]
     ·
      cases hs
      refine vp (by omega) (vp (by omega) (vp (by omega) (vp (by omega) (vp (by omega) (vp (by omega) ?_)))))
      have e5 : out.map ofL ++ [ofL (dash b)] ++ c.map ofL = (out ++ (dash b :: c)).map ofL := by simp
      rw [e5]
      exact hv
    ·
     intro out ho
     have hlen : out.length = tl ps := by rw [ho, jb_len]
     have hd4 := fin_len b
     simp only [impl_JoinParts.l0, dash_ofL, fin_ofL, size_ofL, List.length_map]
     refine vn (by omega) (vp (by omega) (vp (by omega) (vp (by omega) (vq (vs _) ?_))))
     simp [jres]
    ·
     have key : ∀ (r : List (List Str)) (out : List Str), run (fun out c => .inr (out ++ (dash b :: c))) (fun out => jres (some (out ++ [fin2 b]))) r out = jres (some (out ++ jb b r ++ [fin2 b])) := by
      intro r
      induction r with
      | nil => intro out; simp [run, jb]
      | cons c r ih => intro out; unfold run; simp only; rw [ih]; simp [jb]
     exact key ps []

theorem spec_JoinParts_l1 (ps : List (List Str)) (b : Str) (hb : b.length ≤ 1000000000000) (hn : tl ps ≤ 1000000000000) (p r : List (List Str)) (c : List Str) (h : ps = p ++ c :: r) (out : List Str) (ho : out.length ≤ tl p + 1) (V : List ByteArray × Bool)
  (hV : c.any (fun l => lk l b) = false → Ev (fun k => spec_JoinParts.l0 k (ps.map (List.map ofL)) (ofL b) ((out ++ c).map ofL) ((p.length : Int) + 1)) V) :
  Ev (fun k => spec_JoinParts.l1 k (ps.map (List.map ofL)) (ofL b) (out.map ofL) (p.length : Int) 0) (if c.any (fun l => lk l b) = true then ([], false) else V) := by
 have hz := len_mid h
 have hl := tl_len ps
 have e1 := rdLL_mid h
 have htl : tl ps = tl p + (c.length + 1 + tl r) := by rw [h, tl_append]; rfl
 have w0 : wrap64 ((p.length : Int) + 1) = (p.length : Int) + 1 := wrap_id (by omega) (by omega)
 refine vq (run_start (xs := c) (F := fun k (o : List Str) i => spec_JoinParts.l1 k (ps.map (List.map ofL)) (ofL b) (o.map ofL) (p.length : Int) i) (st := fun o l => if lk l b = true then .inl ([], false) else .inr (o ++ [l])) (fin := fun _ => V) (s := out) (fun q o => o = out ++ q ∧ q.any (fun l => lk l b) = false) ⟨by simp, rfl⟩ ?_ ?_) ?_
 ·
  rintro q l s o hc ⟨ho2, hq⟩
  have hzc := len_mid hc
  have e2 := rdOf_ofL hc
  have hlo : o.length = out.length + q.length := by rw [ho2, List.length_append]
  have w1 : wrap64 ((q.length : Int) + 1) = (q.length : Int) + 1 := wrap_id (by omega) (by omega)
  simp only [spec_JoinParts.l1, e1, e2, w1, List.length_map]
  clear w1 e2 w0
  have hk := spec_l7Looks_eq l b (by omega)
  cases e : lk l b with
  | true =>
   rw [e] at hk
   simp only [if_true]
   refine ⟨(fun v hv => ?_), fun s' hs => by cases hs⟩
   cases hv
   exact vp (by omega) (vp (by omega) (vp (by omega) (vp (by omega) (ev_bind0 hk (vp rfl (vs _))))))
  | false =>
   rw [e] at hk
   refine ⟨(fun v hv => by cases hv), fun s' hs => ⟨?_, fun v hv => ?_⟩⟩
   ·
    cases hs; exact ⟨by rw [ho2]; simp, by simp [List.any_append, hq, e]⟩
   ·
    cases hs
    refine vp (by omega) (vp (by omega) (vp (by omega) (vp (by omega) (ev_bind0 hk (vn (by simp) (vp (by omega) ?_))))))
    have e5 : o.map ofL ++ [ofL l] = (o ++ [l]).map ofL := by simp
    rw [e5]
    exact hv
 ·
  rintro o ⟨ho2, hq⟩
  simp only [spec_JoinParts.l1, e1, w0, List.length_map]
  clear w0
  rw [ho2]
  exact vp (by omega) (vp (by omega) (vn (by omega) (hV hq)))
 ·
  have key : ∀ (r : List Str) (o : List Str), run (fun o l => if lk l b = true then .inl ([], false) else .inr (o ++ [l])) (fun _ => V) r o = if r.any (fun l => lk l b) = true then ([], false) else V := by
   intro r
   induction r with
   | nil => intro o; rfl
   | cons c r ih =>
    intro o
    unfold run
    cases e : lk c b with
    | true => simp [e]
    | false => simp only [Bool.false_eq_true, if_false, ih, List.any_cons, e, Bool.false_or]
  exact key c out
theorem spec_JoinParts_l0 (ps : List (List Str)) (b : Str) (hb : b.length ≤ 1000000000000) (hn : tl ps ≤ 1000000000000) (r : List (List Str)) : ∀ (p : List (List Str)), ps = p ++ r → Ev (fun k => spec_JoinParts.l0 k (ps.map (List.map ofL)) (ofL b) ((jb b p).map ofL) (p.length : Int)) (if r.any (fun c => dv c b) = true then ([], false) else ((jb b ps ++ [fin2 b]).map ofL, true)) := by
 have hd := dash_len b
 have hd4 := fin_len b
 induction r with
 | nil =>
  intro p h
  rw [List.append_nil] at h
  subst h
  have hlen := jb_len b ps
  refine vc ?_
  simp only [spec_JoinParts.l0, dash_ofL, fin_ofL, size_ofL, List.length_map]
  refine vn (by omega) (vp (by omega) (vp (by omega) (vp (by omega) (vq (vs _) ?_))))
  simp
 | cons c r ih =>
  intro p h
  have hz := len_mid h
  have hl := tl_len ps
  have hlen := jb_len b p
  have htl : tl ps = tl p + (c.length + 1 + tl r) := by rw [h, tl_append]; rfl
  have h1 := ih (p ++ [c]) (by rw [h]; simp)
  rw [len_snoc] at h1
  have e5 : jb b (p ++ [c]) = jb b p ++ [dash b] ++ c := by rw [jb_append]; simp [jb]
  rw [e5] at h1
  have h2 := spec_JoinParts_l1 ps b hb hn p r c h (jb b p ++ [dash b]) (by rw [List.length_append, hlen]; simp) _ (fun _ => h1)
  refine vc ?_
  simp only [spec_JoinParts.l0, dash_ofL, size_ofL, List.length_map]
  have e6 : (jb b p).map ofL ++ [ofL (dash b)] = (jb b p ++ [dash b]).map ofL := by simp
  rw [e6]
  refine vp (by omega) (vp (by omega) (vp (by omega) (vq h2 ?_)))
  rw [← dv_lk, List.any_cons]
  cases dv c b <;> simp
theorem spec_JoinParts_ev (ps : List (List Str)) (b : Str) (hb : b.length ≤ 1000000000000) (hn : tl ps ≤ 1000000000000) : Ev (fun k => spec_JoinParts.f k (ps.map (List.map ofL)) (ofL b)) (jres (jR b ps)) := by
 have hbad : Ev (fun k => spec_JoinParts.j0 k (ps.map (List.map ofL)) (ofL b) [] true) (jres none) := by
  refine vc ?_
  simp only [spec_JoinParts.j0]
  exact vp trivial (vs _)
 unfold spec_JoinParts.f
 simp only [Option.bind_some, List.length_map]
 refine vb (spec_l7Boundary_ev b (by omega)) ?_
 cases e1 : isBd b with
 | false =>
  rw [jR_bad1 ps e1]
  exact vn (by simp) hbad
 | true =>
  refine vp rfl ?_
  by_cases e2 : ps = []
  ·
   subst e2
   rw [jR_bad2]
   exact hbad
  ·
   have h2 : ps.length ≠ 0 := by rw [ne_eq, List.length_eq_zero_iff]; exact e2
   have : ((ps.length : Int) == 0) = false := by rw [beq_eq_false_iff_ne]; omega
   rw [this, jR_val e1 e2]
   refine vc ?_
   simp only [spec_JoinParts.j0]
   exact vn (by simp) (spec_JoinParts_l0 ps b hb hn ps [] rfl)

/-! Parts: rows of texts, and parts within parts. -/
inductive Pt where
 | mk (f : List (Str × Str)) (b : List Str) (k : List Pt)
mutual
def e32 : Pt → S28
 | .mk f b k => ⟨f.map e76, b.map ofL, e32s k⟩
def e32s : List Pt → List S28
 | [] => []
 | p :: r => e32 p :: e32s r
end
theorem e32s_map (k : List Pt) : e32s k = k.map e32 := by
 induction k with
 | nil => rfl
 | cons p r ih => rw [e32s, ih]; rfl
theorem e32_mk (f : List (Str × Str)) (b : List Str) (k : List Pt) : e32 (.mk f b k) = ⟨f.map e76, b.map ofL, k.map e32⟩ := by rw [e32, e32s_map]
theorem rd32_mid {ls p r : List Pt} {c : Pt} (h : ls = p ++ c :: r) : rd_T28 (ls.map e32) (p.length : Int) = e32 c := by
 unfold rd_T28
 rw [List.getD_eq_getElem?_getD, h]
 simp
mutual
def szt : Pt → Nat
 | .mk f b k => f.length + szp f + b.length + szs b + k.length + szts k
def szts : List Pt → Nat
 | [] => 0
 | p :: r => szt p + szts r
end
theorem szts_mem {k : List Pt} {p : Pt} (h : p ∈ k) : szt p ≤ szts k := by
 induction k with
 | nil => cases h
 | cons d a ih =>
  rw [szts]
  rcases List.mem_cons.mp h with rfl | h
  ·
   omega
  ·
   have := ih h; omega
mutual
def smt : Pt → Pt → Bool
 | .mk f b k, .mk g c l => decide (f = g) && (decide (b = c) && (decide (k.length = l.length) && smts k l))
def smts : List Pt → List Pt → Bool
 | [], _ => true
 | _ :: _, [] => false
 | p :: r, q :: s => smt p q && smts r s
end
/-- What holds of a part if it holds of it where it holds of all its parts. -/
theorem pt_ind {P : Pt → Prop} (h : ∀ f b k, (∀ p ∈ k, P p) → P (.mk f b k)) (p : Pt) : P p := by
 have key : ∀ (n : Nat) (p : Pt), SizeOf.sizeOf p < n → P p := by
  intro n
  induction n with
  | zero => intro p hp; omega
  | succ n ih =>
   intro p hp
   cases p with
   | mk f b k =>
    refine h f b k fun q hq => ih q ?_
    have := List.sizeOf_lt_of_mem hq
    simp only [Pt.mk.sizeOf_spec] at hp
    omega
 exact key _ p (Nat.lt_succ_self _)

mutual
def e26 : Pt → S44
 | .mk f b k => ⟨f.map e91, b.map ofL, e26s k⟩
def e26s : List Pt → List S44
 | [] => []
 | p :: r => e26 p :: e26s r
end
theorem e26s_map (k : List Pt) : e26s k = k.map e26 := by
 induction k with
 | nil => rfl
 | cons p r ih => rw [e26s, ih]; rfl
theorem e26_mk (f : List (Str × Str)) (b : List Str) (k : List Pt) : e26 (.mk f b k) = ⟨f.map e91, b.map ofL, k.map e26⟩ := by rw [e26, e26s_map]
theorem rd26_mid {ls p r : List Pt} {c : Pt} (h : ls = p ++ c :: r) : rd_T44 (ls.map e26) (p.length : Int) = e26 c := by
 unfold rd_T44
 rw [List.getD_eq_getElem?_getD, h]
 simp
/-- Parts whose sizes memory can hold. -/
inductive SaneT : Pt → Prop
 | mk (f : List (Str × Str)) (b : List Str) (k : List Pt) (h0 : f.length ≤ 9223372036854775807) (g0 : sane f) (h1 : b.length ≤ 9223372036854775807) (g1 : ∀ x ∈ b, x.length ≤ 9223372036854775807) (h2 : k.length ≤ 9223372036854775807) (g2 : ∀ p ∈ k, SaneT p) : SaneT (.mk f b k)
theorem szPart_ev (p : Pt) (hp : SaneT p) : ∀ left : Nat, left ≤ 1048576 → ∃ v : Int, Ev (fun n => laws_szPart.f n (e26 p).f0 (e26 p).f1 (e26 p).f2 (left : Int)) v ∧ v ≤ left ∧ (0 ≤ v → v = (left : Int) - szt p) := by
 induction hp with
 | mk f b k h0 g0 h1 g1 h2 g2 ih =>
  intro left hle
  have key : ∀ (r p : List Pt) (left : Nat), k = p ++ r → left ≤ 1048576 → ∃ v : Int, Ev (fun n => laws_szPartS.l0 n (k.map e26) (left : Int) (p.length : Int)) v ∧ v ≤ left ∧ (0 ≤ v → v = (left : Int) - szts r) := by
   intro r
   induction r with
   | nil =>
    intro p left h hle
    have hz : k.length = p.length := by rw [h, List.append_nil]
    refine ⟨left, vc ?_, Int.le_refl _, fun _ => by simp [szts]⟩
    simp only [laws_szPartS.l0, List.length_map]
    exact vn (by omega) (vs _)
   | cons c r ihr =>
    intro p left h hle
    have hz := len_mid h
    have e1 := rd26_mid h
    have w1 : wrap64 ((p.length : Int) + 1) = (p.length : Int) + 1 := wrap_id (by omega) (by omega)
    obtain ⟨v, hv, hv1, hv2⟩ := ih c (by rw [h]; simp) left hle
    by_cases hlt : v < 0
    ·
     refine ⟨-1, vc ?_, by omega, fun h => by omega⟩
     simp only [laws_szPartS.l0, List.length_map, e1, w1]
     clear w1
     exact vp (by omega) (vp (by omega) (vb hv (vp hlt (vs _))))
    ·
     have hvv := hv2 (by omega)
     obtain ⟨m, rfl⟩ := Int.eq_ofNat_of_zero_le (a := v) (by omega)
     obtain ⟨u, hu, hu1, hu2⟩ := ihr (p ++ [c]) m (by rw [h]; simp) (by omega)
     rw [len_snoc] at hu
     refine ⟨u, vc ?_, by omega, fun h0 => by have := hu2 h0; simp only [szts]; omega⟩
     simp only [laws_szPartS.l0, List.length_map, e1, w1]
     clear w1
     exact vp (by omega) (vp (by omega) (vb hv (vn hlt hu)))
  simp only [e26_mk]
  obtain ⟨v, hv, hv1, hv2⟩ := szFieldS_ev f g0 (by omega) left hle
  by_cases c1 : v < 0
  ·
   refine ⟨-1, vc ?_, by omega, fun h => by omega⟩
   simp only [laws_szPart.f]
   exact vb hv (vp c1 (vs _))
  have hvv := hv2 (by omega)
  obtain ⟨m, rfl⟩ := Int.eq_ofNat_of_zero_le (a := v) (by omega)
  obtain ⟨u, hu, hu1, hu2⟩ := laws_szStringS_ev b g1 (by omega) m (by omega)
  by_cases c2 : u < 0
  ·
   refine ⟨-1, vc ?_, by omega, fun h => by omega⟩
   simp only [laws_szPart.f]
   exact vb hv (vn c1 (vb hu (vp c2 (vs _))))
  have huu := hu2 (by omega)
  obtain ⟨i, rfl⟩ := Int.eq_ofNat_of_zero_le (a := u) (by omega)
  have w1 : wrap64 ((i : Int) - (k.length : Int)) = (i : Int) - (k.length : Int) := wrap_id (by omega) (by omega)
  by_cases c3 : (i : Int) - (k.length : Int) < 0
  ·
   refine ⟨-1, vc ?_, by omega, fun h => by omega⟩
   simp only [laws_szPart.f, List.length_map]
   exact vb hv (vn c1 (vb hu (vn c2 (vb (vp (by rw [w1]; exact c3) (vs _)) (vp (by omega) (vs _))))))
  obtain ⟨j, hj⟩ := Int.eq_ofNat_of_zero_le (a := (i : Int) - (k.length : Int)) (by omega)
  obtain ⟨t, ht, ht1, ht2⟩ := key k [] j rfl (by omega)
  rw [← hj, ← w1] at ht
  by_cases c4 : t < 0
  ·
   refine ⟨-1, vc ?_, by omega, fun h => by omega⟩
   simp only [laws_szPart.f, List.length_map]
   exact vb hv (vn c1 (vb hu (vn c2 (vb (vn (by rw [w1]; exact c3) ht) (vp c4 (vs _))))))
  ·
   refine ⟨t, vc ?_, by omega, fun h => by have := ht2 h; rw [szt]; omega⟩
   simp only [laws_szPart.f, List.length_map]
   exact vb hv (vn c1 (vb hu (vn c2 (vb (vn (by rw [w1]; exact c3) ht) (vn c4 (vs _))))))
theorem toPart_ev (p : Pt) : szt p ≤ 1048576 → Ev (fun n => laws_toPart.f n (e26 p).f0 (e26 p).f1 (e26 p).f2) ((e32 p).f0, (e32 p).f1, (e32 p).f2) := by
 refine pt_ind (P := fun p => szt p ≤ 1048576 → Ev (fun n => laws_toPart.f n (e26 p).f0 (e26 p).f1 (e26 p).f2) ((e32 p).f0, (e32 p).f1, (e32 p).f2)) (fun f b k ih hs => ?_) p
 rw [szt] at hs
 have key : ∀ (r p : List Pt), k = p ++ r → Ev (fun n => laws_toPartS.l0 n (k.map e26) (p.map e32 ++ List.replicate r.length z28) (p.length : Int)) (k.map e32) := by
  intro r
  induction r with
  | nil =>
   intro p h
   have hz : k.length = p.length := by rw [h, List.append_nil]
   refine vc ?_
   simp only [laws_toPartS.l0, List.length_map]
   refine vn (by omega) (vq (vs _) ?_)
   rw [h]; simp
  | cons c r ihr =>
   intro p h
   have hz := len_mid h
   have e1 := rd26_mid h
   have w1 : wrap64 ((p.length : Int) + 1) = (p.length : Int) + 1 := wrap_id (by omega) (by omega)
   have hm : c ∈ k := by rw [h]; simp
   have hc := ih c hm (by have := szts_mem hm; omega)
   have := ihr (p ++ [c]) (by rw [h]; simp)
   rw [len_snoc] at this
   have e2 : (p.map e32 ++ List.replicate (r.length + 1) z28).set p.length (⟨(e32 c).f0, (e32 c).f1, (e32 c).f2⟩ : S28) = (p ++ [c]).map e32 ++ List.replicate r.length z28 := by
    rw [List.set_append_right _ _ (by simp), List.length_map, Nat.sub_self, List.replicate_succ, List.set_cons_zero, List.map_append, List.append_assoc]
    simp only [List.map_cons, List.map_nil, List.cons_append, List.nil_append]
    cases e32 c
    rfl
   rw [← e2] at this
   refine vc ?_
   simp only [laws_toPartS.l0, List.length_map, e1, w1, Int.toNat_natCast, List.length_cons]
   clear w1
   exact vp (by omega) (vp (by omega) (vb hc (vp (by simp; omega) this)))
 have hk := key k [] rfl
 simp only [e26_mk, e32_mk]
 refine vc ?_
 simp only [laws_toPart.f, List.length_map, Int.toNat_natCast]
 exact vb (toFieldS_ev f (by omega)) (vb (laws_toStringS_ev b (by omega)) (vb (vp (by omega) (vp (by omega) hk)) (vs _)))
theorem eqPart_ev (p : Pt) : szt p ≤ 1048576 → Ev (fun n => laws_eqPart.f n (e32 p).f0 (e32 p).f1 (e32 p).f2 (e32 p).f0 (e32 p).f1 (e32 p).f2) true := by
 refine pt_ind (P := fun p => szt p ≤ 1048576 → Ev (fun n => laws_eqPart.f n (e32 p).f0 (e32 p).f1 (e32 p).f2 (e32 p).f0 (e32 p).f1 (e32 p).f2) true) (fun f b k ih hs => ?_) p
 rw [szt] at hs
 have key : ∀ (r p : List Pt), k = p ++ r → Ev (fun n => laws_eqPartS.l0 n (k.map e32) (k.map e32) (p.length : Int)) true := by
  intro r
  induction r with
  | nil =>
   intro p h
   have hz : k.length = p.length := by rw [h, List.append_nil]
   refine vc ?_
   simp only [laws_eqPartS.l0, List.length_map]
   exact vn (by omega) (vs _)
  | cons c r ihr =>
   intro p h
   have hz := len_mid h
   have e1 := rd32_mid h
   have w1 : wrap64 ((p.length : Int) + 1) = (p.length : Int) + 1 := wrap_id (by omega) (by omega)
   have hm : c ∈ k := by rw [h]; simp
   have hc := ih c hm (by have := szts_mem hm; omega)
   have := ihr (p ++ [c]) (by rw [h]; simp)
   rw [len_snoc] at this
   refine vc ?_
   simp only [laws_eqPartS.l0, List.length_map, e1, w1]
   clear w1
   exact vp (by omega) (vp (by omega) (vp (by omega) (vb hc (vp (by simp) this))))
 have hk := key k [] rfl
 simp only [e32_mk]
 refine vc ?_
 simp only [laws_eqPart.f]
 have hb := laws_eqStringS_ev b b (by omega)
 rw [decide_eq_true rfl] at hb
 exact vb (eqFieldS_ev f (by omega)) (vp (by simp) (vb hb (vp (by simp) (vb (vp (by simp) hk) (vp (by simp) (vs _))))))

/-! Fields folded to lines. -/
def okp (l : Str) (i : Nat) : Bool := decide (bt (ofL l) (i : Int) = 32) && (!decide (bt (ofL l) ((i : Int) - 1) = 32) && !decide (bt (ofL l) ((i : Int) + 1) = 32))
def pickB (l : Str) (i : Nat) (b : Int) : Int := if okp l i = true ∧ (b < 0 ∨ i ≤ 40) then (i : Int) else b
def brk (l : Str) : Nat → Nat → Int → Int
 | 0, _, b => b
 | n + 1, i, b => brk l n (i + 1) (pickB l i b)
def brk1 (l : Str) (i : Nat) : Int := brk l (l.length - 1 - i) i (-1)
theorem brk_range (l : Str) : ∀ (n i : Nat) (b : Int), brk l n i b = b ∨ ((i : Int) ≤ brk l n i b ∧ brk l n i b < i + n)
 | 0, _, _ => .inl rfl
 | n + 1, i, b => by
  rw [brk]
  rcases brk_range l n (i + 1) (pickB l i b) with h | h
  ·
   rw [h]
   unfold pickB
   by_cases c : okp l i = true ∧ (b < 0 ∨ i ≤ 40)
   ·
    rw [if_pos c]; exact .inr ⟨by omega, by omega⟩
   ·
    rw [if_neg c]; exact .inl rfl
  ·
   exact .inr ⟨by omega, by omega⟩
theorem brk1_range (l : Str) (i : Nat) : brk1 l i < 0 ∨ ((i : Int) ≤ brk1 l i ∧ brk1 l i < l.length) := by
 unfold brk1
 rcases brk_range l (l.length - 1 - i) i (-1) with h | h
 ·
  exact .inl (by omega)
 ·
  exact .inr ⟨h.1, by omega⟩
def fl : Nat → Str → Nat → List Str
 | 0, l, _ => [l]
 | n + 1, l, i => if l.length > 40 then (if brk1 l i < 0 then [l] else l.take (brk1 l i).toNat :: fl n (l.drop (brk1 l i).toNat) 2) else [l]
theorem fl_len : ∀ (n : Nat) (l : Str) (i : Nat), 1 ≤ i → (fl n l i).length ≤ l.length + 1
 | 0, l, i, _ => by simp [fl]
 | n + 1, l, i, hi => by
  rw [fl]
  by_cases c : l.length > 40
  ·
   rw [if_pos c]
   by_cases d : brk1 l i < 0
   ·
    rw [if_pos d]; simp
   ·
    rw [if_neg d]
    have := brk1_range l i
    have h2 := fl_len n (l.drop (brk1 l i).toNat) 2 (by omega)
    rw [List.length_drop] at h2
    rw [List.length_cons]
    omega
  ·
   rw [if_neg c]; simp
/-- The lines of a field. -/
def fldL (f : Str × Str) : Str := (f.1 ++ [58]) ++ (if f.2 = [] then [] else 32 :: f.2)
def ffold (f : Str × Str) : List Str := fl (fldL f).length (fldL f) (f.1.length + 3)
theorem acc_snoc (acc : List Str) (l : Str) : acc.map ofL ++ [ofL l] = (acc ++ [l]).map ofL := by rw [List.map_append]; rfl
theorem impl_fold_l1 (l : Str) (acc : List Str) (hl : l.length ≤ 1048576) (V : List ByteArray) : ∀ (n i : Nat) (b : Int), n = l.length - 1 - i → 1 ≤ i → i ≤ 1048579 →
  Ev (fun k => if brk l n i b < 0 then (if (acc.map ofL).length < 8796093022208 then (some ((acc.map ofL) ++ [ofL l])) else (none)) else (if 0 ≤ brk l n i b then (if brk l n i b ≤ ((ofL l).size : Int) then (if (acc.map ofL).length < 8796093022208 then (impl_foldField.l0 k ((ofL l).extract (brk l n i b : Int).toNat (ofL l).size) 2 ((acc.map ofL) ++ [(ofL l).extract 0 (brk l n i b : Int).toNat])) else (none)) else (none)) else (none))) V →
  Ev (fun k => impl_foldField.l1 k (ofL l) (acc.map ofL) b (i : Int)) V := by
 intro n
 induction n with
 | zero =>
  intro i b hn hi hi2 hE
  have w1 : wrap64 ((i : Int) + 1) = (i : Int) + 1 := wrap_id (by omega) (by omega)
  refine vc ?_
  simp only [impl_foldField.l1, w1]
  clear w1
  rw [brk] at hE
  exact vn (by rw [size_ofL]; omega) hE
 | succ n ih =>
  intro i b hn hi hi2 hE
  have w1 : wrap64 ((i : Int) + 1) = (i : Int) + 1 := wrap_id (by omega) (by omega)
  have w2 : wrap64 ((i : Int) - 1) = (i : Int) - 1 := wrap_id (by omega) (by omega)
  have hs := size_ofL l
  rw [brk] at hE
  have go := ih (i + 1) (pickB l i b) (by omega) (by omega) (by omega) hE
  rw [show ((i + 1 : Nat) : Int) = (i : Int) + 1 by omega] at go
  clear hE ih
  refine vc ?_
  simp only [impl_foldField.l1, w1, w2]
  clear w1 w2
  refine vp (by omega) (vp (by omega) (vp (by omega) ?_))
  by_cases c1 : bt (ofL l) (i : Int) = 32
  ·
   refine vp c1 (vp (by omega) (vp (by omega) ?_))
   by_cases c2 : bt (ofL l) ((i : Int) - 1) = 32
   ·
    refine vp c2 ?_
    have e : pickB l i b = b := by unfold pickB okp; rw [if_neg (by simp [c2])]
    rw [e] at go
    exact go
   ·
    refine vn c2 (vp (by omega) ?_)
    by_cases c3 : bt (ofL l) ((i : Int) + 1) = 32
    ·
     refine vp c3 ?_
     have e : pickB l i b = b := by unfold pickB okp; rw [if_neg (by simp [c3])]
     rw [e] at go
     exact go
    ·
     refine vn c3 ?_
     by_cases c4 : b < 0
     ·
      refine vp c4 ?_
      have e : pickB l i b = (i : Int) := by unfold pickB okp; rw [if_pos (by simp [c1, c2, c3, c4])]
      rw [e] at go
      exact go
     ·
      refine vn c4 ?_
      by_cases c5 : (i : Int) ≤ 40
      ·
       refine vp c5 ?_
       have e : pickB l i b = (i : Int) := by unfold pickB okp; rw [if_pos (by simp [c1, c2, c3]; omega)]
       rw [e] at go
       exact go
      ·
       refine vn c5 ?_
       have e : pickB l i b = b := by unfold pickB; rw [if_neg (fun h => by have := h.2; omega)]
       rw [e] at go
       exact go
  ·
   refine vn c1 ?_
   have e : pickB l i b = b := by unfold pickB okp; rw [if_neg (by simp [c1])]
   rw [e] at go
   exact go
theorem impl_fold_l0 : ∀ (n : Nat) (l : Str) (i : Nat) (acc : List Str), l.length ≤ n → l.length ≤ 1048576 → 1 ≤ i → i ≤ 1048579 → acc.length + l.length ≤ 2000000 → Ev (fun k => impl_foldField.l0 k (ofL l) (i : Int) (acc.map ofL)) ((acc ++ fl n l i).map ofL) := by
 intro n
 induction n with
 | zero =>
  intro l i acc hn hl hi hi2 ha
  refine vc ?_
  simp only [impl_foldField.l0, size_ofL, List.length_map, fl]
  exact vn (by omega) (vp (by omega) (vq (vs _) (acc_snoc acc l)))
 | succ n ih =>
  intro l i acc hn hl hi hi2 ha
  refine vc ?_
  simp only [impl_foldField.l0, fl]
  by_cases c : l.length > 40
  ·
   refine vp (by rw [size_ofL]; omega) ?_
   rw [if_pos c]
   have hr := brk1_range l i
   refine impl_fold_l1 l acc hl _ (l.length - 1 - i) i (-1) rfl hi hi2 ?_
   rw [show brk l (l.length - 1 - i) i (-1) = brk1 l i from rfl]
   generalize brk1 l i = t at hr
   by_cases d : t < 0
   ·
    rw [if_pos d]
    exact vp d (vp (by rw [List.length_map]; omega) (vq (vs _) (acc_snoc acc l)))
   ·
    rw [if_neg d]
    obtain ⟨m, rfl⟩ := Int.eq_ofNat_of_zero_le (a := t) (by omega)
    have h2 := ih (l.drop m) 2 (acc ++ [l.take m]) (by rw [List.length_drop]; omega) (by rw [List.length_drop]; omega) (by omega) (by omega) (by rw [List.length_append, List.length_drop]; simp; omega)
    refine vn d (vp (by omega) (vp (by rw [size_ofL]; omega) (vp (by rw [List.length_map]; omega) ?_)))
    rw [← acc_snoc] at h2
    simp only [extract_ofL, size_ofL, Int.toNat_natCast, List.drop_zero, Nat.sub_zero] at h2 ⊢
    rw [List.take_of_length_le (l := l.drop m) (by rw [List.length_drop]; omega)]
    refine vq h2 ?_
    simp
  ·
   refine vn (by rw [size_ofL]; omega) ?_
   rw [if_neg c]
   exact vp (by rw [List.length_map]; omega) (vq (vs _) (acc_snoc acc l))
theorem colon_lit : (⟨#[58]⟩ : ByteArray) = ofL [58] := rfl
theorem space_lit : (⟨#[32]⟩ : ByteArray) = ofL [32] := rfl
theorem impl_foldField_ev (f : Str × Str) (h1 : f.1.length ≤ 1000) (h2 : f.2.length ≤ 1000) : Ev (fun k => impl_foldField.f k (ofL f.1) (ofL f.2)) ((ffold f).map ofL) := by
 obtain ⟨a, b⟩ := f
 simp only at h1 h2
 unfold impl_foldField.f ffold fldL
 have w : wrap64 ((a.length : Int) + 3) = ((a.length + 3 : Nat) : Int) := by rw [wrap_id (by omega) (by omega)]; omega
 simp only [colon_lit, space_lit, ofL_append, size_ofL, toList_ofL, w, List.length_append, List.length_cons, List.length_nil]
 clear w
 have key : ∀ l : Str, l.length ≤ 3000 → Ev (fun k => impl_foldField.j0 k (ofL l) ((a.length + 3 : Nat) : Int)) ((fl l.length l (a.length + 3)).map ofL) := by
  intro l hl
  refine vc ?_
  simp only [impl_foldField.j0]
  have := impl_fold_l0 l.length l (a.length + 3) [] (Nat.le_refl _) (by omega) (by omega) (by omega) (by simp; omega)
  exact this
 refine vp (by omega) ?_
 by_cases c : b = []
 ·
  subst c
  refine vp rfl ?_
  have := key (a ++ [58]) (by simp; omega)
  simpa using this
 ·
  refine vn c (vp (by omega) (vp (by omega) ?_))
  have := key ((a ++ [58]) ++ ([32] ++ b)) (by simp; omega)
  rw [if_neg c]
  simpa [Nat.add_assoc, Nat.add_comm, Nat.add_left_comm] using this

theorem spec_break (l : Str) (hl : l.length ≤ 1048576) : ∀ (n i : Nat) (b : Int), n = l.length - 1 - i → 1 ≤ i → i ≤ 1048579 → Ev (fun k => spec_l3Break.l0 k (ofL l) b (i : Int)) (brk l n i b) := by
 intro n
 induction n with
 | zero =>
  intro i b hn hi hi2
  have w1 : wrap64 ((i : Int) + 1) = (i : Int) + 1 := wrap_id (by omega) (by omega)
  refine vc ?_
  simp only [spec_l3Break.l0, w1, brk]
  clear w1
  exact vn (by rw [size_ofL]; omega) (vs _)
 | succ n ih =>
  intro i b hn hi hi2
  have w1 : wrap64 ((i : Int) + 1) = (i : Int) + 1 := wrap_id (by omega) (by omega)
  have w2 : wrap64 ((i : Int) - 1) = (i : Int) - 1 := wrap_id (by omega) (by omega)
  have hs := size_ofL l
  have go := ih (i + 1) (pickB l i b) (by omega) (by omega) (by omega)
  rw [show ((i + 1 : Nat) : Int) = (i : Int) + 1 by omega] at go
  rw [brk]
  clear ih
  have jt : pickB l i b = b → Ev (fun k => spec_l3Break.j1 k (ofL l) b (i : Int) true) (brk l n (i + 1) (pickB l i b)) := fun e => by
   refine vc ?_
   simp only [spec_l3Break.j1, w1]
   rw [e] at go ⊢
   exact vp (by simp) go
  refine vc ?_
  simp only [spec_l3Break.l0, w1, w2]
  refine vp (by omega) (vp (by omega) (vp (by omega) ?_))
  by_cases c1 : bt (ofL l) (i : Int) = 32
  ·
   refine vp c1 (vp (by omega) (vp (by omega) ?_))
   by_cases c2 : bt (ofL l) ((i : Int) - 1) = 32
   ·
    exact vp c2 (jt (by unfold pickB okp; rw [if_neg (by simp [c2])]))
   ·
    refine vn c2 (vp (by omega) ?_)
    by_cases c3 : bt (ofL l) ((i : Int) + 1) = 32
    ·
     rw [show (bt (ofL l) ((i : Int) + 1) == 32) = true by simp [c3]]
     exact jt (by unfold pickB okp; rw [if_neg (by simp [c3])])
    ·
     rw [show (bt (ofL l) ((i : Int) + 1) == 32) = false by simp [c3]]
     refine vc ?_
     simp only [spec_l3Break.j1, w1]
     clear w1 w2
     refine vn (by simp) ?_
     by_cases c5 : (i : Int) ≤ 40
     ·
      refine vp c5 ?_
      have e : pickB l i b = (i : Int) := by unfold pickB okp; rw [if_pos (by simp [c1, c2, c3]; omega)]
      rw [e] at go ⊢
      exact go
     ·
      refine vn c5 ?_
      by_cases c4 : b < 0
      ·
       refine vp c4 ?_
       have e : pickB l i b = (i : Int) := by unfold pickB okp; rw [if_pos (by simp [c1, c2, c3, c4])]
       rw [e] at go ⊢
       exact go
      ·
       refine vn c4 ?_
       have e : pickB l i b = b := by unfold pickB; rw [if_neg (fun h => by have := h.2; omega)]
       rw [e] at go ⊢
       exact go
  ·
   exact vn c1 (jt (by unfold pickB okp; rw [if_neg (by simp [c1])]))
theorem spec_fold_l0 : ∀ (n : Nat) (l : Str) (i : Nat) (acc : List Str), l.length ≤ n → l.length ≤ 1048576 → 1 ≤ i → i ≤ 1048578 → acc.length + l.length ≤ 2000000 → Ev (fun k => spec_FoldField.l0 k (acc.map ofL) (ofL l) (i : Int)) ((acc ++ fl n l (i + 1)).map ofL) := by
 intro n
 induction n with
 | zero =>
  intro l i acc hn hl hi hi2 ha
  refine vc ?_
  simp only [spec_FoldField.l0, size_ofL, List.length_map, fl]
  exact vn (by omega) (vp (by omega) (vq (vs _) (acc_snoc acc l)))
 | succ n ih =>
  intro l i acc hn hl hi hi2 ha
  refine vc ?_
  simp only [spec_FoldField.l0, fl]
  by_cases c : l.length > 40
  ·
   refine vp (by rw [size_ofL]; omega) ?_
   rw [if_pos c]
   have hr := brk1_range l (i + 1)
   have hb : Ev (fun k => spec_l3Break.f k (ofL l) (i : Int)) (brk1 l (i + 1)) := by
    unfold spec_l3Break.f
    rw [show wrap64 ((i : Int) + 1) = ((i + 1 : Nat) : Int) by rw [wrap_id (by omega) (by omega)]; omega]
    exact spec_break l hl (l.length - 1 - (i + 1)) (i + 1) (-1) rfl (by omega) (by omega)
   refine vb hb ?_
   generalize brk1 l (i + 1) = t at hr
   by_cases d : t < 0
   ·
    rw [if_pos d]
    exact vp d (vp (by rw [List.length_map]; omega) (vq (vs _) (acc_snoc acc l)))
   ·
    rw [if_neg d]
    obtain ⟨m, rfl⟩ := Int.eq_ofNat_of_zero_le (a := t) (by omega)
    have h2 := ih (l.drop m) 1 (acc ++ [l.take m]) (by rw [List.length_drop]; omega) (by rw [List.length_drop]; omega) (by omega) (by omega) (by rw [List.length_append, List.length_drop]; simp; omega)
    refine vn d (vp (by omega) (vp (by rw [size_ofL]; omega) (vp (by rw [List.length_map]; omega) ?_)))
    rw [← acc_snoc] at h2
    simp only [extract_ofL, size_ofL, Int.toNat_natCast, List.drop_zero, Nat.sub_zero] at h2 ⊢
    rw [List.take_of_length_le (l := l.drop m) (by rw [List.length_drop]; omega)]
    refine vq h2 ?_
    simp
  ·
   refine vn (by rw [size_ofL]; omega) ?_
   rw [if_neg c]
   exact vp (by rw [List.length_map]; omega) (vq (vs _) (acc_snoc acc l))

/-! Fields that are valid. -/
def fv (f : Str × Str) : Bool := isNm f.1 && (tvalid f.2 && (decide (f.2.length ≤ 150) && decide (trim f.2 = f.2)))
def fvs (fs : List (Str × Str)) : Bool := decide (fs.length ≤ 20) && fs.all fv
theorem fv_len {f : Str × Str} (h : fv f = true) : f.1.length ≤ 30 ∧ f.2.length ≤ 150 := by
 unfold fv at h
 simp only [Bool.and_eq_true, decide_eq_true_iff] at h
 exact ⟨isNm_len h.1, h.2.2.1⟩
theorem ffold_len {f : Str × Str} (h : fv f = true) : (ffold f).length ≤ 183 := by
 have := fv_len h
 have h2 := fl_len (fldL f).length (fldL f) (f.1.length + 3) (by omega)
 have h3 : (fldL f).length ≤ f.1.length + 2 + f.2.length := by
  unfold fldL
  by_cases c : f.2 = []
  ·
   rw [if_pos c]; simp; omega
  ·
   rw [if_neg c]; simp; omega
 unfold ffold
 omega
theorem impl_Trim_eq (l : Str) (hl : l.length ≤ 1000000000) : strings_Trim.f (ofL l) (⟨#[32]⟩ : ByteArray) = some (ofL (trim l)) := by
 unfold strings_Trim.f
 rw [if_pos rfl, if_pos (by rw [size_ofL]; omega)]
 rfl
theorem impl_FieldValid_ev (f : Str × Str) (h1 : f.1.length ≤ 1048576) (h2 : f.2.length ≤ 1048576) : Ev (fun k => impl_FieldValid.f k (ofL f.1) (ofL f.2)) (fv f) := by
 unfold impl_FieldValid.f fv
 refine vb (impl_isName_ev f.1 (by omega)) ?_
 cases isNm f.1 with
 | false => exact vn (by simp) (vs _)
 | true =>
  refine vp rfl (vb (impl_TextValid_ev f.2 (by omega)) ?_)
  cases tvalid f.2 with
  | false => exact vn (by simp) (vs _)
  | true =>
   refine vp rfl ?_
   rw [size_ofL]
   by_cases c : f.2.length ≤ 150
   ·
    refine vp (by omega) (ev_bind0 (impl_Trim_eq f.2 (by omega)) (vq (vs _) ?_))
    rw [toList_ofL, toList_ofL, beq_dec, decide_eq_true c]
    simp
   ·
    refine vn (by omega) (vq (vs _) ?_)
    rw [decide_eq_false c]
    simp
theorem spec_FieldValid_ev (f : Str × Str) (h1 : f.1.length ≤ 1048576) (h2 : f.2.length ≤ 1048576) : Ev (fun k => spec_FieldValid.f k (ofL f.1) (ofL f.2)) (fv f) := by
 unfold spec_FieldValid.f fv
 refine vb (spec_l3Name_ev f.1 (by omega)) ?_
 cases isNm f.1 with
 | false => exact vn (by simp) (vs _)
 | true =>
  refine vp rfl (vb (spec_TextValid_ev f.2 (by omega)) ?_)
  cases tvalid f.2 with
  | false => exact vn (by simp) (vs _)
  | true =>
   refine vp rfl ?_
   rw [size_ofL]
   by_cases c : f.2.length ≤ 150
   ·
    refine vp (by omega) (vb (spec_l2Trim_ev f.2 (by omega)) (vq (vs _) ?_))
    rw [toList_ofL, toList_ofL, beq_dec, decide_eq_true c]
    simp
   ·
    refine vn (by omega) (vq (vs _) ?_)
    rw [decide_eq_false c]
    simp
theorem impl_fieldsValid_loop (ls : List (Str × Str)) (hs : small ls) (hn : ls.length ≤ 1048576) (r : List (Str × Str)) : ∀ p, ls = p ++ r → ∃ v : Int, Ev (fun k => impl_Field_fieldsValid_1_254.l0 k (ls.map e76) (ls.length : Int) (p.length : Int)) v ∧ decide (v ≥ 0) = !(r.all fv) := by
 induction r with
 | nil =>
  intro p h
  have hz : ls.length = p.length := by rw [h, List.append_nil]
  refine ⟨-1, vc ?_, rfl⟩
  simp only [impl_Field_fieldsValid_1_254.l0]
  exact vn (by omega) (vs _)
 | cons c r ih =>
  intro p h
  have hz := len_mid h
  have e1 := rd76_mid h
  have hc := hs c (by rw [h]; simp)
  have w1 : wrap64 ((p.length : Int) + 1) = (p.length : Int) + 1 := wrap_id (by omega) (by omega)
  obtain ⟨v, hv, hv2⟩ := ih (p ++ [c]) (by rw [h]; simp)
  rw [len_snoc] at hv
  have h1 : Ev (fun k => impl_fieldsValid_1.f k (ofL c.1) (ofL c.2)) (!fv c) := vb (impl_FieldValid_ev c hc.1 hc.2) (vs _)
  cases e : fv c with
  | true =>
   rw [e] at h1
   refine ⟨v, vc ?_, by rw [hv2, List.all_cons, e]; rfl⟩
   simp only [impl_Field_fieldsValid_1_254.l0, e1, w1, List.length_map]
   clear w1
   exact vp (by omega) (vp (by omega) (vp (by omega) (vb h1 (vn (by simp) hv))))
  | false =>
   rw [e] at h1
   refine ⟨p.length, vc ?_, by rw [List.all_cons, e]; simp⟩
   simp only [impl_Field_fieldsValid_1_254.l0, e1, w1, List.length_map]
   clear w1
   exact vp (by omega) (vp (by omega) (vp (by omega) (vb h1 (vp (by simp) (vs _)))))
theorem impl_fieldsValid_ev (ls : List (Str × Str)) (hs : small ls) (hn : ls.length ≤ 1048576) : Ev (fun k => impl_fieldsValid.f k (ls.map e76)) (fvs ls) := by
 unfold impl_fieldsValid.f impl_Field_fieldsValid_1_253.f impl_Field_fieldsValid_1_254.f fvs
 rw [List.length_map]
 by_cases c : ls.length ≤ 20
 ·
  obtain ⟨v, hv, hv2⟩ := impl_fieldsValid_loop ls hs hn ls [] rfl
  refine vp (by omega) (vb (vb hv (vs _)) (vq (vs _) ?_))
  rw [hv2, decide_eq_true c]
  simp
 ·
  refine vn (by omega) (vq (vs _) ?_)
  rw [decide_eq_false c]; rfl
theorem spec_l3Valid_loop (ls : List (Str × Str)) (hs : small ls) (hn : ls.length ≤ 1048576) (r : List (Str × Str)) : ∀ p, ls = p ++ r → Ev (fun k => spec_l3Valid.l0 k (ls.map e76) (p.length : Int)) (decide (ls.length ≤ 20) && r.all fv) := by
 have out : ∀ i : Int, Ev (fun k => spec_l3Valid.j1 k (ls.map e76) i false) (decide (ls.length ≤ 20)) := fun i => by
  refine vc ?_
  simp only [spec_l3Valid.j1, List.length_map]
  refine vn (by simp) (vq (vs _) ?_)
  exact decide_eq_decide.mpr (by omega)
 induction r with
 | nil =>
  intro p h
  have hz : ls.length = p.length := by rw [h, List.append_nil]
  refine vc ?_
  simp only [spec_l3Valid.l0, List.length_map]
  refine vn (by omega) (vq (out _) (by simp))
 | cons c r ih =>
  intro p h
  have hz := len_mid h
  have e1 := rd76_mid h
  have hc := hs c (by rw [h]; simp)
  have w1 : wrap64 ((p.length : Int) + 1) = (p.length : Int) + 1 := wrap_id (by omega) (by omega)
  have hv := ih (p ++ [c]) (by rw [h]; simp)
  rw [len_snoc] at hv
  have h1 := spec_FieldValid_ev c hc.1 hc.2
  refine vc ?_
  simp only [spec_l3Valid.l0, List.length_map]
  refine vp (by omega) ?_
  by_cases c2 : p.length ≤ 20
  ·
   rw [show decide ((p.length : Int) ≤ 20) = true from decide_eq_true (by omega)]
   refine vc ?_
   simp only [spec_l3Valid.j1, List.length_map, e1, w1]
   clear w1
   refine vp trivial (vp (by omega) (vp (by omega) (vb h1 ?_)))
   cases e : fv c with
   | true => exact vp rfl (vq hv (by rw [List.all_cons, e, Bool.true_and]))
   | false => exact vn (by simp) (vq (vs _) (by rw [List.all_cons, e]; simp))
  ·
   rw [show decide ((p.length : Int) ≤ 20) = false from decide_eq_false (by omega)]
   exact vq (out _) (by rw [decide_eq_false (by omega)]; rfl)
theorem spec_l3Valid_ev (ls : List (Str × Str)) (hs : small ls) (hn : ls.length ≤ 1048576) : Ev (fun k => spec_l3Valid.f k (ls.map e76)) (fvs ls) := spec_l3Valid_loop ls hs hn ls [] rfl
theorem impl_FoldFields_loop (ls : List (Str × Str)) (hv : ls.all fv = true) (hn : ls.length ≤ 20) (r : List (Str × Str)) : ∀ (p : List (Str × Str)) (acc : List Str), ls = p ++ r → acc.length ≤ 183 * p.length → Ev (fun k => impl_FoldFields.l0 k (acc.map ofL) (ls.map e76) (ls.length : Int) (p.length : Int)) ((acc ++ r.flatMap ffold).map ofL, true) := by
 induction r with
 | nil =>
  intro p acc h ha
  have hz : ls.length = p.length := by rw [h, List.append_nil]
  refine vc ?_
  simp only [impl_FoldFields.l0]
  exact vn (by omega) (vq (vs _) (by simp))
 | cons c r ih =>
  intro p acc h ha
  have hz := len_mid h
  have e1 := rd76_mid h
  have hc : fv c = true := List.all_eq_true.mp hv c (by rw [h]; simp)
  have hl := fv_len hc
  have hf := ffold_len hc
  have w1 : wrap64 ((p.length : Int) + 1) = (p.length : Int) + 1 := wrap_id (by omega) (by omega)
  have hv := ih (p ++ [c]) (acc ++ ffold c) (by rw [h]; simp) (by simp only [List.length_append, List.length_singleton]; omega)
  rw [len_snoc, List.map_append] at hv
  refine vc ?_
  simp only [impl_FoldFields.l0, List.length_map, e1, w1]
  clear w1
  exact vp (by omega) (vp (by omega) (vp (by omega) (vb (impl_foldField_ev c (by omega) (by omega)) (vp (by simp only [List.length_map]; omega) (vq hv (by simp))))))
def folds (ls : List (Str × Str)) : List Str := ls.flatMap ffold
theorem folds_len (ls : List (Str × Str)) (h : fvs ls = true) : (folds ls).length ≤ 3660 := by
 unfold fvs at h
 simp only [Bool.and_eq_true, decide_eq_true_iff] at h
 have key : ∀ r : List (Str × Str), r.all fv = true → (r.flatMap ffold).length ≤ 183 * r.length := by
  intro r
  induction r with
  | nil => intro _; simp
  | cons c r ih =>
   intro h
   rw [List.all_cons, Bool.and_eq_true] at h
   have := ih h.2
   have := ffold_len h.1
   rw [List.flatMap_cons, List.length_append, List.length_cons]
   omega
 have := key ls h.2
 unfold folds
 omega
theorem impl_FoldFields_ev (ls : List (Str × Str)) (hs : small ls) (hn : ls.length ≤ 1048576) : Ev (fun k => impl_FoldFields.f k (ls.map e76)) (if fvs ls = true then ((folds ls).map ofL, true) else ([], false)) := by
 unfold impl_FoldFields.f
 refine vb (impl_fieldsValid_ev ls hs hn) ?_
 cases e : fvs ls with
 | false => exact vn (by simp) (vs _)
 | true =>
  rw [List.length_map]
  unfold fvs at e
  simp only [Bool.and_eq_true, decide_eq_true_iff] at e
  exact vp rfl (impl_FoldFields_loop ls e.2 e.1 ls [] [] rfl (by simp))
theorem spec_FoldField_ev (f : Str × Str) (hf : fv f = true) : Ev (fun k => spec_FoldField.f k (ofL f.1) (ofL f.2)) ((ffold f).map ofL) := by
 have hl := fv_len hf
 have hx := spec_FieldValid_ev f (by omega) (by omega)
 rw [hf] at hx
 obtain ⟨a, b⟩ := f
 simp only at hl
 unfold spec_FoldField.f ffold fldL
 have key : ∀ l : Str, l.length ≤ 3000 → Ev (fun k => spec_FoldField.j0 k [] (ofL l) ((a.length + 2 : Nat) : Int)) ((fl l.length l (a.length + 3)).map ofL) := by
  intro l hl
  refine vc ?_
  simp only [spec_FoldField.j0]
  have := spec_fold_l0 l.length l (a.length + 2) [] (Nat.le_refl _) (by omega) (by omega) (by omega) (by simp; omega)
  exact this
 refine vb (vs _) (vb hx (vp rfl ?_))
 have w : wrap64 (((a.length + 1 : Nat) : Int) + 1) = ((a.length + 2 : Nat) : Int) := by rw [wrap_id (by omega) (by omega)]; omega
 simp only [colon_lit, space_lit, ofL_append, size_ofL, toList_ofL, List.length_append, List.length_cons, List.length_nil]
 refine vp (by omega) ?_
 by_cases c : b = []
 ·
  subst c
  refine vp rfl ?_
  refine vc ?_
  simp only [spec_FoldField.j0]
  have := spec_fold_l0 (a ++ [58]).length (a ++ [58]) (a.length + 1) [] (Nat.le_refl _) (by simp; omega) (by omega) (by omega) (by simp; omega)
  have e : fl (a ++ [58]).length (a ++ [58]) (a.length + 1 + 1) = fl (a ++ [58]).length (a ++ [58]) (a.length + 3) := by
   have g : ∀ (n i j : Nat), fl n (a ++ [58]) i = fl n (a ++ [58]) j := fun n i j => by
    cases n with
    | zero => rfl
    | succ n => rw [fl, fl, if_neg (by simp; omega), if_neg (by simp; omega)]
   exact g _ _ _
  rw [e] at this
  simpa using this
 ·
  refine vn c (vp (by omega) (vp (by omega) ?_))
  have := key ((a ++ [58]) ++ [32] ++ b) (by simp; omega)
  rw [if_neg c, w]
  simpa [Nat.add_assoc, Nat.add_comm, Nat.add_left_comm] using this
theorem spec_FoldFields_loop (ls : List (Str × Str)) (hv : ls.all fv = true) (hn : ls.length ≤ 20) (r : List (Str × Str)) : ∀ (p : List (Str × Str)) (acc : List Str), ls = p ++ r → acc.length ≤ 183 * p.length → Ev (fun k => spec_FoldFields.l0 k (ls.map e76) (acc.map ofL) (p.length : Int)) ((acc ++ r.flatMap ffold).map ofL, true) := by
 induction r with
 | nil =>
  intro p acc h ha
  have hz : ls.length = p.length := by rw [h, List.append_nil]
  refine vc ?_
  simp only [spec_FoldFields.l0, List.length_map]
  exact vn (by omega) (vq (vs _) (by simp))
 | cons c r ih =>
  intro p acc h ha
  have hz := len_mid h
  have e1 := rd76_mid h
  have hc : fv c = true := List.all_eq_true.mp hv c (by rw [h]; simp)
  have hf := ffold_len hc
  have w1 : wrap64 ((p.length : Int) + 1) = (p.length : Int) + 1 := wrap_id (by omega) (by omega)
  have hv := ih (p ++ [c]) (acc ++ ffold c) (by rw [h]; simp) (by simp only [List.length_append, List.length_singleton]; omega)
  rw [len_snoc, List.map_append] at hv
  refine vc ?_
  simp only [spec_FoldFields.l0, List.length_map, e1, w1]
  clear w1
  exact vp (by omega) (vp (by omega) (vb (spec_FoldField_ev c hc) (vp (by simp only [List.length_map]; omega) (vq hv (by simp)))))
theorem spec_FoldFields_ev (ls : List (Str × Str)) (hs : small ls) (hn : ls.length ≤ 1048576) : Ev (fun k => spec_FoldFields.f k (ls.map e76)) (if fvs ls = true then ((folds ls).map ofL, true) else ([], false)) := by
 unfold spec_FoldFields.f
 refine vb (vs _) (vb (spec_l3Valid_ev ls hs hn) ?_)
 cases e : fvs ls with
 | false => exact vn (by simp) (vs _)
 | true =>
  unfold fvs at e
  simp only [Bool.and_eq_true, decide_eq_true_iff] at e
  exact vp rfl (spec_FoldFields_loop ls e.2 e.1 ls [] [] rfl (by simp))

/-! The boundary of a part. -/
def ctype : Str := [67, 111, 110, 116, 101, 110, 116, 45, 84, 121, 112, 101]
def bF (fs : List (Str × Str)) : Str × Bool := match pk (getF fs ctype).1 with
 | none => ([], false)
 | some x => bOf x.1 x.2.1 x.2.2
theorem ctype_lit : (⟨#[67, 111, 110, 116, 101, 110, 116, 45, 84, 121, 112, 101]⟩ : ByteArray) = ofL ctype := rfl
theorem bF_some {fs : List (Str × Str)} (h : (bF fs).2 = true) : isBd (bF fs).1 = true := by
 unfold bF at h ⊢
 cases e : pk (getF fs ctype).1 with
 | none => rw [e] at h; cases h
 | some x =>
  rw [e] at h
  simp only at h ⊢
  unfold bOf at h ⊢
  by_cases c : kvalid x.1 x.2.1 x.2.2 = true ∧ x.1 = multi ∧ isBd (getF x.2.2 bnd).1 = true
  ·
   rw [if_pos c]; exact c.2.2
  ·
   rw [if_neg c] at h; cases h
theorem pk_nil : pk [] = none := by decide
theorem isSmall_len {l : Str} (h : isSmall l = true) : l.length ≤ 30 := by
 unfold isSmall at h
 rw [Bool.and_eq_true] at h
 exact isNm_len h.1
theorem pk_small {s : Str} {x : Str × Str × List (Str × Str)} (h : pk s = some x) : x.1.length ≤ 1048576 ∧ x.2.1.length ≤ 1048576 ∧ szp x.2.2 ≤ 1048576 ∧ x.2.2.length ≤ 1048576 := by
 obtain ⟨a, b, ps⟩ := x
 have hv := pk_valid h
 have h1 := kvalid_split hv
 have h2 := kfl_all ps [] h1.2.2.2.1
 have key : ∀ q : List (Str × Str), (∀ p ∈ q, isSmall p.1 = true ∧ tvalid p.2 = true ∧ p.2.length ≤ 40) → szp q ≤ 70 * q.length := by
  intro q
  induction q with
  | nil => intro _; simp [szp]
  | cons c q ih =>
   intro h
   have h3 := h c (by simp)
   have h4 := ih fun p hp => h p (by simp [hp])
   have h5 := isSmall_len h3.1
   rw [szp, List.length_cons]
   omega
 have h3 := key ps h2
 have h4 := isSmall_len h1.1
 have h5 := isSmall_len h1.2.1
 refine ⟨?_, ?_, ?_, ?_⟩ <;> (simp only; omega)
theorem impl_Part_boundary_ev (fs : List (Str × Str)) (hs : small fs) (hn : fs.length ≤ 1048576) (bb : List ByteArray) (kk : List S28) : Ev (fun k => impl_Part_boundary.f k (fs.map e76) bb kk) (ofL (bF fs).1, (bF fs).2) := by
 unfold impl_Part_boundary.f bF
 rw [ctype_lit]
 refine vb (impl_GetField_ev fs ctype hs (by decide) hn) (vb (impl_ParseKind_ev _ (getF_small fs ctype hs)) ?_)
 cases e : pk (getF fs ctype).1 with
 | none => exact vn (by simp [kres]) (vs _)
 | some x =>
  have hx := pk_small e
  exact vp rfl (vb (impl_BoundaryOf_ev x.1 x.2.1 x.2.2 hx.1 hx.2.1 hx.2.2.1 hx.2.2.2) (vs _))
theorem spec_l8Boundary_ev (fs : List (Str × Str)) (hs : small fs) (hn : fs.length ≤ 1048576) : Ev (fun k => spec_l8Boundary.f k (fs.map e76)) (ofL (bF fs).1, (bF fs).2) := by
 unfold spec_l8Boundary.f
 rw [ctype_lit]
 refine vb (spec_GetField_ev fs ctype hs (by decide) hn) (vb (spec_ParseKind_ev _ (getF_small fs ctype hs)) ?_)
 unfold bF
 cases e : pk (getF fs ctype).1 with
 | none =>
  refine vb (spec_BoundaryOf_ev [] [] [] (by simp) (by simp) (by simp [szp]) (by simp)) ?_
  cases (getF fs ctype).2 with
  | true => exact vp rfl (vn (by simp [kres]) (vs _))
  | false => exact vn (by simp) (vs _)
 | some x =>
  have hx := pk_small e
  refine vb (spec_BoundaryOf_ev x.1 x.2.1 x.2.2 hx.1 hx.2.1 hx.2.2.1 hx.2.2.2) ?_
  cases g : (getF fs ctype).2 with
  | true => exact vp rfl (vp rfl (vs _))
  | false => rw [getF_none fs ctype g, pk_nil] at e; cases e

/-! The lines of a part. -/
def kl (g : Pt → Option (List Str)) : List Pt → Option (List (List Str))
 | [] => some []
 | p :: r => match g p with
  | none => none
  | some a => (kl g r).map (a :: ·)
def tbs (b : List Str) : Bool := decide (b.length ≤ 30) && b.all tvalid
def head (f : List (Str × Str)) : List Str := folds f ++ [[]]
def lines : Nat → Pt → Option (List Str)
 | 0, _ => none
 | d + 1, .mk f b k => if fvs f = true then (if (bF f).2 = true then (if b = [] ∧ 1 ≤ k.length ∧ k.length ≤ 4 then (match kl (lines d) k with
   | none => none
   | some ls => (jR (bF f).1 ls).map (head f ++ ·)) else none) else (if k = [] ∧ tbs b = true then some (head f ++ b) else none)) else none
theorem kl_len {g : Pt → Option (List Str)} {N : Nat} : ∀ {k : List Pt} {ls : List (List Str)}, kl g k = some ls → (∀ p ∈ k, ∀ a, g p = some a → a.length ≤ N) → ls.length = k.length ∧ tl ls ≤ (N + 1) * k.length
 | [], ls, h, _ => by
  rw [kl] at h
  cases h
  simp [tl]
 | p :: r, ls, h, hN => by
  rw [kl] at h
  cases e : g p with
  | none => rw [e] at h; cases h
  | some a =>
   rw [e] at h
   cases e2 : kl g r with
   | none => rw [e2] at h; cases h
   | some l =>
    rw [e2] at h
    cases h
    have h1 := kl_len e2 fun q hq => hN q (by simp [hq])
    have h2 := hN p (by simp) a e
    rw [List.length_cons, List.length_cons, tl, Nat.mul_succ]
    omega
def lN : Nat → Nat
 | 0 => 4000
 | d + 1 => 4 * lN d + 4000
theorem lN_le {d : Nat} (h : d ≤ 3) : lN d ≤ 500000 := by
 rcases d with _ | _ | _ | _ | d
 ·
  decide
 ·
  decide
 ·
  decide
 ·
  decide
 ·
  omega
theorem jR_len {b : Str} {ps : List (List Str)} {s : List Str} (h : jR b ps = some s) : s.length = tl ps + 1 := by
 unfold jR at h
 split at h
 ·
  cases h
  rw [List.length_append, jb_len]
  rfl
 ·
  cases h
theorem head_len {f : List (Str × Str)} (h : fvs f = true) : (head f).length ≤ 3661 := by
 have := folds_len f h
 unfold head
 rw [List.length_append, List.length_singleton]
 omega
theorem lines_len : ∀ (d : Nat) (p : Pt) (ls : List Str), lines d p = some ls → ls.length ≤ lN d
 | 0, p, ls, h => by rw [lines] at h; cases h
 | d + 1, .mk f b k, ls, h => by
  rw [lines] at h
  by_cases c : fvs f = true
  ·
   rw [if_pos c] at h
   have h1 := head_len c
   by_cases c1 : (bF f).2 = true
   ·
    rw [if_pos c1] at h
    by_cases c2 : b = [] ∧ 1 ≤ k.length ∧ k.length ≤ 4
    ·
     rw [if_pos c2] at h
     cases e : kl (lines d) k with
     | none => rw [e] at h; cases h
     | some l =>
      rw [e] at h
      simp only at h
      have h2 := kl_len e (N := lN d) fun p _ a h => lines_len d p a h
      cases e2 : jR (bF f).1 l with
      | none => rw [e2] at h; cases h
      | some s =>
       rw [e2] at h
       cases h
       have h3 := jR_len e2
       have h4 : (lN d + 1) * k.length ≤ (lN d + 1) * 4 := Nat.mul_le_mul_left _ c2.2.2
       rw [List.length_append, lN]
       omega
    ·
     rw [if_neg c2] at h; cases h
   ·
    rw [if_neg c1] at h
    by_cases c2 : k = [] ∧ tbs b = true
    ·
     rw [if_pos c2] at h
     cases h
     have h2 := c2.2
     unfold tbs at h2
     simp only [Bool.and_eq_true, decide_eq_true_iff] at h2
     rw [List.length_append, lN]
     omega
    ·
     rw [if_neg c2] at h; cases h
  ·
   rw [if_neg c] at h; cases h
theorem impl_areTexts_loop (ls : List Str) (hs : ∀ x ∈ ls, x.length ≤ 1048576) (hn : ls.length ≤ 1048576) (r : List Str) : ∀ p, ls = p ++ r → ∃ v : Int, Ev (fun k => slices_IndexFunc_string_string_areTexts_1.l0 k (ls.map ofL) (ls.length : Int) (p.length : Int)) v ∧ decide (v ≥ 0) = !(r.all tvalid) := by
 induction r with
 | nil =>
  intro p h
  have hz : ls.length = p.length := by rw [h, List.append_nil]
  refine ⟨-1, vc ?_, rfl⟩
  simp only [slices_IndexFunc_string_string_areTexts_1.l0]
  exact vn (by omega) (vs _)
 | cons c r ih =>
  intro p h
  have hz := len_mid h
  have e1 := rdOf_ofL h
  have hc := hs c (by rw [h]; simp)
  have w1 : wrap64 ((p.length : Int) + 1) = (p.length : Int) + 1 := wrap_id (by omega) (by omega)
  obtain ⟨v, hv, hv2⟩ := ih (p ++ [c]) (by rw [h]; simp)
  rw [len_snoc] at hv
  have h1 : Ev (fun k => impl_areTexts_1.f k (ofL c)) (!tvalid c) := vb (impl_TextValid_ev c (by omega)) (vs _)
  cases e : tvalid c with
  | true =>
   rw [e] at h1
   refine ⟨v, vc ?_, by rw [hv2, List.all_cons, e]; rfl⟩
   simp only [slices_IndexFunc_string_string_areTexts_1.l0, e1, w1, List.length_map]
   clear w1
   exact vp (by omega) (vp (by omega) (vp (by omega) (vb h1 (vn (by simp) hv))))
  | false =>
   rw [e] at h1
   refine ⟨p.length, vc ?_, by rw [List.all_cons, e]; simp⟩
   simp only [slices_IndexFunc_string_string_areTexts_1.l0, e1, w1, List.length_map]
   clear w1
   exact vp (by omega) (vp (by omega) (vp (by omega) (vb h1 (vp (by simp) (vs _)))))
theorem impl_areTexts_ev (ls : List Str) (hs : ∀ x ∈ ls, x.length ≤ 1048576) (hn : ls.length ≤ 1048576) : Ev (fun k => impl_areTexts.f k (ls.map ofL) 30) (tbs ls) := by
 unfold impl_areTexts.f slices_ContainsFunc_string_string_areTexts_1.f slices_IndexFunc_string_string_areTexts_1.f tbs
 rw [List.length_map]
 by_cases c : ls.length ≤ 30
 ·
  obtain ⟨v, hv, hv2⟩ := impl_areTexts_loop ls hs hn ls [] rfl
  refine vp (by omega) (vb (vb hv (vs _)) (vq (vs _) ?_))
  rw [hv2, decide_eq_true c]
  simp
 ·
  refine vn (by omega) (vq (vs _) ?_)
  rw [decide_eq_false c]; rfl
def lr (o : Option (List Str)) (v : List ByteArray × Bool) : Prop := match o with
 | some ls => v = (ls.map ofL, true)
 | none => v.2 = false
theorem szt_parts {f : List (Str × Str)} {b : List Str} {k : List Pt} (h : szt (.mk f b k) ≤ 1048576) : small f ∧ f.length ≤ 1048576 ∧ (∀ x ∈ b, x.length ≤ 1048576) ∧ b.length ≤ 1048576 ∧ k.length ≤ 1048576 ∧ ∀ p ∈ k, szt p ≤ 1048576 := by
 rw [szt] at h
 exact ⟨small_of (by omega), by omega, fun x hx => by have := szs_mem hx; omega, by omega, by omega, fun p hp => by have := szts_mem hp; omega⟩
theorem map_head (f : List (Str × Str)) : (folds f).map ofL ++ [(⟨#[]⟩ : ByteArray)] = (head f).map ofL := by
 unfold head
 rw [List.map_append]
 rfl
theorem snoc_map (acc : List (List Str)) (l : List Str) : acc.map (List.map ofL) ++ [l.map ofL] = (acc ++ [l]).map (List.map ofL) := by rw [List.map_append]; rfl
theorem impl_linesOf_ev : ∀ (d : Nat) (p : Pt), d ≤ 3 → szt p ≤ 1048576 → ∃ v, Ev (fun k => impl_Part_linesOf.f k (e32 p).f0 (e32 p).f1 (e32 p).f2 (d : Int)) v ∧ lr (lines d p) v := by
 have bad : ∀ (d : Int) (X : List ByteArray) (F : List S69) (B : List ByteArray) (K : List S28), Ev (fun k => impl_Part_linesOf.j0 k d X true F B K) ([], false) := fun d X F B K => by
  refine vc ?_
  simp only [impl_Part_linesOf.j0]
  exact vp trivial (vs _)
 intro d
 induction d with
 | zero =>
  intro p hd hp
  obtain ⟨f, b, k⟩ := p
  obtain ⟨hf, hfn, -⟩ := szt_parts hp
  simp only [e32_mk]
  refine ⟨([], false), vc ?_, rfl⟩
  simp only [impl_Part_linesOf.f]
  refine vb (impl_FoldFields_ev f hf hfn) ?_
  by_cases c : fvs f = true
  ·
   rw [if_pos c]
   exact vp rfl (bad _ _ _ _ _)
  ·
   rw [if_neg c]
   exact vn (by simp) (bad _ _ _ _ _)
 | succ d ih =>
  intro p hd hp
  obtain ⟨f, b, k⟩ := p
  obtain ⟨hf, hfn, hb, hbn, hkn, hk⟩ := szt_parts hp
  simp only [e32_mk]
  rw [lines]
  by_cases c : fvs f = true
  case neg =>
   rw [if_neg c]
   refine ⟨([], false), vc ?_, rfl⟩
   simp only [impl_Part_linesOf.f]
   refine vb (impl_FoldFields_ev f hf hfn) ?_
   rw [if_neg c]
   exact vn (by simp) (bad _ _ _ _ _)
  rw [if_pos c]
  have hh := head_len c
  have hfo := folds_len f c
  have go : ∀ v, Ev (fun n => if (bF f).2 = true then (if (b.length : Int) > 0 then impl_Part_linesOf.j1 n ((d + 1 : Nat) : Int) ((head f).map ofL) (ofL (bF f).1) true (f.map e76) (b.map ofL) (k.map e32) else (if (k.length : Int) < 1 then impl_Part_linesOf.j1 n ((d + 1 : Nat) : Int) ((head f).map ofL) (ofL (bF f).1) true (f.map e76) (b.map ofL) (k.map e32) else impl_Part_linesOf.j1 n ((d + 1 : Nat) : Int) ((head f).map ofL) (ofL (bF f).1) (decide ((k.length : Int) > 4)) (f.map e76) (b.map ofL) (k.map e32))) else (if ((head f).map ofL).length + (b.map ofL).length < 8796093022208 then (some ((head f).map ofL ++ b.map ofL : List ByteArray)).bind fun y => (if (k.length : Int) = 0 then ((impl_areTexts.f n (b.map ofL) 30).bind fun t => some (y, t)) else some (y, false)) else none)) v → Ev (fun n => impl_Part_linesOf.f n (f.map e76) (b.map ofL) (k.map e32) ((d + 1 : Nat) : Int)) v := by
   intro v hv
   refine vc ?_
   simp only [impl_Part_linesOf.f]
   refine vb (impl_FoldFields_ev f hf hfn) ?_
   rw [if_pos c]
   refine vp rfl ?_
   rw [show (((d + 1 : Nat) : Int) == 0) = false by simp; omega]
   refine vc ?_
   simp only [impl_Part_linesOf.j0]
   refine vn (by simp) (vp (by rw [List.length_map]; omega) (vb (vs _) (vb (impl_Part_boundary_ev f hf hfn _ _) ?_)))
   rw [map_head]
   simp only [List.length_map] at hv ⊢
   exact hv
  have bad1 : ∀ (X : List ByteArray) (B : ByteArray), Ev (fun n => impl_Part_linesOf.j1 n ((d + 1 : Nat) : Int) X B true (f.map e76) (b.map ofL) (k.map e32)) ([], false) := fun X B => by
   refine vc ?_
   simp only [impl_Part_linesOf.j1]
   exact vp trivial (vs _)
  by_cases c1 : (bF f).2 = true
  ·
   rw [if_pos c1]
   by_cases c2 : b = [] ∧ 1 ≤ k.length ∧ k.length ≤ 4
   ·
    rw [if_pos c2]
    obtain ⟨rfl, hk1, hk4⟩ := c2
    have hbd := isBd_len (bF_some c1)
    have hN := lN_le (d := d) (by omega)
    have key : ∀ (r p : List Pt) (acc : List (List Str)), k = p ++ r → acc.length = p.length → tl acc ≤ (lN d + 1) * p.length → ∃ v, Ev (fun n => impl_Part_linesOf.l0 n ((d + 1 : Nat) : Int) ((head f).map ofL) (ofL (bF f).1) (acc.map (List.map ofL)) (k.map e32) (k.length : Int) (p.length : Int)) v ∧ lr (match kl (lines d) r with
      | none => none
      | some ls => (jR (bF f).1 (acc ++ ls)).map (head f ++ ·)) v := by
     intro r
     induction r with
     | nil =>
      intro p acc h ha ht
      have hz : k.length = p.length := by rw [h, List.append_nil]
      have ht2 : (lN d + 1) * p.length ≤ (lN d + 1) * 4 := Nat.mul_le_mul_left _ (by omega)
      have hj := impl_JoinParts_ev acc (bF f).1 (by omega) (by omega)
      rw [kl]
      simp only [List.append_nil]
      cases e : jR (bF f).1 acc with
      | none =>
       rw [e] at hj
       refine ⟨((head f).map ofL ++ [], false), vc ?_, rfl⟩
       simp only [impl_Part_linesOf.l0]
       exact vn (by omega) (vb hj (vp (by rw [List.length_map]; simp only [jres, List.length_nil]; omega) (vs _)))
      | some s =>
       rw [e] at hj
       have hs := jR_len e
       refine ⟨((head f).map ofL ++ s.map ofL, true), vc ?_, by simp [lr]⟩
       simp only [impl_Part_linesOf.l0]
       exact vn (by omega) (vb hj (vp (by rw [List.length_map]; simp only [jres, List.length_map]; omega) (vs _)))
     | cons q r ihr =>
      intro p acc h ha ht
      have hz := len_mid h
      have e1 := rd32_mid h
      have w1 : wrap64 ((p.length : Int) + 1) = (p.length : Int) + 1 := wrap_id (by omega) (by omega)
      have w2 : wrap64 (((d + 1 : Nat) : Int) - 1) = (d : Int) := by rw [wrap_id (by omega) (by omega)]; omega
      obtain ⟨u, hu, hr⟩ := ih q (by omega) (hk q (by rw [h]; simp))
      rw [kl]
      cases e : lines d q with
      | none =>
       rw [e] at hr
       refine ⟨([], false), vc ?_, rfl⟩
       simp only [impl_Part_linesOf.l0, List.length_map, e1, w1, w2]
       clear w1 w2
       exact vp (by omega) (vp (by omega) (vp (by omega) (vb hu (vn (by rw [show u.2 = false from hr]; simp) (vs _)))))
      | some a =>
       rw [e] at hr
       have hr : u = (a.map ofL, true) := hr
       subst hr
       have hla := lines_len d q a e
       obtain ⟨v, hv, hv2⟩ := ihr (p ++ [q]) (acc ++ [a]) (by rw [h]; simp) (by simp [ha]) (by rw [tl_append, List.length_append, List.length_singleton, Nat.mul_add]; simp only [tl]; omega)
       rw [len_snoc, ← snoc_map] at hv
       refine ⟨v, vc ?_, ?_⟩
       ·
        simp only [impl_Part_linesOf.l0, List.length_map, e1, w1, w2]
        clear w1 w2
        exact vp (by omega) (vp (by omega) (vp (by omega) (vb hu (vp rfl (vp (by omega) hv)))))
       ·
        simp only
        cases e2 : kl (lines d) r with
        | none => rw [e2] at hv2; exact hv2
        | some l =>
         rw [e2] at hv2
         simpa using hv2
    obtain ⟨v, hv, hv2⟩ := key k [] [] rfl rfl (by simp [tl])
    refine ⟨v, go v (vp c1 (vn (by simp) (vn (by omega) ?_))), hv2⟩
    rw [show decide ((k.length : Int) > 4) = false from decide_eq_false (by omega)]
    refine vc ?_
    simp only [impl_Part_linesOf.j1, List.length_map]
    exact vn (by simp) hv
   ·
    rw [if_neg c2]
    refine ⟨([], false), go _ (vp c1 ?_), rfl⟩
    by_cases c3 : (b.length : Int) > 0
    ·
     exact vp c3 (bad1 _ _)
    ·
     refine vn c3 ?_
     have hb0 : b = [] := List.length_eq_zero_iff.mp (by omega)
     by_cases c4 : (k.length : Int) < 1
     ·
      exact vp c4 (bad1 _ _)
     ·
      refine vn c4 ?_
      rw [show decide ((k.length : Int) > 4) = true from decide_eq_true (by
       apply Classical.byContradiction
       intro h
       exact c2 ⟨hb0, by omega, by omega⟩)]
      exact bad1 _ _
  ·
   rw [if_neg c1]
   have hlen : ((head f).map ofL).length + (b.map ofL).length < 8796093022208 := by simp only [List.length_map]; omega
   by_cases c3 : k = []
   ·
    subst c3
    refine ⟨((head f).map ofL ++ b.map ofL, tbs b), go _ (vn c1 (vp hlen (vb (vs _) (vp rfl (vb (impl_areTexts_ev b hb hbn) (vs _)))))), ?_⟩
    cases e : tbs b with
    | true => simp [lr]
    | false => simp [lr]
   ·
    have hk0 : ¬ (k.length : Int) = 0 := fun h => c3 (List.length_eq_zero_iff.mp (by omega))
    refine ⟨((head f).map ofL ++ b.map ofL, false), go _ (vn c1 (vp hlen (vb (vs _) (vn hk0 (vs _))))), ?_⟩
    rw [if_neg (fun h => c3 h.1)]
    rfl
theorem impl_PartValid_ev (p : Pt) (hp : szt p ≤ 1048576) : Ev (fun k => impl_PartValid.f k (e32 p).f0 (e32 p).f1 (e32 p).f2) (lines 3 p).isSome := by
 unfold impl_PartValid.f
 obtain ⟨v, hv, hr⟩ := impl_linesOf_ev 3 p (by omega) hp
 refine vb hv (vq (vs _) ?_)
 cases e : lines 3 p with
 | none => rw [e] at hr; exact hr
 | some ls =>
  rw [e] at hr
  rw [show v = _ from hr]
  rfl

/-! The reference's lines of a part, and whether it is valid. -/
theorem spec_l8Format_ev : ∀ (d : Nat) (p : Pt) (ls : List Str), d ≤ 3 → szt p ≤ 1048576 → lines d p = some ls → Ev (fun k => spec_l8Format.f k (e32 p).f0 (e32 p).f1 (e32 p).f2) (ls.map ofL) := by
 intro d
 induction d with
 | zero => intro p ls hd hp h; rw [lines] at h; cases h
 | succ d ih =>
  intro p ls hd hp h
  obtain ⟨f, b, k⟩ := p
  obtain ⟨hf, hfn, hb, hbn, hkn, hk⟩ := szt_parts hp
  simp only [e32_mk]
  rw [lines] at h
  by_cases c : fvs f = true
  case neg => rw [if_neg c] at h; cases h
  rw [if_pos c] at h
  have hh := head_len c
  have hfo := folds_len f c
  refine vc ?_
  simp only [spec_l8Format.f]
  refine vb (spec_FoldFields_ev f hf hfn) ?_
  rw [if_pos c]
  refine vp (by rw [List.length_map]; omega) (vb (vs _) (vb (spec_l8Boundary_ev f hf hfn) ?_))
  simp only [map_head]
  by_cases c1 : (bF f).2 = true
  ·
   rw [if_pos c1] at h
   by_cases c2 : b = [] ∧ 1 ≤ k.length ∧ k.length ≤ 4
   case neg => rw [if_neg c2] at h; cases h
   rw [if_pos c2] at h
   obtain ⟨rfl, hk1, hk4⟩ := c2
   have hbd := isBd_len (bF_some c1)
   have hN := lN_le (d := d) (by omega)
   cases e : kl (lines d) k with
   | none => rw [e] at h; cases h
   | some l =>
   rw [e] at h
   simp only at h
   cases e2 : jR (bF f).1 l with
   | none => rw [e2] at h; cases h
   | some s =>
   rw [e2] at h
   cases h
   have key : ∀ (r p : List Pt) (acc m : List (List Str)), k = p ++ r → acc.length = p.length → tl acc ≤ (lN d + 1) * p.length → kl (lines d) r = some m → l = acc ++ m → Ev (fun n => spec_l8Format.l0 n ((head f).map ofL) (ofL (bF f).1) (acc.map (List.map ofL)) (p.length : Int) (f.map e76) (([] : List Str).map ofL) (k.map e32)) ((head f ++ s).map ofL) := by
    intro r
    induction r with
    | nil =>
     intro p acc m h ha ht hm hl
     have hz : k.length = p.length := by rw [h, List.append_nil]
     have ht2 : (lN d + 1) * p.length ≤ (lN d + 1) * 4 := Nat.mul_le_mul_left _ (by omega)
     rw [kl] at hm
     cases hm
     rw [List.append_nil] at hl
     subst hl
     have hj := spec_JoinParts_ev l (bF f).1 (by omega) (by omega)
     rw [e2] at hj
     have hs := jR_len e2
     refine vc ?_
     simp only [spec_l8Format.l0, List.length_map]
     exact vn (by omega) (vb hj (vp (by simp only [jres, List.length_map]; omega) (vq (vs _) (by simp [jres]))))
    | cons q r ihr =>
     intro p acc m h ha ht hm hl
     have hz := len_mid h
     have e1 := rd32_mid h
     have w1 : wrap64 ((p.length : Int) + 1) = (p.length : Int) + 1 := wrap_id (by omega) (by omega)
     rw [kl] at hm
     cases e3 : lines d q with
     | none => rw [e3] at hm; cases hm
     | some a =>
     rw [e3] at hm
     cases e4 : kl (lines d) r with
     | none => rw [e4] at hm; cases hm
     | some m2 =>
     rw [e4] at hm
     cases hm
     have hu := ih q a (by omega) (hk q (by rw [h]; simp)) e3
     have hla := lines_len d q a e3
     have hv := ihr (p ++ [q]) (acc ++ [a]) m2 (by rw [h]; simp) (by simp [ha]) (by rw [tl_append, List.length_append, List.length_singleton, Nat.mul_add]; simp only [tl]; omega) e4 (by rw [hl]; simp)
     rw [len_snoc, ← snoc_map] at hv
     refine vc ?_
     simp only [spec_l8Format.l0, List.length_map, e1, w1]
     clear w1
     exact vp (by omega) (vp (by omega) (vb hu (vp (by omega) hv)))
   exact vp c1 (key k [] [] l rfl rfl (by simp [tl]) e rfl)
  ·
   rw [if_neg c1] at h
   by_cases c2 : k = [] ∧ tbs b = true
   case neg => rw [if_neg c2] at h; cases h
   rw [if_pos c2] at h
   cases h
   refine vn c1 (vp (by simp only [List.length_map]; omega) (vq (vs _) ?_))
   rw [List.map_append]
theorem spec_l8Body_loop (ls : List Str) (hs : ∀ x ∈ ls, x.length ≤ 1048576) (hn : ls.length ≤ 1048576) (r : List Str) : ∀ p, ls = p ++ r → Ev (fun k => spec_l8Body.l0 k (ls.map ofL) (p.length : Int)) (decide (ls.length ≤ 30) && r.all tvalid) := by
 have out : ∀ i : Int, Ev (fun k => spec_l8Body.j1 k (ls.map ofL) i false) (decide (ls.length ≤ 30)) := fun i => by
  refine vc ?_
  simp only [spec_l8Body.j1, List.length_map]
  refine vn (by simp) (vq (vs _) ?_)
  exact decide_eq_decide.mpr (by omega)
 induction r with
 | nil =>
  intro p h
  have hz : ls.length = p.length := by rw [h, List.append_nil]
  refine vc ?_
  simp only [spec_l8Body.l0, List.length_map]
  refine vn (by omega) (vq (out _) (by simp))
 | cons c r ih =>
  intro p h
  have hz := len_mid h
  have e1 := rdOf_ofL h
  have hc := hs c (by rw [h]; simp)
  have w1 : wrap64 ((p.length : Int) + 1) = (p.length : Int) + 1 := wrap_id (by omega) (by omega)
  have hv := ih (p ++ [c]) (by rw [h]; simp)
  rw [len_snoc] at hv
  have h1 := spec_TextValid_ev c (by omega)
  refine vc ?_
  simp only [spec_l8Body.l0, List.length_map]
  refine vp (by omega) ?_
  by_cases c2 : p.length ≤ 30
  ·
   rw [show decide ((p.length : Int) ≤ 30) = true from decide_eq_true (by omega)]
   refine vc ?_
   simp only [spec_l8Body.j1, List.length_map, e1, w1]
   clear w1
   refine vp trivial (vp (by omega) (vp (by omega) (vb h1 ?_)))
   cases e : tvalid c with
   | true => exact vp rfl (vq hv (by rw [List.all_cons, e, Bool.true_and]))
   | false => exact vn (by simp) (vq (vs _) (by rw [List.all_cons, e]; simp))
  ·
   rw [show decide ((p.length : Int) ≤ 30) = false from decide_eq_false (by omega)]
   exact vq (out _) (by rw [decide_eq_false (by omega)]; rfl)
theorem spec_l8Body_ev (ls : List Str) (hs : ∀ x ∈ ls, x.length ≤ 1048576) (hn : ls.length ≤ 1048576) : Ev (fun k => spec_l8Body.f k (ls.map ofL)) (tbs ls) := spec_l8Body_loop ls hs hn ls [] rfl
theorem spec_l8_l1 (b : Str) (hb : b.length ≤ 100) (d x7 : Int) (F : List S69) (B : List ByteArray) (K : List S28) (ls : List Str) (hn : ls.length ≤ 1048576) (V : Bool) (h1 : dv ls b = true → V = false) (h2 : dv ls b = false → Ev (fun n => spec_l8Valid.l0 n d (ofL b) (wrap64 (x7 + 1)) F B K) V) : Ev (fun n => spec_l8Valid.l1 n d (ofL b) x7 (ls.map ofL) 0 F B K) V := by
 rw [dv_lk] at h1 h2
 have key : ∀ (r p : List Str), ls = p ++ r → (r.any (fun l => lk l b) = true → V = false) → (r.any (fun l => lk l b) = false → Ev (fun n => spec_l8Valid.l0 n d (ofL b) (wrap64 (x7 + 1)) F B K) V) → Ev (fun n => spec_l8Valid.l1 n d (ofL b) x7 (ls.map ofL) (p.length : Int) F B K) V := by
  intro r
  induction r with
  | nil =>
   intro p h g1 g2
   have hz : ls.length = p.length := by rw [h, List.append_nil]
   refine vc ?_
   simp only [spec_l8Valid.l1, List.length_map]
   exact vn (by omega) (g2 rfl)
  | cons c r ih =>
   intro p h g1 g2
   have hz := len_mid h
   have e1 := rdOf_ofL h
   have w1 : wrap64 ((p.length : Int) + 1) = (p.length : Int) + 1 := wrap_id (by omega) (by omega)
   refine vc ?_
   simp only [spec_l8Valid.l1, List.length_map, e1, w1]
   clear w1
   refine vp (by omega) (vp (by omega) (ev_bind0 (spec_l7Looks_eq c b (by omega)) ?_))
   cases e : lk c b with
   | true =>
    refine vp rfl (vq (vs _) (g1 ?_).symm)
    rw [List.any_cons, e]; rfl
   | false =>
    have := ih (p ++ [c]) (by rw [h]; simp) (fun g => g1 (by rw [List.any_cons, e]; exact g)) (fun g => g2 (by rw [List.any_cons, e]; exact g))
    rw [len_snoc] at this
    exact vn (by simp) this
 exact key ls [] rfl h1 h2
theorem spec_l8Valid_ev : ∀ (d : Nat) (p : Pt), d ≤ 3 → szt p ≤ 1048576 → Ev (fun k => spec_l8Valid.f k (e32 p).f0 (e32 p).f1 (e32 p).f2 (d : Int)) (lines d p).isSome := by
 have bad : ∀ (d : Int) (F : List S69) (B : List ByteArray) (K : List S28), Ev (fun k => spec_l8Valid.j0 k d true F B K) false := fun d F B K => by
  refine vc ?_
  simp only [spec_l8Valid.j0]
  exact vp trivial (vs _)
 intro d
 induction d with
 | zero =>
  intro p hd hp
  obtain ⟨f, b, k⟩ := p
  obtain ⟨hf, hfn, -⟩ := szt_parts hp
  simp only [e32_mk]
  refine vc ?_
  simp only [spec_l8Valid.f]
  refine vb (spec_l3Valid_ev f hf hfn) ?_
  by_cases c : fvs f = true
  ·
   exact vp c (bad _ _ _ _)
  ·
   exact vn c (bad _ _ _ _)
 | succ d ih =>
  intro p hd hp
  obtain ⟨f, b, k⟩ := p
  obtain ⟨hf, hfn, hb, hbn, hkn, hk⟩ := szt_parts hp
  simp only [e32_mk]
  rw [lines]
  refine vc ?_
  simp only [spec_l8Valid.f]
  refine vb (spec_l3Valid_ev f hf hfn) ?_
  by_cases c : fvs f = true
  case neg =>
   rw [if_neg c]
   exact vn c (bad _ _ _ _)
  rw [if_pos c]
  refine vp c ?_
  rw [show decide (((d + 1 : Nat) : Int) < 1) = false from decide_eq_false (by omega)]
  refine vc ?_
  simp only [spec_l8Valid.j0, List.length_map]
  refine vn (by simp) (vb (spec_l8Boundary_ev f hf hfn) ?_)
  have bad1 : ∀ (B : ByteArray), Ev (fun n => spec_l8Valid.j1 n ((d + 1 : Nat) : Int) B true (f.map e76) (b.map ofL) (k.map e32)) false := fun B => by
   refine vc ?_
   simp only [spec_l8Valid.j1]
   exact vp trivial (vs _)
  by_cases c1 : (bF f).2 = true
  ·
   rw [if_pos c1]
   refine vp c1 ?_
   by_cases c2 : b = [] ∧ 1 ≤ k.length ∧ k.length ≤ 4
   ·
    rw [if_pos c2]
    obtain ⟨rfl, hk1, hk4⟩ := c2
    have hbs := bF_some c1
    have hbd := isBd_len hbs
    have hN := lN_le (d := d) (by omega)
    have key : ∀ (r p : List Pt), k = p ++ r → Ev (fun n => spec_l8Valid.l0 n ((d + 1 : Nat) : Int) (ofL (bF f).1) (p.length : Int) (f.map e76) (([] : List Str).map ofL) (k.map e32)) (match kl (lines d) r with
      | none => false
      | some ls => !ls.any (fun c => dv c (bF f).1)) := by
     intro r
     induction r with
     | nil =>
      intro p h
      have hz : k.length = p.length := by rw [h, List.append_nil]
      refine vc ?_
      simp only [spec_l8Valid.l0, List.length_map]
      exact vn (by omega) (vs _)
     | cons q r ihr =>
      intro p h
      have hz := len_mid h
      have e1 := rd32_mid h
      have w1 : wrap64 ((p.length : Int) + 1) = (p.length : Int) + 1 := wrap_id (by omega) (by omega)
      have w2 : wrap64 (((d + 1 : Nat) : Int) - 1) = (d : Int) := by rw [wrap_id (by omega) (by omega)]; omega
      have hu := ih q (by omega) (hk q (by rw [h]; simp))
      have hv := ihr (p ++ [q]) (by rw [h]; simp)
      rw [len_snoc, ← w1] at hv
      refine vc ?_
      simp only [spec_l8Valid.l0, List.length_map, e1, w2]
      clear w1 w2
      refine vp (by omega) (vp (by omega) (vb hu ?_))
      rw [kl]
      cases e : lines d q with
      | none => exact vn (by simp) (vs _)
      | some a =>
       have hg := spec_l8Format_ev d q a (by omega) (hk q (by rw [h]; simp)) e
       have hla := lines_len d q a e
       refine vp rfl (vb hg (spec_l8_l1 _ (by omega) _ _ _ _ _ a (by omega) _ (fun g => ?_) (fun g => vq hv ?_)))
       ·
        cases kl (lines d) r with
        | none => rfl
        | some m => simp [g]
       ·
        cases kl (lines d) r with
        | none => rfl
        | some m => simp [g]
    refine vn (by simp) (vn (by omega) ?_)
    rw [show decide ((k.length : Int) > 4) = false from decide_eq_false (by omega)]
    refine vc ?_
    simp only [spec_l8Valid.j1]
    refine vn (by simp) (vq (key k [] rfl) ?_)
    cases e : kl (lines d) k with
    | none => rfl
    | some ls =>
     have hl := (kl_len e (N := lN d) fun p _ a h => lines_len d p a h).1
     have h0 : ls ≠ [] := fun h => by rw [h] at hl; simp at hl; omega
     show (!ls.any (fun c => dv c (bF f).1)) = ((jR (bF f).1 ls).map (head f ++ ·)).isSome
     unfold jR
     cases ls.any (fun c => dv c (bF f).1) with
     | true => rw [if_neg (fun h => by have := h.2.2; cases this)]; rfl
     | false => rw [if_pos ⟨hbs, h0, rfl⟩]; rfl
   ·
    rw [if_neg c2]
    by_cases c3 : (b.length : Int) > 0
    ·
     exact vp c3 (bad1 _)
    ·
     refine vn c3 ?_
     have hb0 : b = [] := List.length_eq_zero_iff.mp (by omega)
     by_cases c4 : (k.length : Int) < 1
     ·
      exact vp c4 (bad1 _)
     ·
      refine vn c4 ?_
      rw [show decide ((k.length : Int) > 4) = true from decide_eq_true (by
       apply Classical.byContradiction
       intro h
       exact c2 ⟨hb0, by omega, by omega⟩)]
      exact bad1 _
  ·
   rw [if_neg c1]
   refine vn c1 ?_
   by_cases c3 : k = []
   ·
    subst c3
    refine vp rfl (vb (spec_l8Body_ev b hb hbn) (vq (vs _) ?_))
    cases e : tbs b with
    | true => simp
    | false => simp
   ·
    have hk0 : ¬ (k.length : Int) = 0 := fun h => c3 (List.length_eq_zero_iff.mp (by omega))
    refine vn hk0 ?_
    rw [if_neg (fun h => c3 h.1)]
    exact vs _
theorem spec_PartValid_ev (p : Pt) (hp : szt p ≤ 1048576) : Ev (fun k => spec_PartValid.f k (e32 p).f0 (e32 p).f1 (e32 p).f2) (lines 3 p).isSome := by
 unfold spec_PartValid.f
 exact vb (spec_l8Valid_ev 3 p (by omega) hp) (vs _)

/-! How many leaves a part has. -/
mutual
def lv : Pt → Nat
 | .mk _ _ k => (if k.length = 0 then 1 else 0) + lvs k
def lvs : List Pt → Nat
 | [] => 0
 | p :: r => lv p + lvs r
end
theorem lvs_le {k : List Pt} (h : ∀ p ∈ k, lv p ≤ szt p + 1) : lvs k ≤ szts k + k.length := by
 induction k with
 | nil => simp [lvs]
 | cons p r ih =>
  have h1 := h p (by simp)
  have h2 := ih fun q hq => h q (by simp [hq])
  rw [lvs, szts, List.length_cons]
  omega
theorem lv_le (p : Pt) : lv p ≤ szt p + 1 := by
 refine pt_ind (P := fun p => lv p ≤ szt p + 1) (fun f b k ih => ?_) p
 have := lvs_le ih
 rw [lv, szt]
 split <;> omega
theorem lvs_append (a b : List Pt) : lvs (a ++ b) = lvs a + lvs b := by
 induction a with
 | nil => simp [lvs]
 | cons p r ih => rw [List.cons_append, lvs, lvs, ih]; omega
theorem impl_leaves_ev (p : Pt) : szt p ≤ 1048576 → Ev (fun n => impl_Part_leaves.f n (e32 p).f0 (e32 p).f1 (e32 p).f2) (lv p : Int) := by
 refine pt_ind (P := fun p => szt p ≤ 1048576 → Ev (fun n => impl_Part_leaves.f n (e32 p).f0 (e32 p).f1 (e32 p).f2) (lv p : Int)) (fun f b k ih hs => ?_) p
 obtain ⟨-, -, -, -, hkn, hk⟩ := szt_parts hs
 have hb := lvs_le (k := k) fun q _ => lv_le q
 rw [szt] at hs
 have key : ∀ (r p : List Pt), k = p ++ r → Ev (fun n => impl_Part_leaves.l0 n (lvs p : Int) (k.map e32) (k.length : Int) (p.length : Int)) (lvs k : Int) := by
  intro r
  induction r with
  | nil =>
   intro p h
   have hz : k.length = p.length := by rw [h, List.append_nil]
   refine vc ?_
   simp only [impl_Part_leaves.l0]
   refine vn (by omega) (vq (vs _) ?_)
   rw [h, List.append_nil]
  | cons c r ihr =>
   intro p h
   have hz := len_mid h
   have e1 := rd32_mid h
   have hc := ih c (by rw [h]; simp) (hk c (by rw [h]; simp))
   have hl : lvs k = lvs p + (lv c + lvs r) := by rw [h, lvs_append, lvs]
   have ws : wrap64 ((p.length : Int) + 1) = (p.length : Int) + 1 ∧ wrap64 ((lvs p : Int) + (lv c : Int)) = ((lvs (p ++ [c]) : Nat) : Int) := ⟨wrap_id (by omega) (by omega), by rw [wrap_id (by omega) (by omega), lvs_append, lvs, lvs]; omega⟩
   have hv := ihr (p ++ [c]) (by rw [h]; simp)
   rw [len_snoc, ← ws.1, ← ws.2] at hv
   refine vc ?_
   simp only [impl_Part_leaves.l0, List.length_map, e1]
   clear ws
   exact vp (by omega) (vp (by omega) (vp (by omega) (vb hc hv)))
 simp only [e32_mk]
 refine vc ?_
 simp only [impl_Part_leaves.f, List.length_map]
 by_cases h0 : k.length = 0
 ·
  refine vp (by omega) (vq (vs _) ?_)
  obtain rfl := List.length_eq_zero_iff.mp h0
  rw [lv]; simp [lvs]
 ·
  refine vn (by omega) (vq (key k [] rfl) ?_)
  rw [lv, if_neg h0]; omega
theorem spec_l8Count_ev (p : Pt) : szt p ≤ 1048576 → Ev (fun n => spec_l8Count.f n (e32 p).f0 (e32 p).f1 (e32 p).f2) (lv p : Int) := by
 refine pt_ind (P := fun p => szt p ≤ 1048576 → Ev (fun n => spec_l8Count.f n (e32 p).f0 (e32 p).f1 (e32 p).f2) (lv p : Int)) (fun f b k ih hs => ?_) p
 obtain ⟨-, -, -, -, hkn, hk⟩ := szt_parts hs
 have hb := lvs_le (k := k) fun q _ => lv_le q
 rw [szt] at hs
 have key : ∀ (r p : List Pt), k = p ++ r → Ev (fun n => spec_l8Count.l0 n (lvs p : Int) (p.length : Int) (f.map e76) (b.map ofL) (k.map e32)) (if k.length = 0 then (1 : Int) else (lvs k : Int)) := by
  intro r
  induction r with
  | nil =>
   intro p h
   have hz : k.length = p.length := by rw [h, List.append_nil]
   refine vc ?_
   simp only [spec_l8Count.l0, List.length_map]
   refine vn (by omega) ?_
   by_cases h0 : k.length = 0
   ·
    rw [if_pos h0]
    exact vp (by omega) (vs _)
   ·
    rw [if_neg h0]
    refine vn (by omega) (vq (vs _) ?_)
    rw [h, List.append_nil]
  | cons c r ihr =>
   intro p h
   have hz := len_mid h
   have e1 := rd32_mid h
   have hc := ih c (by rw [h]; simp) (hk c (by rw [h]; simp))
   have hl : lvs k = lvs p + (lv c + lvs r) := by rw [h, lvs_append, lvs]
   have ws : wrap64 ((p.length : Int) + 1) = (p.length : Int) + 1 ∧ wrap64 ((lvs p : Int) + (lv c : Int)) = ((lvs (p ++ [c]) : Nat) : Int) := ⟨wrap_id (by omega) (by omega), by rw [wrap_id (by omega) (by omega), lvs_append, lvs, lvs]; omega⟩
   have hv := ihr (p ++ [c]) (by rw [h]; simp)
   rw [len_snoc, ← ws.1, ← ws.2] at hv
   refine vc ?_
   simp only [spec_l8Count.l0, List.length_map, e1]
   clear ws
   exact vp (by omega) (vp (by omega) (vb hc hv))
 simp only [e32_mk]
 refine vc ?_
 simp only [spec_l8Count.f]
 refine vq (key k [] rfl) ?_
 rw [lv]
 by_cases h0 : k.length = 0
 ·
  obtain rfl := List.length_eq_zero_iff.mp h0
  simp [lvs]
 ·
  rw [if_neg h0, if_neg h0]; omega
def cnt (p : Pt) : Int := if (lines 3 p).isSome = true then (lv p : Int) else 0
theorem impl_CountParts_ev (p : Pt) (hp : szt p ≤ 1048576) : Ev (fun k => impl_CountParts.f k (e32 p).f0 (e32 p).f1 (e32 p).f2) (cnt p) := by
 unfold impl_CountParts.f cnt
 refine vb (impl_PartValid_ev p hp) ?_
 by_cases c : (lines 3 p).isSome = true
 ·
  rw [if_pos c]
  exact vp c (vb (impl_leaves_ev p hp) (vs _))
 ·
  rw [if_neg c]
  exact vn c (vs _)
theorem spec_CountParts_ev (p : Pt) (hp : szt p ≤ 1048576) : Ev (fun k => spec_CountParts.f k (e32 p).f0 (e32 p).f1 (e32 p).f2) (cnt p) := by
 unfold spec_CountParts.f cnt
 refine vb (spec_PartValid_ev p hp) ?_
 by_cases c : (lines 3 p).isSome = true
 ·
  rw [if_pos c]
  exact vp c (vb (spec_l8Count_ev p hp) (vs _))
 ·
  rw [if_neg c]
  exact vn c (vs _)

theorem part_open {x : S44} (h : GoodP x) : ∃ p, x = e26 p ∧ SaneT p := by
 induction h with
 | mk x h0 g0 h1 g1 h2 g2 ih =>
  have hk : ∀ l : List S44, (∀ y ∈ l, ∃ p, y = e26 p ∧ SaneT p) → ∃ k : List Pt, l = k.map e26 ∧ ∀ p ∈ k, SaneT p := by
   intro l
   induction l with
   | nil => exact fun _ => ⟨[], rfl, by simp⟩
   | cons y l ih =>
    intro h
    obtain ⟨p, hp, hs⟩ := h y (by simp)
    obtain ⟨k, hk, hks⟩ := ih (fun z hz => h z (by simp [hz]))
    exact ⟨p :: k, by rw [List.map_cons, ← hp, ← hk], fun q hq => by
     rcases List.mem_cons.mp hq with rfl | hq
     ·
      exact hs
     ·
      exact hks q hq⟩
  obtain ⟨k, hk, hks⟩ := hk x.f2 ih
  obtain ⟨f0, f1, f2⟩ := x
  simp only at h0 g0 h1 g1 h2 hk
  unfold maxLen at h0 h1 h2
  refine ⟨.mk (f0.map p91) (f1.map L) k, by rw [e26_mk, map_e91, map_ofL_L, ← hk], SaneT.mk _ _ _ (by rw [List.length_map]; exact h0) (fun y hy => ?_) (by rw [List.length_map]; exact h1) (fun y hy => ?_) (by rw [hk, List.length_map] at h2; exact h2) hks⟩
  ·
   obtain ⟨z, hz, rfl⟩ := List.mem_map.mp hy
   have := g0 z hz
   rw [size_L, size_L] at this
   unfold maxLen at this
   exact ⟨by show (L z.f0).length ≤ _; omega, by show (L z.f1).length ≤ _; omega⟩
  ·
   obtain ⟨z, hz, rfl⟩ := List.mem_map.mp hy
   have := g1 z hz
   rw [size_L] at this
   unfold maxLen at this
   omega

/-! Several answers from one number of rounds on. -/
def Evp (p : Nat → Prop) : Prop := ∃ K, ∀ k, K ≤ k → p k
theorem evp_of {α : Type} {g : Nat → Option α} {r : α} (h : Ev g r) : Evp (fun k => g k = some r) := h
theorem evp_and {p q : Nat → Prop} (h : Evp p) (h2 : Evp q) : Evp (fun k => p k ∧ q k) := by
 obtain ⟨K, h⟩ := h
 obtain ⟨M, h2⟩ := h2
 exact ⟨K + M, fun k hk => ⟨h k (by omega), h2 k (by omega)⟩⟩
theorem evp_some {p : Nat → Prop} (h : Evp p) : ∃ k, p k := by
 obtain ⟨K, h⟩ := h
 exact ⟨K, h K (Nat.le_refl _)⟩

theorem FnExactCountParts (x : S44) (gx : GoodP x) : ∃ k, laws_FnExactCountParts.Ok k x := by
 obtain ⟨p, rfl, hp⟩ := part_open gx
 obtain ⟨v, hv, hv1, hv2⟩ := szPart_ev p hp 1048576 (by omega)
 by_cases h0 : v < 0
 ·
  obtain ⟨k, h⟩ := evp_some (evp_of hv)
  exact ⟨k, v, h, Or.inl h0⟩
 have hvv := hv2 (by omega)
 have sp : szt p ≤ 1048576 := by omega
 obtain ⟨k, a1, a2, a3, a4, a5⟩ := evp_some (evp_and (evp_of hv) (evp_and (evp_of (toPart_ev p sp)) (evp_and (evp_of (spec_CountParts_ev p sp)) (evp_and (evp_of (impl_CountParts_ev p sp)) (evp_of (eqPart_ev p sp))))))
 exact ⟨k, v, a1, Or.inr ⟨h0, e32 p, _, a2, a3, a4, a5⟩⟩

end Go.Proofs.YtncdadcmghglkaaGreatDoor.Pure
