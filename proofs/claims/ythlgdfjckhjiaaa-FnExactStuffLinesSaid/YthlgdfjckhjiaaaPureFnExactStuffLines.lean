/- Proved here: the pure form of the law FnExactStuffLines (the program's StuffLines is the reference's) returns true for all arguments; conditions: none beyond those that the printed statement bears. -/
import Derived.Test.YthlgdfjckhjiaaaPFnExactStuffLinesx2
import Derived.Test.YthlgdfjckhjiaaaZb
namespace Go.Proofs.Ythlgdfjckhjiaaa.Pure
open Go.RowKit Go.Proofs.Ythlgdfjckhjiaaa.PFnExactStuffLines Go.Proofs.YthlgdfjckhjiaaaW.PrintWords Go.Proofs.YthlgdfjckhjiaaaW.PrintLast Go.Proofs.Ythlgdfjckhjiaaa.Z
set_option linter.unusedVariables false
set_option linter.unusedSimpArgs false

/-! Texts: the model. -/
def okB (c : UInt8) : Bool := 32 ≤ c && c ≤ 126
def tvalid (l : Str) : Bool := l.all okB && decide (l.length ≤ 200)
theorem okB_lo (c : UInt8) (h : (c.toNat : Int) < 32) : okB c = false := by
  have : c < 32 := (u8_lt c 32 (by omega)).mp h
  unfold okB
  simp [UInt8.le_iff_toNat_le, UInt8.lt_iff_toNat_lt] at this ⊢
  omega
theorem okB_hi (c : UInt8) (h : (c.toNat : Int) > 126) : okB c = false := by
  unfold okB
  simp [UInt8.le_iff_toNat_le, UInt8.lt_iff_toNat_lt]
  omega
theorem okB_mid (c : UInt8) (h : ¬ (c.toNat : Int) < 32) (h2 : ¬ (c.toNat : Int) > 126) : okB c = true := by
  unfold okB
  simp [UInt8.le_iff_toNat_le, UInt8.lt_iff_toNat_lt]
  omega
theorem tvalid_len {l : Str} (h : tvalid l = true) : l.length ≤ 200 := by
  unfold tvalid at h; simp at h; exact h.2

theorem impl_TextValid_loop (l : Str) (hl : l.length ≤ 1000000000000000) (r : Str) : ∀ (p : Str), l = p ++ r → Ev (fun k => impl_TextValid.l0 k (ofL l) (l.length : Int) (p.length : Int)) (r.all okB && decide (l.length ≤ 200)) := by
  induction r with
  | nil =>
    intro p h
    have hz : l.length = p.length := by rw [h, List.append_nil]
    refine ev_succ ?_
    simp only [impl_TextValid.l0, size_ofL]
    repeat (first | refine ev_pos (by first | assumption | omega | decide) ?_ | refine ev_neg (by first | assumption | omega | decide) ?_)
    exact ev_eq (ev_some _) (by simp; omega)
  | cons c r ih =>
    intro p h
    have hz : l.length = p.length + (r.length + 1) := by rw [h]; simp
    have e1 : bt (ofL l) (p.length : Int) = (c.toNat : Int) := by rw [h]; exact bt_mid p r c
    have := ih (p ++ [c]) (by rw [h]; simp)
    rw [len_snoc] at this
    refine ev_succ ?_
    simp (disch := omega) only [impl_TextValid.l0, size_ofL, e1, wrap_id]
    by_cases h1 : (c.toNat : Int) < 32
    · repeat (first | refine ev_pos (by first | assumption | omega | decide) ?_ | refine ev_neg (by first | assumption | omega | decide) ?_)
      exact ev_eq (ev_some _) (by simp [okB_lo c h1])
    · by_cases h2 : (c.toNat : Int) > 126
      · repeat (first | refine ev_pos (by first | assumption | omega | decide) ?_ | refine ev_neg (by first | assumption | omega | decide) ?_)
        exact ev_eq (ev_some _) (by simp [okB_hi c h2])
      · repeat (first | refine ev_pos (by first | assumption | omega | decide) ?_ | refine ev_neg (by first | assumption | omega | decide) ?_)
        exact ev_eq this (by simp [okB_mid c h1 h2])
theorem impl_TextValid_ev (l : Str) (hl : l.length ≤ 1000000000000000) : Ev (fun k => impl_TextValid.f k (ofL l)) (tvalid l) := by
  unfold impl_TextValid.f
  rw [size_ofL]
  exact impl_TextValid_loop l hl l [] rfl

theorem spec_TextValid_loop (l : Str) (hl : l.length ≤ 1000000000000000) (r : Str) : ∀ (p : Str), l = p ++ r → Ev (fun k => spec_TextValid.l0 k (ofL l) (p.length : Int)) (r.all okB && decide (l.length ≤ 200)) := by
  induction r with
  | nil =>
    intro p h
    have hz : l.length = p.length := by rw [h, List.append_nil]
    refine ev_succ ?_
    simp only [spec_TextValid.l0, size_ofL]
    repeat (first | refine ev_pos (by first | assumption | omega | decide) ?_ | refine ev_neg (by first | assumption | omega | decide) ?_)
    refine ev_succ ?_
    simp only [spec_TextValid.j1, size_ofL]
    repeat (first | refine ev_pos (by first | assumption | omega | decide) ?_ | refine ev_neg (by first | assumption | omega | decide) ?_)
    exact ev_eq (ev_some _) (by simp; omega)
  | cons c r ih =>
    intro p h
    have hz : l.length = p.length + (r.length + 1) := by rw [h]; simp
    have e1 : bt (ofL l) (p.length : Int) = (c.toNat : Int) := by rw [h]; exact bt_mid p r c
    have := ih (p ++ [c]) (by rw [h]; simp)
    rw [len_snoc] at this
    by_cases h0 : (p.length : Int) ≤ 200
    · refine ev_succ ?_
      simp only [spec_TextValid.l0, size_ofL]
      repeat (first | refine ev_pos (by first | assumption | omega | decide) ?_ | refine ev_neg (by first | assumption | omega | decide) ?_)
      refine ev_succ ?_
      simp (disch := omega) only [spec_TextValid.j1, size_ofL, e1, wrap_id, decide_eq_true h0]
      by_cases h1 : (c.toNat : Int) < 32
      · repeat (first | refine ev_pos (by first | assumption | omega | decide) ?_ | refine ev_neg (by first | assumption | omega | decide) ?_)
        exact ev_eq (ev_some _) (by simp [okB_lo c h1])
      · by_cases h2 : (c.toNat : Int) > 126
        · repeat (first | refine ev_pos (by first | assumption | omega | decide) ?_ | refine ev_neg (by first | assumption | omega | decide) ?_)
          exact ev_eq (ev_some _) (by simp [okB_hi c h2])
        · repeat (first | refine ev_pos (by first | assumption | omega | decide) ?_ | refine ev_neg (by first | assumption | omega | decide) ?_)
          exact ev_eq this (by simp [okB_mid c h1 h2])
    · refine ev_succ ?_
      simp only [spec_TextValid.l0, size_ofL]
      repeat (first | refine ev_pos (by first | assumption | omega | decide) ?_ | refine ev_neg (by first | assumption | omega | decide) ?_)
      refine ev_succ ?_
      simp only [spec_TextValid.j1, size_ofL, decide_eq_false h0]
      repeat (first | refine ev_pos (by first | assumption | omega | decide) ?_ | refine ev_neg (by first | assumption | omega | decide) ?_)
      have d1 : decide ((l.length : Int) ≤ 200) = false := decide_eq_false (by omega)
      have d2 : decide (l.length ≤ 200) = false := decide_eq_false (by omega)
      exact ev_eq (ev_some _) (by rw [d1, d2, Bool.and_false])
theorem spec_TextValid_ev (l : Str) (hl : l.length ≤ 1000000000000000) : Ev (fun k => spec_TextValid.f k (ofL l)) (tvalid l) := by
  unfold spec_TextValid.f
  exact spec_TextValid_loop l hl l [] rfl

theorem stringslite_HasPrefix_eq (a b : Str) : stringslite_HasPrefix.f (ofL a) (ofL b) = some (b.isPrefixOf a) := by
  unfold stringslite_HasPrefix.f
  simp only [size_ofL, extract_ofL, toList_ofL]
  by_cases h : (a.length : Int) ≥ (b.length : Int)
  · rw [if_pos h, if_pos (by omega), if_pos (by omega)]
    congr 1
    rw [Bool.eq_iff_iff, beq_iff_eq, List.isPrefixOf_iff_prefix, List.prefix_iff_eq_take]
    simp
    exact eq_comm
  · rw [if_neg h]
    congr 1
    rw [eq_comm, Bool.eq_false_iff, ne_eq, List.isPrefixOf_iff_prefix]
    intro hp
    have := hp.length_le
    omega
theorem strings_HasPrefix_eq (a b : Str) : strings_HasPrefix.f (ofL a) (ofL b) = some (b.isPrefixOf a) := by
  unfold strings_HasPrefix.f
  rw [stringslite_HasPrefix_eq]; rfl

/-! Lines with dots: the model. -/
def stf (l : Str) : Str := if ([46] : Str).isPrefixOf l = true then 46 :: l else l
def stuffs : List Str → Str → Option Str
  | [], out => if (out ++ [46, 13, 10]).length > 2000 then none else some (out ++ [46, 13, 10])
  | l :: r, out => if tvalid l = false ∨ out.length > 2000 then none else stuffs r (out ++ (stf l ++ [13, 10]))
def sres (o : Option Str) : ByteArray × Bool := match o with
  | none => (ofL [], false)
  | some s => (ofL s, true)
theorem stf_len (l : Str) : (stf l).length ≤ l.length + 1 ∧ l.length ≤ (stf l).length := by
  unfold stf; split
  · simp
  · omega

theorem impl_stuffed_eq (l : Str) (hl : l.length ≤ 1000000000000000) : impl_stuffed.f (ofL l) = some (ofL (stf l)) := by
  unfold impl_stuffed.f stf
  simp only [mk_ofL, lit_list]
  rw [strings_HasPrefix_eq]
  simp only [Option.bind_some, size_ofL, ofL_append]
  by_cases h : ([46] : Str).isPrefixOf l = true
  · rw [if_pos h, if_pos h, if_pos (by omega)]; rfl
  · rw [if_neg h, if_neg h]

theorem impl_StuffLines_loop (ls : List Str) (hl : ∀ l ∈ ls, l.length ≤ 1000000000000000) (hn : ls.length ≤ 1000000000000000) (r : List Str) : ∀ (p : List Str) (out : Str), ls = p ++ r → out.length ≤ 3000 → Ev (fun k => impl_StuffLines.l0 k (ofL out) (ls.map ofL) (ls.length : Int) (p.length : Int)) (sres (stuffs r out)) := by
  induction r with
  | nil =>
    intro p out h ho
    have hz : ls.length = p.length := by rw [h, List.append_nil]
    refine ev_succ ?_
    simp only [impl_StuffLines.l0, mk_ofL, lit_list, size_ofL, ofL_append, stuffs]
    by_cases h3 : (out ++ [46, 13, 10]).length > 2000
    · rw [if_pos h3]
      refine ev_neg (by omega) (ev_pos (by omega) (ev_pos (by omega) (ev_some _)))
    · rw [if_neg h3]
      refine ev_neg (by omega) (ev_pos (by omega) (ev_neg (by omega) (ev_some _)))
  | cons c r ih =>
    intro p out h ho
    have hz : ls.length = p.length + (r.length + 1) := by rw [h]; simp
    have hc := hl c (by rw [h]; simp)
    have e0 : ls.map ofL = p.map ofL ++ ofL c :: r.map ofL := by rw [h]; simp
    have e1 : rdOf ByteArray.empty (ls.map ofL) (p.length : Int) = ofL c := by
      have := rdOf_mid ByteArray.empty (p.map ofL) (r.map ofL) (ofL c)
      rw [List.length_map] at this
      rw [e0]; exact this
    refine ev_succ ?_
    simp (disch := omega) only [impl_StuffLines.l0, wrap_id, e1, List.length_map]
    refine ev_pos (by omega) (ev_pos (by omega) (ev_pos (by omega) (ev_bind (impl_TextValid_ev c hc) ?_)))
    rw [stuffs]
    by_cases ht : tvalid c = true
    · have htl := tvalid_len ht
      have hsl := stf_len c
      refine ev_pos ht ?_
      by_cases h2 : out.length > 2000
      · rw [if_pos (Or.inr h2)]
        exact ev_pos (by rw [size_ofL]; omega) (ev_some _)
      · rw [if_neg (fun hh => hh.elim (fun h5 => by rw [ht] at h5; cases h5) h2)]
        refine ev_neg (by rw [size_ofL]; omega) (ev_bind0 (impl_stuffed_eq c hc) ?_)
        have := ih (p ++ [c]) (out ++ (stf c ++ [13, 10])) (by rw [h]; simp) (by simp only [List.length_append, List.length_cons, List.length_nil]; omega)
        rw [len_snoc] at this
        simp only [mk_ofL, lit_list, size_ofL, ofL_append]
        exact ev_pos (by omega) (ev_pos (by simp only [List.length_append, List.length_cons, List.length_nil]; omega) this)
    · rw [if_pos (Or.inl (by simpa using ht))]
      exact ev_neg ht (ev_some _)
theorem impl_StuffLines_ev (ls : List Str) (hl : ∀ l ∈ ls, l.length ≤ 1000000000000000) (hn : ls.length ≤ 1000000000000000) : Ev (fun k => impl_StuffLines.f k (ls.map ofL)) (sres (stuffs ls [])) := by
  unfold impl_StuffLines.f
  rw [List.length_map]
  exact impl_StuffLines_loop ls hl hn ls [] [] rfl (by simp)

theorem spec_StuffLines_loop (ls : List Str) (hl : ∀ l ∈ ls, l.length ≤ 1000000000000000) (hn : ls.length ≤ 1000000000000000) (r : List Str) : ∀ (p : List Str) (out : Str), ls = p ++ r → out.length ≤ 3000 → Ev (fun k => spec_StuffLines.l0 k (ls.map ofL) (ofL out) (p.length : Int)) (sres (stuffs r out)) := by
  induction r with
  | nil =>
    intro p out h ho
    have hz : ls.length = p.length := by rw [h, List.append_nil]
    refine ev_succ ?_
    simp only [spec_StuffLines.l0, mk_ofL, lit_list, size_ofL, ofL_append, stuffs, List.length_map]
    by_cases h3 : (out ++ [46, 13, 10]).length > 2000
    · rw [if_pos h3]
      refine ev_neg (by omega) (ev_pos (by omega) (ev_pos (by omega) (ev_some _)))
    · rw [if_neg h3]
      refine ev_neg (by omega) (ev_pos (by omega) (ev_neg (by omega) (ev_some _)))
  | cons c r ih =>
    intro p out h ho
    have hz : ls.length = p.length + (r.length + 1) := by rw [h]; simp
    have hc := hl c (by rw [h]; simp)
    have e0 : ls.map ofL = p.map ofL ++ ofL c :: r.map ofL := by rw [h]; simp
    have e1 : rdOf ByteArray.empty (ls.map ofL) (p.length : Int) = ofL c := by
      have := rdOf_mid ByteArray.empty (p.map ofL) (r.map ofL) (ofL c)
      rw [List.length_map] at this
      rw [e0]; exact this
    refine ev_succ ?_
    simp (disch := omega) only [spec_StuffLines.l0, wrap_id, e1, List.length_map]
    refine ev_pos (by omega) (ev_pos (by omega) (ev_bind (spec_TextValid_ev c hc) ?_))
    rw [stuffs]
    by_cases ht : tvalid c = true
    · have htl := tvalid_len ht
      have hsl := stf_len c
      refine ev_pos ht (ev_succ ?_)
      have w1 : wrap64 ((p.length : Int) + 1) = (p.length : Int) + 1 := wrap_id (by omega) (by omega)
      simp only [spec_StuffLines.j1, w1, e1, List.length_map, mk_ofL, lit_list, size_ofL, ofL_append, toList_ofL]
      by_cases h2 : out.length > 2000
      · rw [if_pos (Or.inr h2)]
        exact ev_pos (decide_eq_true (by omega)) (ev_some _)
      · rw [if_neg (fun hh => hh.elim (fun h5 => by rw [ht] at h5; cases h5) h2)]
        have := ih (p ++ [c]) (out ++ (stf c ++ [13, 10])) (by rw [h]; simp) (by simp only [List.length_append, List.length_cons, List.length_nil]; omega)
        rw [len_snoc] at this
        refine ev_neg (by rw [decide_eq_true_iff]; omega) (ev_pos (by omega) (ev_pos (by omega) ?_))
        cases c with
        | nil =>
          refine ev_pos rfl (ev_pos (by simp; omega) (ev_pos (by simp; omega) ?_))
          have e5 : out ++ [] ++ [13, 10] = out ++ (stf [] ++ [13, 10]) := by rw [List.append_nil]; rfl
          rw [e5]
          exact this
        | cons d c =>
          simp only [bt_zero]
          refine ev_neg (by simp) (ev_pos (by simp) ?_)
          by_cases hd : (d.toNat : Int) = 46
          · have hd' : d = 46 := (u8_eq d 46 (by omega)).mp hd
            have e5 : stf (d :: c) = 46 :: d :: c := by rw [hd']; unfold stf; simp [List.isPrefixOf]
            have e6 : out ++ [46] ++ (d :: c) ++ [13, 10] = out ++ (46 :: d :: c ++ [13, 10]) := by simp
            rw [e6, e5]
            rw [e5] at this
            refine ev_pos hd (ev_pos (by omega) (ev_pos (by simp at htl ⊢; omega) (ev_pos (by simp at htl ⊢; omega) this)))
          · have hd' : ¬ d = 46 := fun hh => hd ((u8_eq d 46 (by omega)).mpr hh)
            have e5 : stf (d :: c) = d :: c := by
              unfold stf
              rw [if_neg]
              simp [List.isPrefixOf]
              exact fun hh => hd' hh.symm
            have e6 : out ++ (d :: c) ++ [13, 10] = out ++ (d :: c ++ [13, 10]) := by simp
            rw [e6, e5]
            rw [e5] at this
            refine ev_neg hd (ev_pos (by omega) (ev_pos (by simp at htl ⊢; omega) this))
    · rw [if_pos (Or.inl (by simpa using ht))]
      refine ev_neg ht (ev_succ ?_)
      simp only [spec_StuffLines.j1]
      exact ev_pos trivial (ev_some _)
theorem spec_StuffLines_ev (ls : List Str) (hl : ∀ l ∈ ls, l.length ≤ 1000000000000000) (hn : ls.length ≤ 1000000000000000) : Ev (fun k => spec_StuffLines.f k (ls.map ofL)) (sres (stuffs ls [])) := by
  unfold spec_StuffLines.f
  exact spec_StuffLines_loop ls hl hn ls [] [] rfl (by simp)

/-! Texts that came in: their size, a copy, and the same again. -/
def szs : List Str → Nat
  | [] => 0
  | c :: r => c.length + szs r
theorem szs_append (a b : List Str) : szs (a ++ b) = szs a + szs b := by
  induction a with
  | nil => simp [szs]
  | cons c a ih => simp only [List.cons_append, szs, ih]; omega
theorem szs_mem {a : List Str} {c : Str} (h : c ∈ a) : c.length ≤ szs a := by
  induction a with
  | nil => cases h
  | cons d a ih =>
    simp only [szs]
    rcases List.mem_cons.mp h with rfl | h
    · omega
    · have := ih h; omega
theorem map_ofL_L (l : List ByteArray) : (l.map L).map ofL = l := by
  rw [List.map_map]
  exact (List.map_congr_left (fun x _ => ofL_L x)).trans (List.map_id l)
theorem szString_loop (ls : List Str) (hl : ∀ x ∈ ls, x.length ≤ 9223372036854775807) (hn : ls.length ≤ 9223372036854775807) (r : List Str) : ∀ (p : List Str) (left : Nat), ls = p ++ r → left ≤ 1048576 → ∃ v : Int, Ev (fun k => laws_szStringS.l0 k (ls.map ofL) (left : Int) (p.length : Int)) v ∧ v ≤ left ∧ (0 ≤ v → v = (left : Int) - szs r) := by
  induction r with
  | nil =>
    intro p left h hle
    have hz : ls.length = p.length := by rw [h, List.append_nil]
    refine ⟨left, ev_succ ?_, Int.le_refl _, fun _ => by simp [szs]⟩
    simp only [laws_szStringS.l0, List.length_map]
    exact ev_neg (by omega) (ev_some _)
  | cons c r ih =>
    intro p left h hle
    have hz := len_mid h
    have e1 := rdOf_ofL h
    have hc := hl c (by rw [h]; simp)
    have w1 : wrap64 ((p.length : Int) + 1) = (p.length : Int) + 1 ∧ wrap64 ((left : Int) - (c.length : Int)) = (left : Int) - (c.length : Int) := ⟨wrap_id (by omega) (by omega), wrap_id (by omega) (by omega)⟩
    by_cases hlt : (left : Int) - (c.length : Int) < 0
    · refine ⟨-1, ev_succ ?_, by omega, fun h => by omega⟩
      simp only [laws_szStringS.l0, List.length_map, e1, size_ofL, w1.1, w1.2]
      clear w1
      exact ev_pos (by omega) (ev_pos (by omega) (ev_pos hlt (ev_some _)))
    · obtain ⟨v, hv, hv1, hv2⟩ := ih (p ++ [c]) (left - c.length) (by rw [h]; simp) (by omega)
      rw [len_snoc] at hv
      refine ⟨v, ev_succ ?_, by omega, fun h0 => by have := hv2 h0; simp only [szs]; omega⟩
      have e2 : (left : Int) - (c.length : Int) = ((left - c.length : Nat) : Int) := by omega
      simp only [laws_szStringS.l0, List.length_map, e1, size_ofL, w1.1, w1.2]
      clear w1
      rw [e2]
      exact ev_pos (by omega) (ev_pos (by omega) (ev_neg (by omega) hv))
theorem laws_szStringS_ev (ls : List Str) (hl : ∀ x ∈ ls, x.length ≤ 9223372036854775807) (hn : ls.length ≤ 9223372036854775807) (left : Nat) (hle : left ≤ 1048576) : ∃ v : Int, Ev (fun k => laws_szStringS.f k (ls.map ofL) (left : Int)) v ∧ v ≤ left ∧ (0 ≤ v → v = (left : Int) - ls.length - szs ls) := by
  unfold laws_szStringS.f
  have w1 : wrap64 ((left : Int) - (ls.length : Int)) = (left : Int) - (ls.length : Int) := wrap_id (by omega) (by omega)
  rw [List.length_map, w1]
  clear w1
  by_cases h : (left : Int) - (ls.length : Int) < 0
  · exact ⟨-1, ev_pos h (ev_some _), by omega, fun h => by omega⟩
  · have e2 : (left : Int) - (ls.length : Int) = ((left - ls.length : Nat) : Int) := by omega
    obtain ⟨v, hv, hv1, hv2⟩ := szString_loop ls hl hn ls [] (left - ls.length) rfl (by omega)
    rw [e2]
    exact ⟨v, ev_neg (by omega) hv, by omega, fun h0 => by have := hv2 h0; omega⟩
theorem laws_toStringS_ev (ls : List Str) (hn : ls.length ≤ 1000000000000) : Ev (fun k => laws_toStringS.f k (ls.map ofL)) (ls.map ofL) := by
  have key : ∀ (r p : List Str), ls = p ++ r → Ev (fun k => laws_toStringS.l0 k (ls.map ofL) (p.map ofL ++ List.replicate r.length (⟨#[]⟩ : ByteArray)) (p.length : Int)) (ls.map ofL) := by
    intro r
    induction r with
    | nil =>
      intro p h
      have hz : ls.length = p.length := by rw [h, List.append_nil]
      refine ev_succ ?_
      simp only [laws_toStringS.l0, List.length_map]
      refine ev_neg (by omega) (ev_eq (ev_some _) ?_)
      rw [h]; simp
    | cons c r ih =>
      intro p h
      have hz := len_mid h
      have e1 := rdOf_ofL h
      have w1 : wrap64 ((p.length : Int) + 1) = (p.length : Int) + 1 := wrap_id (by omega) (by omega)
      have := ih (p ++ [c]) (by rw [h]; simp)
      rw [len_snoc] at this
      have e2 : (p.map ofL ++ List.replicate (r.length + 1) (⟨#[]⟩ : ByteArray)).set p.length (ofL c) = (p ++ [c]).map ofL ++ List.replicate r.length (⟨#[]⟩ : ByteArray) := by
        rw [List.set_append_right _ _ (by simp), List.length_map, Nat.sub_self, List.replicate_succ, List.set_cons_zero, List.map_append, List.append_assoc]
        rfl
      rw [← e2] at this
      refine ev_succ ?_
      simp only [laws_toStringS.l0, List.length_map, e1, w1, Int.toNat_natCast, List.length_cons]
      clear w1
      exact ev_pos (by omega) (ev_pos (by omega) (ev_pos (by simp; omega) this))
  unfold laws_toStringS.f
  simp only [List.length_map, Int.toNat_natCast]
  exact ev_pos (by omega) (ev_pos (by omega) (key ls [] rfl))
theorem laws_eqStringS_ev (a b : List Str) (hn : a.length ≤ 1000000000000000) : Ev (fun k => laws_eqStringS.f k (a.map ofL) (b.map ofL)) (decide (a = b)) := by
  unfold laws_eqStringS.f
  simp only [List.length_map]
  by_cases hl : a.length = b.length
  · refine ev_pos (by omega) ?_
    refine ev_eq (run_start (xs := a) (F := fun k (_ : List Str) i => laws_eqStringS.l0 k (a.map ofL) (b.map ofL) i) (st := fun r c => match r with
      | [] => .inl false
      | d :: r => if c = d then .inr r else .inl false) (fin := fun _ => true) (s := b) (fun p r => ∃ q, b = q ++ r ∧ q.length = p.length) ⟨[], rfl, rfl⟩ ?_ ?_) ?_
    · rintro p c r s h ⟨q, hq, hql⟩
      have hz := len_mid h
      have e1 := rdOf_ofL h
      have w1 : wrap64 ((p.length : Int) + 1) = (p.length : Int) + 1 := wrap_id (by omega) (by omega)
      cases s with
      | nil => rw [hq] at hl; simp at hl; omega
      | cons d s =>
        have e2 := rdOf_ofL hq
        rw [hql] at e2
        simp only [laws_eqStringS.l0, e1, e2, w1, List.length_map, toList_ofL]
        clear w1 e1 e2
        by_cases e : c = d
        · simp only [if_pos e]
          refine ⟨(fun v hv => by cases hv), fun s' hs => ⟨?_, fun v hv => ?_⟩⟩
          · cases hs; exact ⟨q ++ [d], by rw [hq]; simp, by simp [hql]⟩
          · exact ev_pos (by omega) (ev_pos (by omega) (ev_pos (by omega) hv))
        · simp only [if_neg e]
          refine ⟨(fun v hv => ?_), fun s' hs => by cases hs⟩
          cases hv
          exact ev_pos (by omega) (ev_pos (by omega) (ev_pos (by omega) (ev_some _)))
    · intro s _
      simp only [laws_eqStringS.l0, List.length_map]
      exact ev_neg (by omega) (ev_some _)
    · clear hn
      induction a generalizing b with
      | nil => cases b with
        | nil => rfl
        | cons d b => simp at hl
      | cons c a ih => cases b with
        | nil => simp at hl
        | cons d b =>
          unfold run
          by_cases e : c = d
          · simp only [if_pos e]; rw [ih b (by simpa using hl)]; simp [e]
          · simp only [if_neg e]; simp [e]
  · refine ev_neg (by omega) (ev_eq (ev_some _) ?_)
    rw [eq_comm]; exact decide_eq_false (fun h => hl (by rw [h]))

def laws_FnExactStuffLines.Pure : Prop := ∀ (l0 : List ByteArray), l0.length ≤ maxLen → (∀ x ∈ l0, x.size ≤ maxLen) → ∃ k, laws_FnExactStuffLines.f k l0 = some true
theorem FnExactStuffLines : laws_FnExactStuffLines.Pure := by
  intro l0 hlen hx
  apply ev_rounds
  unfold maxLen at hlen hx
  rw [← map_ofL_L l0]
  have hx2 : ∀ x ∈ l0.map L, x.length ≤ 9223372036854775807 := fun x hm => by
    obtain ⟨y, hy, rfl⟩ := List.mem_map.mp hm
    have := hx y hy
    rw [size_L] at this
    omega
  have hl2 : (l0.map L).length ≤ 9223372036854775807 := by rw [List.length_map]; omega
  generalize l0.map L = ls at hx2 hl2
  unfold laws_FnExactStuffLines.f
  obtain ⟨v, hv, hv1, hv2⟩ := laws_szStringS_ev ls hx2 hl2 1048576 (by omega)
  by_cases h0 : v < 0
  · exact ev_bind hv (ev_pos h0 (ev_some _))
  · have hs := hv2 (by omega)
    have ht := laws_toStringS_ev ls (by omega)
    have i1 := impl_StuffLines_ev ls (fun x hx => by have := szs_mem hx; omega) (by omega)
    have i2 := spec_StuffLines_ev ls (fun x hx => by have := szs_mem hx; omega) (by omega)
    refine ev_bind hv (ev_neg h0 (ev_bind ht (ev_bind i2 (ev_bind ht (ev_bind i1 (ev_pos rfl (ev_succ ?_)))))))
    simp only [laws_FnExactStuffLines.j0]
    exact ev_neg (by simp) (ev_bind ht (ev_bind (laws_eqStringS_ev ls ls (by omega)) (ev_pos (decide_eq_true rfl) (ev_some _))))

end Go.Proofs.Ythlgdfjckhjiaaa.Pure
