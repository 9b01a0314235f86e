/- Proved by hand: the walk of the law FnKindCapital over the contracts of what it calls; conditions: those in each statement. -/
import Derived.Test.YtengipddcaookaaDoorPFnKindCapitalx0
import Derived.Test.YtengipddcaookaaDoorPFnKindCapitalx1
import Derived.Test.YtengipddcaookaaDoorPFnKindCapitalx2
import Derived.Test.YtengipddcaookaaDoorPFnKindCapitalx3
import Derived.Test.YtengipddcaookaaDoorPFnKindCapitalx4
import Derived.Test.YtengipddcaookaaDoorPFnKindCapitalx5
import Derived.Test.YtengipddcaookaaDoorPFnKindCapitalx6
import Derived.Test.YtengipddcaookaaDoorPFnKindCapitalx7
import Derived.Test.YtengipddcaookaaDoorPFnKindCapitalx8
import Derived.Test.YtengipddcaookaaDoorPFnKindCapitalx9
import Derived.Test.YtengipddcaookaaDoorPFnKindCapitalx10
import Derived.Test.YtengipddcaookaaDoorPFnKindCapitalx11
import Derived.Test.YtengipddcaookaaDoorPFnKindCapitalx12
import Derived.Test.YtengipddcaookaaDoorPFnKindCapitalx13
import Derived.Test.YtengipddcaookaaDoorPFnKindCapitalx14
import Derived.Test.YtengipddcaookaaDoorVFnKindCapitalYt
import Derived.Laws.BytesArg
-- by hand
-- dense
namespace Go.Proofs.YtengipddcaookaaDoor.PFnKindCapital
open Go.RowKit Go.Proofs.YtengipddcaookaaDoor.X Go.Proofs.YtengipddcaookaaDoorW.PrintWords Go.Proofs.YtengipddcaookaaDoorW.PrintLast Go.Proofs.YtengipddcaookaaDoorW.PrintMore
attribute [local go_sem] max2_int min2_int max_two min_two max_three min_three max_four min_four   -- for this text's walks alone
set_option linter.unusedVariables false
set_option linter.unusedSimpArgs false

/-- A byte in capitals. -/
def upI (n : Int) : Int := if 97 ≤ n ∧ n ≤ 122 then n - 32 else n
def upN (xs : List Int) (k : Nat) : List Int := (xs.take k).map upI ++ xs.drop k
theorem upN_length (xs : List Int) (k : Nat) : (upN xs k).length = xs.length := by
 unfold upN; rw [List.length_append, List.length_map, List.length_take, List.length_drop]; omega
theorem upN_at (xs : List Int) (k : Nat) (h : k < xs.length) : (upN xs k).getD k 0 = xs.getD k 0 := by
 unfold upN
 simp only [List.getD_eq_getElem?_getD]
 rw [List.getElem?_append_right (by rw [List.length_map, List.length_take]; omega), List.length_map, List.length_take, Nat.min_eq_left (by omega), List.getElem?_drop]
 simp
theorem upN_succ (xs : List Int) (k : Nat) (h : k < xs.length) : upN xs (k + 1) = (upN xs k).set k (upI (xs.getD k 0)) := by
 apply List.ext_getElem?
 intro j
 have hl : (upN xs k).length = xs.length := upN_length xs k
 unfold upN at *
 simp only [List.getD_eq_getElem?_getD, List.getElem?_eq_getElem h, Option.getD_some]
 rw [List.getElem?_set]
 by_cases hj : k = j
 ·
  subst hj
  rw [if_pos rfl, if_pos (by omega), List.getElem?_append_left (by rw [List.length_map, List.length_take]; omega)]
  simp [List.getElem?_take, h]
 ·
  rw [if_neg hj]
  by_cases hlt : j < k
  ·
   rw [List.getElem?_append_left (by rw [List.length_map, List.length_take]; omega), List.getElem?_append_left (by rw [List.length_map, List.length_take]; omega)]
   simp [List.getElem?_take, hlt, Nat.lt_succ_of_lt hlt]
  ·
   rw [List.getElem?_append_right (by rw [List.length_map, List.length_take]; omega), List.getElem?_append_right (by rw [List.length_map, List.length_take]; omega)]
   simp only [List.length_map, List.length_take, List.getElem?_drop]
   congr 1
   omega
theorem upN_all (xs : List Int) (n : Nat) (h : xs.length = n) : upN xs n = xs.map upI := by
 unfold upN
 rw [List.take_of_length_le (by omega), List.drop_eq_nil_of_le (by omega), List.append_nil]
theorem upI_same {n : Int} (h : ¬ (97 ≤ n ∧ n ≤ 122)) : upI n = n := if_neg h
theorem upN_skip (xs : List Int) (k : Nat) (h : k < xs.length) (hn : ¬ (97 ≤ xs.getD k 0 ∧ xs.getD k 0 ≤ 122)) : upN xs (k + 1) = upN xs k := by
 rw [upN_succ xs k h, upI_same hn]
 apply List.ext_getElem?
 intro j
 rw [List.getElem?_set]
 by_cases hj : k = j
 ·
  subst hj
  rw [if_pos rfl, if_pos (by rw [upN_length]; exact h)]
  have := upN_at xs k h
  rw [List.getD_eq_getElem?_getD, List.getElem?_eq_getElem (by rw [upN_length]; exact h), Option.getD_some] at this
  rw [List.getElem?_eq_getElem (by rw [upN_length]; exact h), this]
 ·
  rw [if_neg hj]
/-- What the law's callees answer at k rounds. -/
def laws_FnKindCapital.Ok (k : Nat) (l0 : List Int) : Prop :=
 (l0.length : Int) > 1048576 ∨ ¬ (l0.length : Int) > 1048576 ∧ ∃ (a b : ByteArray) (x : List S29) (s : ByteArray),
  spec_DrawFormatKind.f k l0 = some (a, b, x) ∧ impl_FormatKind.f k a b x = some s ∧ spec_FormatKind.f k a b x = some s ∧
  (s.toList = [] ∨ s.toList ≠ [] ∧ 0 < x.length ∨ s.toList ≠ [] ∧ x.length = 0 ∧ s.size ≤ 140737488355328 ∧ ∃ (r1 r2 : ByteArray) (r3 : List S29),
   impl_ParseKind.f k (strOfNums ((bytesOf s).map upI)) = some (r1, r2, r3, true) ∧ impl_KindSame.f k r1 r2 r3 a b x = some true)
set_option maxHeartbeats 8000000 in
set_option maxRecDepth 100000 in
theorem laws_FnKindCapital.calls (k : Nat) (A0 : Option Addr) (c0 : Nat) (l0 : List Int) (w : World) (hr0 : Kd.C (Kd.int .u8) w A0 l0.length l0) (hc0 : l0.length ≤ c0) (hg_ : MaxOk w) (h : laws_FnKindCapital.Ok k l0) :
  Calls Tryd.prog 4 #[.slice A0 l0.length c0] w fun e w' => e = .returned (.bool true) ∧ Below w.heap.size w w' := by
 have hu25 := Tryd.underlying25
 have hu29 := Tryd.underlying29
 have HR0 := Aside0.mk hr0
 have HC0 := Aside0.mk hc0
 have HG := Aside0.mk hg_
 clear hr0 hc0 hg_
 have HB := Aside0.mk (Below.refl w.heap.size w)
 rcases h with h | ⟨h, a, b, x, s, e1, e2, e3, h5⟩
 ·
  have c1b0 : decide (1048576 < (l0.length : Int)) = true := decide_eq_true h
  have c1b1 : decide (1048576 < l0.length) = true := decide_eq_true (by omega)
  clear h
  go_enter Tryd.func4, Tryd.ntmps4
  go_wp2
  go_ret
  exact ⟨rfl, ul HB.out⟩
 have c1b0 : decide (1048576 < (l0.length : Int)) = false := decide_eq_false h
 have c1b1 : decide (1048576 < l0.length) = false := decide_eq_false (by omega)
 clear h
 have E1 := Aside0.mk e1
 have E2 := Aside0.mk e2
 have E3 := Aside0.mk e3
 have H5 := Aside0.mk h5
 clear e1 e2 e3 h5
 go_enter Tryd.func4, Tryd.ntmps4
 go_upto_region 5 with (first | (go_at_call 14; (with_reducible refine (spec_DrawFormatKind.calls k _ _ l0 a b x _ HR0.out HC0.out E1.out).mono ?_); rintro e w6 ⟨v6, rfl, ho0, hb⟩; have n0_ := Aside0.mk (Kd.R_lower ho0 (below_size (ul HB.out))); have n1_ := Aside0.mk (below_step (ul HB.out) hb); clear HB ho0 hb; have HO := n0_; have HB := n1_; clear n0_ n1_) | ((with_reducible refine gate_dst (N := 3) rfl ?_); (try (refine gate_guard (by rfl) ?_; dsimp only)); refine box_event ?hg (N := 3) ?hd (cs := #[.string (⟨#[]⟩ : ByteArray), .string (⟨#[]⟩ : ByteArray), .slice none 0 0]) (t := 25) ?hr ?_; (case hd => rfl); (case hg => rfl); (case hr => first | (go_simp; done) | (go_simp; rfl)); intro gb3 hg w7 hbox hb; have n0_ := Aside0.mk (Kd.R_below (ur HO.out) hb); have n1_ := Aside0.mk (below_step (ul HB.out) hb); have BK := Aside0.mk hbox; have GE := Aside0.mk ((by rw [hg]; exact (below_size (ul HB.out)) : w.heap.size ≤ gb3)); clear HO HB; have HO := n0_; have HB := n1_; clear n0_ n1_ hb hbox hg; have z70 : w7.cell? ⟨gb3, 0, none⟩ = some (.string (⟨#[]⟩ : ByteArray)) := (blk_cell BK.out 0).trans rfl; have z71 : w7.cell? ⟨gb3, 1, none⟩ = some (.string (⟨#[]⟩ : ByteArray)) := (blk_cell BK.out 1).trans rfl; have z72 : w7.cell? ⟨gb3, 2, none⟩ = some (.slice none 0 0) := (blk_cell BK.out 2).trans rfl; have z7f0 := blk_frozen BK.out 0; have z7f1 := blk_frozen BK.out 1; have z7f2 := blk_frozen BK.out 2; obtain ⟨Ao, co, eo⟩ := Kd.R_slice HO.out; subst eo) | (go_at_call 12; (with_reducible refine (impl_FormatKind.calls k a b _ _ x s _ ?side1 ?side2 E2.out).mono ?_); (case side1 => refine (Kd.R_reads' (e := 29) (base := w.heap.size) (ok := fun k_ => True) (n := x.length) (c := co) ?_).2.2; exact (ur (Kd.R_mono (Kd.R_far (p := ⟨gb3, 2, none⟩) (Kd.R_far (p := ⟨gb3, 1, none⟩) (Kd.R_far (p := ⟨gb3, 0, none⟩) (Kd.R_types HO.out BK.out (by decide)) (fun _ hk => hk.2) (.string a)) (fun _ hk => hk.2) (.string b)) (fun _ hk => hk.2) (.slice Ao x.length co)) (fun _ h_ => h_.1)))); (case side2 => exact (Kd.R_reads' HO.out).2.1); rintro e w13 ⟨rfl, hb⟩; have n0_ := Aside0.mk (Kd.R_below (ur (Kd.R_mono (Kd.R_far (p := ⟨gb3, 2, none⟩) (Kd.R_far (p := ⟨gb3, 1, none⟩) (Kd.R_far (p := ⟨gb3, 0, none⟩) (Kd.R_types HO.out BK.out (by decide)) (fun _ hk => hk.2) (.string a)) (fun _ hk => hk.2) (.string b)) (fun _ hk => hk.2) (.slice Ao x.length co)) (fun _ h_ => h_.1))) hb); have n1_ := Aside0.mk (blk_below (g := gb3) (o := .cells #[.string a, .string b, .slice Ao x.length co] 25 (0, 0)) (by (with_reducible repeat (first | refine blk_drewN ?_ _ | refine blk_drew ?_ | refine blk_alloc ?_ _)); refine blk_put (cs := #[.string a, .string b, .slice none 0 0]) ?_ 2 _ rfl; (with_reducible repeat (first | refine blk_drewN ?_ _ | refine blk_drew ?_ | refine blk_alloc ?_ _)); refine blk_put (cs := #[.string a, .string (⟨#[]⟩ : ByteArray), .slice none 0 0]) ?_ 1 _ rfl; (with_reducible repeat (first | refine blk_drewN ?_ _ | refine blk_drew ?_ | refine blk_alloc ?_ _)); refine blk_put (cs := #[.string (⟨#[]⟩ : ByteArray), .string (⟨#[]⟩ : ByteArray), .slice none 0 0]) ?_ 0 _ rfl; (with_reducible repeat (first | refine blk_drewN ?_ _ | refine blk_drew ?_ | refine blk_alloc ?_ _)); exact BK.out) hb); have n2_ := Aside0.mk (below_step bb hb); clear HO BK HB hb; have HO := n0_; have BK := n1_; have HB := n2_; clear n0_ n1_ n2_))
 (try simp only [Act.put, List.setIfInBounds_toArray, List.set_cons_zero, List.set_cons_succ])
 have z130 : w13.cell? ⟨gb3, 0, none⟩ = some (.string a) := (blk_cell BK.out 0).trans rfl
 have z131 : w13.cell? ⟨gb3, 1, none⟩ = some (.string b) := (blk_cell BK.out 1).trans rfl
 have z132 : w13.cell? ⟨gb3, 2, none⟩ = some (.slice Ao x.length co) := (blk_cell BK.out 2).trans rfl
 have z13f0 := blk_frozen BK.out 0
 have z13f1 := blk_frozen BK.out 1
 have z13f2 := blk_frozen BK.out 2
 have cs0 : (s.toList == s.toList) = true := by simp
 have cs1 : (s.toList != s.toList) = false := by simp
 rcases H5.out with h5 | ⟨h5, hx⟩ | ⟨h5, hx, hsz, r1, r2, r3, e4, e5⟩
 ·
  have c2 : (s.toList == ([] : List UInt8)) = true := by rw [h5]; rfl
  clear h5 H5
  go_wp2_with (first | (go_at_call 15; (with_reducible refine (spec_FormatKind.calls k a b _ _ x s _ ?side1 ?side2 E3.out).mono ?_); (case side1 => exact (Kd.R_reads' (ur HO.out)).2.2); (case side2 => exact (Kd.R_reads' HO.out).2.1); rintro e w14 ⟨rfl, hb⟩; have n0_ := Aside0.mk (Kd.R_below (ur HO.out) hb); have n1_ := Aside0.mk (blk_below (g := gb3) (o := .cells #[.string a, .string b, .slice Ao x.length co] 25 (0, 0)) (ub BK.out) hb); have n2_ := Aside0.mk (below_step (ul HB.out) hb); clear HO BK HB hb; have HO := n0_; have BK := n1_; have HB := n2_; clear n0_ n1_ n2_; have zw140 : w14.cell? ⟨gb3, 0, none⟩ = some (.string a) := (blk_cell BK.out 0).trans rfl; have zw141 : w14.cell? ⟨gb3, 1, none⟩ = some (.string b) := (blk_cell BK.out 1).trans rfl; have zw142 : w14.cell? ⟨gb3, 2, none⟩ = some (.slice Ao x.length co) := (blk_cell BK.out 2).trans rfl; have zw14f0 := blk_frozen BK.out 0; have zw14f1 := blk_frozen BK.out 1; have zw14f2 := blk_frozen BK.out 2) | (go_at_call 15; (with_reducible refine (spec_FormatKind.calls k a b _ _ x s _ ?side1 ?side2 E3.out).mono ?_); (case side1 => exact (Kd.R_reads' (ur HO.out)).2.2); (case side2 => exact (Kd.R_reads' HO.out).2.1); rintro e w15 ⟨rfl, hb⟩; have n0_ := Aside0.mk (Kd.R_below (ur HO.out) hb); have n1_ := Aside0.mk (blk_below (g := gb3) (o := .cells #[.string a, .string b, .slice Ao x.length co] 25 (0, 0)) (ub BK.out) hb); have n2_ := Aside0.mk (below_step (ul HB.out) hb); clear HO BK HB hb; have HO := n0_; have BK := n1_; have HB := n2_; clear n0_ n1_ n2_; have zw150 : w15.cell? ⟨gb3, 0, none⟩ = some (.string a) := (blk_cell BK.out 0).trans rfl; have zw151 : w15.cell? ⟨gb3, 1, none⟩ = some (.string b) := (blk_cell BK.out 1).trans rfl; have zw152 : w15.cell? ⟨gb3, 2, none⟩ = some (.slice Ao x.length co) := (blk_cell BK.out 2).trans rfl; have zw15f0 := blk_frozen BK.out 0; have zw15f1 := blk_frozen BK.out 1; have zw15f2 := blk_frozen BK.out 2))
  go_ret
  exact ⟨by first | rfl | (simp; done) | (simp [*]; done), ul HB.out⟩
 ·
  have c2 : (s.toList == ([] : List UInt8)) = false := by simpa using h5
  have c3 : decide (0 < (x.length : Int)) = true := decide_eq_true (by omega)
  have c4 : decide (0 < x.length) = true := decide_eq_true (by omega)
  clear h5 hx H5
  go_wp2_with (first | (go_at_call 15; (with_reducible refine (spec_FormatKind.calls k a b _ _ x s _ ?side1 ?side2 E3.out).mono ?_); (case side1 => exact (Kd.R_reads' (ur HO.out)).2.2); (case side2 => exact (Kd.R_reads' HO.out).2.1); rintro e w14 ⟨rfl, hb⟩; have n0_ := Aside0.mk (Kd.R_below (ur HO.out) hb); have n1_ := Aside0.mk (blk_below (g := gb3) (o := .cells #[.string a, .string b, .slice Ao x.length co] 25 (0, 0)) (ub BK.out) hb); have n2_ := Aside0.mk (below_step (ul HB.out) hb); clear HO BK HB hb; have HO := n0_; have BK := n1_; have HB := n2_; clear n0_ n1_ n2_; have zw140 : w14.cell? ⟨gb3, 0, none⟩ = some (.string a) := (blk_cell BK.out 0).trans rfl; have zw141 : w14.cell? ⟨gb3, 1, none⟩ = some (.string b) := (blk_cell BK.out 1).trans rfl; have zw142 : w14.cell? ⟨gb3, 2, none⟩ = some (.slice Ao x.length co) := (blk_cell BK.out 2).trans rfl; have zw14f0 := blk_frozen BK.out 0; have zw14f1 := blk_frozen BK.out 1; have zw14f2 := blk_frozen BK.out 2) | (go_at_call 15; (with_reducible refine (spec_FormatKind.calls k a b _ _ x s _ ?side1 ?side2 E3.out).mono ?_); (case side1 => exact (Kd.R_reads' (ur HO.out)).2.2); (case side2 => exact (Kd.R_reads' HO.out).2.1); rintro e w15 ⟨rfl, hb⟩; have n0_ := Aside0.mk (Kd.R_below (ur HO.out) hb); have n1_ := Aside0.mk (blk_below (g := gb3) (o := .cells #[.string a, .string b, .slice Ao x.length co] 25 (0, 0)) (ub BK.out) hb); have n2_ := Aside0.mk (below_step (ul HB.out) hb); clear HO BK HB hb; have HO := n0_; have BK := n1_; have HB := n2_; clear n0_ n1_ n2_; have zw150 : w15.cell? ⟨gb3, 0, none⟩ = some (.string a) := (blk_cell BK.out 0).trans rfl; have zw151 : w15.cell? ⟨gb3, 1, none⟩ = some (.string b) := (blk_cell BK.out 1).trans rfl; have zw152 : w15.cell? ⟨gb3, 2, none⟩ = some (.slice Ao x.length co) := (blk_cell BK.out 2).trans rfl; have zw15f0 := blk_frozen BK.out 0; have zw15f1 := blk_frozen BK.out 1; have zw15f2 := blk_frozen BK.out 2))
  go_ret
  exact ⟨by first | rfl | (simp; done) | (simp [*]; done), ul HB.out⟩
 ·
  have c2 : (s.toList == ([] : List UInt8)) = false := by simpa using h5
  have c3 : decide (0 < (x.length : Int)) = false := decide_eq_false (by omega)
  have c4 : decide (0 < x.length) = false := decide_eq_false (by omega)
  have E4 := Aside0.mk e4
  have E5 := Aside0.mk e5
  clear h5 hx H5 e4 e5
  go_upto_region 7 with (first | (go_at_call 15; (with_reducible refine (spec_FormatKind.calls k a b _ _ x s _ ?side1 ?side2 E3.out).mono ?_); (case side1 => exact (Kd.R_reads' (ur HO.out)).2.2); (case side2 => exact (Kd.R_reads' HO.out).2.1); rintro e w14 ⟨rfl, hb⟩; have n0_ := Aside0.mk (Kd.R_below (ur HO.out) hb); have n1_ := Aside0.mk (blk_below (g := gb3) (o := .cells #[.string a, .string b, .slice Ao x.length co] 25 (0, 0)) (ub BK.out) hb); have n2_ := Aside0.mk (below_step (ul HB.out) hb); clear HO BK HB hb; have HO := n0_; have BK := n1_; have HB := n2_; clear n0_ n1_ n2_; have zw140 : w14.cell? ⟨gb3, 0, none⟩ = some (.string a) := (blk_cell BK.out 0).trans rfl; have zw141 : w14.cell? ⟨gb3, 1, none⟩ = some (.string b) := (blk_cell BK.out 1).trans rfl; have zw142 : w14.cell? ⟨gb3, 2, none⟩ = some (.slice Ao x.length co) := (blk_cell BK.out 2).trans rfl; have zw14f0 := blk_frozen BK.out 0; have zw14f1 := blk_frozen BK.out 1; have zw14f2 := blk_frozen BK.out 2))
  have kb := fun W => print_bytes (P := Tryd.prog) 9 22 5 Tryd.underlying9 Tryd.underlying22 Tryd.underlying5 s W
  go_wp2
  go_loopw [6] (fun i W => ∃ j : Nat, j ≤ s.size ∧ i = .int .i64 j ∧ LowRow w14 w14.heap.size (upN (bytesOf s) j) W) (fun i _ => s.size - (intOf i).toNat)
  case atStart => exact ⟨0, Nat.zero_le _, rfl, by simpa [upN] using lowRow_start w14 5 s⟩
  case round =>
   obtain ⟨j, hk, rfl, hR⟩ := hrel
   have HR := Aside0.mk hR
   by_cases hlt : j < s.size
   ·
    have hc := hR.cell j (by rw [upN_length, bytesOf_length]; exact hlt)
    have hf := hR.free j (by rw [upN_length, bytesOf_length]; exact hlt)
    rw [upN_at _ _ (by rw [bytesOf_length]; exact hlt)] at hc
    clear hR
    have hr := bytesOf_range s j
    have hs := Aside0.mk (upN_skip (bytesOf s) j (by rw [bytesOf_length]; exact hlt))
    have hu := Aside0.mk (upN_succ (bytesOf s) j (by rw [bytesOf_length]; exact hlt))
    generalize (bytesOf s).getD j 0 = c at hc hr hs hu
    go_wp2
    ·
     go_roundw
     case rel => exact ⟨j + 1, by omega, by go_num, by
      rw [hu.out, upI, if_pos ⟨by omega, by omega⟩]
      exact HR.out.store (Nat.le_refl _) j (by rw [upN_length, bytesOf_length]; exact hlt) _⟩
     case measure => simp [intOf]; omega
    ·
     go_roundw
     case rel => exact ⟨j + 1, by omega, by go_num, by rw [hs.out (by omega)]; exact HR.out⟩
     case measure => simp [intOf]; omega
    ·
     go_roundw
     case rel => exact ⟨j + 1, by omega, by go_num, by rw [hs.out (by omega)]; exact HR.out⟩
     case measure => simp [intOf]; omega
   ·
    clear hR
    have hk2 : j = s.size := by omega
    have hR := HR.out
    rw [hk2, upN_all (bytesOf s) s.size (bytesOf_length s)] at hR
    clear HR
    have HR := Aside0.mk hR
    clear hR
    have kd := run_convert_bytes_arg (P := Tryd.prog) wr 22 5 Tryd.underlying22 Tryd.underlying5 w14.heap.size 0 s.size (grownCap w14 s.size 0 5) ((bytesOf s).map upI) (by rw [List.length_map, bytesOf_length]) (fun i hi => by
     rw [Nat.zero_add]; exact HR.out.cell i (by rw [List.length_map, bytesOf_length]; exact hi)) 9 Tryd.underlying9
    have n0_ := Aside0.mk (Kd.R_below HO.out HR.out.below)
    have n1_ := Aside0.mk (blk_below BK.out HR.out.below)
    have n2_ := Aside0.mk (below_step HB.out HR.out.below)
    clear HO BK HB
    have HO := n0_
    have BK := n1_
    have HB := n2_
    clear n0_ n1_ n2_
    go_wp2_with (first | (go_at_call 11; (with_reducible refine (impl_ParseKind.calls k (strOfNums ((bytesOf s).map upI)) r1 r2 r3 true _ (MaxOk.below HG.out (ul HB.out)) E4.out).mono ?_); rintro e w17 ⟨v17, rfl, ho0, hb⟩; have n0_ := Aside0.mk (Kd.R_below (ur HO.out) hb); have n1_ := Aside0.mk (blk_below (g := gb3) (o := .cells #[.string a, .string b, .slice Ao x.length co] 25 (0, 0)) (ub BK.out) hb); have n2_ := Aside0.mk (below_step (ul HB.out) hb); have HP := Aside0.mk (Kd.R_lower ho0 (below_size (ul HB.out))); clear HO BK HB hb ho0; have HO := n0_; have BK := n1_; have HB := n2_; clear n0_ n1_ n2_; have zw170 : w17.cell? ⟨gb3, 0, none⟩ = some (.string a) := (blk_cell BK.out 0).trans rfl; have zw171 : w17.cell? ⟨gb3, 1, none⟩ = some (.string b) := (blk_cell BK.out 1).trans rfl; have zw172 : w17.cell? ⟨gb3, 2, none⟩ = some (.slice Ao x.length co) := (blk_cell BK.out 2).trans rfl; have zw17f0 := blk_frozen BK.out 0; have zw17f1 := blk_frozen BK.out 1; have zw17f2 := blk_frozen BK.out 2; obtain ⟨Ap, cp, ep⟩ := Kd.R_slice HP.out; subst ep) | ((with_reducible refine gate_dst (N := 7) rfl ?_); (try (refine gate_guard (by rfl) ?_; dsimp only)); refine box_event ?hg (N := 7) ?hd (cs := #[.string (⟨#[]⟩ : ByteArray), .string (⟨#[]⟩ : ByteArray), .slice none 0 0]) (t := 25) ?hr ?_; (case hd => rfl); (case hg => rfl); (case hr => first | (go_simp; done) | (go_simp; rfl)); intro gb7 hg w18 hbox hb; have n0_ := Aside0.mk (Kd.R_below (ur HO.out) hb); have n3_ := Aside0.mk (Kd.R_below (ur HP.out) hb); have n1_ := Aside0.mk (blk_below (g := gb3) (o := .cells #[.string a, .string b, .slice Ao x.length co] 25 (0, 0)) (ub BK.out) hb); have n2_ := Aside0.mk (below_step (ul HB.out) hb); have BK7 := Aside0.mk hbox; have GE7 := Aside0.mk ((by rw [hg]; exact (below_size (ul HB.out)) : w.heap.size ≤ gb7)); have hnc := (by rw [hg]; exact Nat.ne_of_lt (blk_lt (g := gb3) (o := .cells #[.string a, .string b, .slice Ao x.length co] 25 (0, 0)) (ub BK.out)) : gb3 ≠ gb7); have hnb := (fun h_ => hnc h_.symm : gb7 ≠ gb3); clear HO BK HB HP; have HO := n0_; have BK := n1_; have HB := n2_; have HP := n3_; clear n0_ n1_ n2_ n3_ hb hbox hg; have z7b0 : w18.cell? ⟨gb7, 0, none⟩ = some (.string (⟨#[]⟩ : ByteArray)) := (blk_cell BK7.out 0).trans rfl; have z7b1 : w18.cell? ⟨gb7, 1, none⟩ = some (.string (⟨#[]⟩ : ByteArray)) := (blk_cell BK7.out 1).trans rfl; have z7b2 : w18.cell? ⟨gb7, 2, none⟩ = some (.slice none 0 0) := (blk_cell BK7.out 2).trans rfl; have z7bf0 := blk_frozen BK7.out 0; have z7bf1 := blk_frozen BK7.out 1; have z7bf2 := blk_frozen BK7.out 2; have zw180 : w18.cell? ⟨gb3, 0, none⟩ = some (.string a) := (blk_cell BK.out 0).trans rfl; have zw181 : w18.cell? ⟨gb3, 1, none⟩ = some (.string b) := (blk_cell BK.out 1).trans rfl; have zw182 : w18.cell? ⟨gb3, 2, none⟩ = some (.slice Ao x.length co) := (blk_cell BK.out 2).trans rfl; have zw18f0 := blk_frozen BK.out 0; have zw18f1 := blk_frozen BK.out 1; have zw18f2 := blk_frozen BK.out 2) | (go_at_call 13; (with_reducible refine (impl_KindSame.calls k r1 r2 _ _ r3 a b _ _ x true _ ?side1 ?side2 ?side3 ?side4 E5.out).mono ?_); (case side1 => refine (Kd.R_reads' (e := 29) (base := w.heap.size) (ok := fun k_ => True) (n := r3.length) (c := cp) ?_).2.2; exact (ur (Kd.R_mono (Kd.R_far (p := ⟨gb7, 2, none⟩) (Kd.R_far (p := ⟨gb7, 1, none⟩) (Kd.R_far (p := ⟨gb7, 0, none⟩) (Kd.R_types HP.out BK7.out (by decide)) (fun _ hk => hk.2) (.string r1)) (fun _ hk => hk.2) (.string r2)) (fun _ hk => hk.2) (.slice Ap r3.length cp)) (fun _ h_ => h_.1)))); (case side2 => exact (Kd.R_reads' HP.out).2.1); (case side3 => refine (Kd.R_reads' (e := 29) (base := w.heap.size) (ok := fun k_ => True) (n := x.length) (c := co) ?_).2.2; exact (ur (Kd.R_mono (Kd.R_far (p := ⟨gb7, 2, none⟩) (Kd.R_far (p := ⟨gb7, 1, none⟩) (Kd.R_far (p := ⟨gb7, 0, none⟩) (Kd.R_types HO.out BK7.out (by decide)) (fun _ hk => hk.2) (.string r1)) (fun _ hk => hk.2) (.string r2)) (fun _ hk => hk.2) (.slice Ap r3.length cp)) (fun _ h_ => h_.1)))); (case side4 => exact (Kd.R_reads' HO.out).2.1); rintro e w20 ⟨rfl, hb⟩; have n2_ := Aside0.mk (below_step bb hb); clear HO BK HB HP hb; have HB := n2_; clear n2_))
    go_ret
    exact ⟨by first | rfl | (simp; done) | (simp [*]; done), ul HB.out⟩
def laws_FnKindCapital.Pure : Prop := ∀ (l0 : List Int), l0.length ≤ maxLen → l0.length * 1 ≤ 140737488351232 → (∀ x ∈ l0, (Lit.int .u8 x).wf = true) → ∃ k, laws_FnKindCapital.Ok k l0
theorem laws_FnKindCapital.walk (P : laws_FnKindCapital.Pure) (a0 : Option Addr) (len0 cap0 : Nat) (z0 : List Int) (w : World) (w0 : (a0 = none ∧ len0 = 0 ∧ cap0 = 0 ∧ z0 = []) ∨ ∃ x, a0 = some x ∧ len0 ≤ cap0 ∧ cap0 ≤ maxLen ∧ z0.length = cap0 ∧ (∀ i, i < z0.length → w.cell? (x.add i) = some (.int .u8 (z0.getD i 0))) ∧ ∀ n ∈ z0, (Lit.int .u8 n).wf = true) (y0 : len0 * 1 ≤ 140737488351232) (hg_ : MaxOk w) :
  Calls Tryd.prog 4 #[.slice a0 len0 cap0] w fun e w' => e = .returned (.bool true) ∧ Below w.heap.size w w' := by
 obtain ⟨l0, rfl, hr0, hm0, hw0, hc0⟩ := ReadsInt.ofRowC w0
 obtain ⟨k, h⟩ := P l0 hm0 y0 hw0
 exact laws_FnKindCapital.calls k _ _ l0 w (Kd.C_of_reads (d := (0 : Int)) (h1 := fun _ => rfl) hr0) hc0 hg_ h
end Go.Proofs.YtengipddcaookaaDoor.PFnKindCapital
