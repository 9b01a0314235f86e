/- Printed walks; conditions: those in each statement. -/
import Derived.Test.YtncdadcmghglkaaGreatDoorVFnExactCountPartsQt
import Derived.Test.YtncdadcmghglkaaGreatDoorVFnExactCountPartsYt
import Derived.Test.YtncdadcmghglkaaGreatDoorPFnExactCountPartsx0
import Derived.Test.YtncdadcmghglkaaGreatDoorPFnExactCountPartsx12
-- short
-- dense
-- sq
namespace Go.Proofs.YtncdadcmghglkaaGreatDoor.PFnExactCountParts
open Go.RowKit Go.Proofs.YtncdadcmghglkaaGreatDoor.X Go.Proofs.YtncdadcmghglkaaGreatDoorW.PrintWords Go.Proofs.YtncdadcmghglkaaGreatDoorW.PrintLast Go.Proofs.YtncdadcmghglkaaGreatDoorW.PrintMore
attribute [local go_sem] max2_int min2_int max_two min_two max_three min_three max_four min_four   -- for this text's walks alone
set_option linter.unusedVariables false
set_option linter.unusedSimpArgs false
def impl_fieldPlace_1.f (a0_0 : ByteArray) (a0_1 : ByteArray) (a1 : ByteArray) : Option (Bool) := (impl_SameText.f a0_0 a1).bind fun t420 => (some t420)
set_option maxHeartbeats 8000000 in
set_option maxRecDepth 100000 in
theorem impl_fieldPlace_1.calls (a0_0 : ByteArray) (a0_1 : ByteArray) (gq1 : Nat) (a1 : ByteArray)  (r : Bool) (w : World) (hq1 : w.heap[gq1]? = some (.cells #[.string a1] 9 (0, 0))) (h : impl_fieldPlace_1.f a0_0 a0_1 a1 = some r) :
  Calls Tryz.prog 123 #[.agg #[.string a0_0, .string a0_1], .pointer (some ⟨gq1, 0, none⟩)] w fun e w' => e = .returned (.bool r) ∧ Below w.heap.size w w' := by
 have hu69 := Tryz.underlying69
 have BK46 := ak hq1
 clear hq1
 have HB := ak (Below.refl w.heap.size w)
 have H : ((impl_SameText.f a0_0 a1).bind fun t420 => (some t420)) = some r := h
 clear h
 replace H := bd H; obtain ⟨t420, A3, H⟩ := H
 obtain rfl := Option.some.inj H
 go_enter Tryz.func123, Tryz.ntmps123
 go_wp2_with (first | (refine bE 2 #[.string a0_0, .string a0_1] 69 ?_; intro gb419 hg w4 hbox hb; have BK419 := ak (hbox); have GW419 := ak ((by rw [hg]; exact (below_size bb) : w.heap.size ≤ gb419)); have GE419 := ak ((by rw [hg]; exact (below_size bb) : w.heap.size ≤ gb419)); have NB46_419 := ak ((by rw [hg]; exact Nat.ne_of_lt (blk_lt (ub BK46.out)) : gq1 ≠ gb419)); have NB419_46 := ak ((by rw [hg]; exact Nat.ne_of_gt (blk_lt (ub BK46.out)) : gb419 ≠ gq1)); replace BK46 := kb BK46 hb; replace HB := ak (below_step bb hb); clear hb hbox hg; have hnb5 := NB419_46.out; have hnc5 := NB46_419.out; obtain ⟨hcz6_0, hcz6_1, hfz6_0, hfz6_1⟩ := cz2 BK419.out; have hcz7_0 : w4.cell? ⟨gq1, 0, none⟩ = some (.string a1) := (blk_cell BK46.out 0).trans rfl; have hfz7_0 := blk_frozen BK46.out 0) | (refine gL 124 7 Tryz.func124 #[.string a0_0, .string a1] ?_; (with_reducible refine (impl_SameText.calls a0_0 a1 t420 _ A3.out).mono ?_); rintro e w8 ⟨rfl, hb⟩; refine ⟨_, rfl, ?_⟩; replace BK46 := kb BK46 hb; replace BK419 := kb BK419 hb; replace HB := ak (below_step bb hb); (try clear hb)))
 go_ret
 exact ⟨er, bb⟩
def impl_Field_fieldPlace_1.l0 : Nat → List (S69) → Int → Int → ByteArray → Option (Int)
 | 0, _, _, _, _ => none
 | k + 1, x0, x7, x8, x47000 => if x8 < x7 then (if 0 ≤ x8 then (if x8 < (x0.length : Int) then ((impl_fieldPlace_1.f ((rd_T69 x0 x8).f0) ((rd_T69 x0 x8).f1) x47000).bind fun t422 => (if t422 = true then (some x8) else (impl_Field_fieldPlace_1.l0 k x0 x7 (wrap64 (x8 + 1)) x47000))) else (none)) else (none)) else (some (-1))
def impl_Field_fieldPlace_1.f (k : Nat) (l0 : List (S69)) (a1_0 : ByteArray) : Option (Int) := impl_Field_fieldPlace_1.l0 k l0 (l0.length : Int) 0 a1_0
set_option maxHeartbeats 8000000 in
set_option maxRecDepth 100000 in
theorem impl_Field_fieldPlace_1.calls (k : Nat) (A0 : Option Addr) (c0 : Nat) (l0 : List (S69)) (gq1_0 : Nat) (a1_0 : ByteArray)  (r : Int) (w : World) (hr0 : Kd.C k69 w A0 l0.length l0) (hc0 : l0.length ≤ c0) (hq1_0 : w.heap[gq1_0]? = some (.cells #[.string a1_0] 9 (0, 0))) (h : impl_Field_fieldPlace_1.f k l0 a1_0 = some r) :
  Calls Tryz.prog 122 #[.slice A0 l0.length c0, .func (.func 123) #[] #[.pointer (some ⟨gq1_0, 0, none⟩)]] w fun e w' => e = .returned (.int .i64 r) ∧ Below w.heap.size w w' := by
 have hu69 := Tryz.underlying69
 have HR0 := ak hr0
 have HC0 := ak hc0
 clear hr0 hc0
 have BK46 := ak hq1_0
 clear hq1_0
 have HB := ak (Below.refl w.heap.size w)
 have H : (impl_Field_fieldPlace_1.l0 k l0 (l0.length : Int) 0 a1_0) = some r := h
 clear h
 have H' := ak H; clear H
 go_enter Tryz.func122, Tryz.ntmps122
 go_wp2
 go_loopg [8] k (fun kq v8 w' => ∃ (x8_1 : Int), v8 = .int .i64 x8_1 ∧ Aside0 (impl_Field_fieldPlace_1.l0 kq l0 (l0.length : Int) x8_1 a1_0 = some r) ∧ Aside0 (kq ≤ k) ∧ Aside0 (w'.heap[gq1_0]? = some (.cells #[.string a1_0] 9 (0, 0))) ∧ Aside0 (Below w.heap.size w w'))
 case atStart => exact ⟨(0), rs, H', ⟨Nat.le_refl _⟩, ⟨ub BK46.out⟩, ⟨bb⟩⟩
 case round =>
  clear H'
  try clear q1
  try clear c2
  try clear p2
  obtain ⟨x8_1, rfl, HA, HK1, BK46, HB⟩ := hrel
  cases gk with
  | zero => exact absurd HA.out (by simp [impl_Field_fieldPlace_1.l0])
  | succ k1 =>
   have H := HA.out
   clear HA
   simp only [impl_Field_fieldPlace_1.l0] at H
   replace H := sd H
   rcases H with ⟨c3b0, H⟩ | ⟨c3b0, H⟩
   ·
    replace H := nde H; obtain ⟨c4b0, H⟩ := H; replace H := nde H; obtain ⟨c5b0, H⟩ := H; replace H := bd H; obtain ⟨t422, A6, H⟩ := H; replace H := sb H
    rcases H with ⟨rfl, H⟩ | ⟨rfl, H⟩
    ·
     obtain rfl := Option.some.inj H
     have p421 := zi x8_1
     have q421 := zj x8_1 l0.length
     obtain ⟨ad421, e421, hx421_0, hx421_1⟩ := at_T69 HR0.out x8_1 p421 q421
     cases e421
     replace hx421_0 := cl HB.out hx421_0
     replace hx421_1 := cl HB.out hx421_1
     replace p421 := eq_true p421
     replace q421 := eq_true q421
     go_wp2_with (first | (go_at_call 123; (with_reducible refine (impl_fieldPlace_1.calls ((rd_T69 l0 x8_1).f0) ((rd_T69 l0 x8_1).f1) gq1_0 a1_0 true _ (ub BK46.out) A6.out).mono ?_); rintro e w8 ⟨rfl, hb⟩; replace BK46 := kb BK46 hb; replace HB := ak (below_step bb hb); (try clear hb)))
     go_ret
     exact ⟨er, bb⟩
    ·
     have H' := ak H; clear H
     have p421 := zi x8_1
     have q421 := zj x8_1 l0.length
     obtain ⟨ad421, e421, hx421_0, hx421_1⟩ := at_T69 HR0.out x8_1 p421 q421
     cases e421
     replace hx421_0 := cl HB.out hx421_0
     replace hx421_1 := cl HB.out hx421_1
     replace p421 := eq_true p421
     replace q421 := eq_true q421
     go_wp2_with (first | (go_at_call 123; (with_reducible refine (impl_fieldPlace_1.calls ((rd_T69 l0 x8_1).f0) ((rd_T69 l0 x8_1).f1) gq1_0 a1_0 false _ (ub BK46.out) A6.out).mono ?_); rintro e w9 ⟨rfl, hb⟩; replace BK46 := kb BK46 hb; replace HB := ak (below_step bb hb); (try clear hb)))
     go_roundg k1
     case measure => have := HK1.out; omega
     case rel => exact ⟨(wrap64 (x8_1 + 1)), rs, H', ⟨by have := HK1.out; omega⟩, ⟨ub BK46.out⟩, ⟨bb⟩⟩
   ·
    obtain rfl := Option.some.inj H
    go_wp2
    go_ret
    exact ⟨er, bb⟩
def impl_fieldPlace.f (k : Nat) (l0 : List (S69)) (a1 : ByteArray) : Option (Int) := (impl_Field_fieldPlace_1.f k l0 a1).bind fun t424 => (some t424)
set_option maxHeartbeats 8000000 in
set_option maxRecDepth 100000 in
theorem impl_fieldPlace.calls (k : Nat) (A0 : Option Addr) (c0 : Nat) (l0 : List (S69)) (a1 : ByteArray) (r : Int) (w : World) (hr0 : Kd.C k69 w A0 l0.length l0) (hc0 : l0.length ≤ c0) (h : impl_fieldPlace.f k l0 a1 = some r) :
  Calls Tryz.prog 88 #[.slice A0 l0.length c0, .string a1] w fun e w' => e = .returned (.int .i64 r) ∧ Below w.heap.size w w' := by
 have HR0 := ak hr0
 have HC0 := ak hc0
 clear hr0 hc0
 have HB := ak (Below.refl w.heap.size w)
 have H : ((impl_Field_fieldPlace_1.f k l0 a1).bind fun t424 => (some t424)) = some r := h
 clear h
 replace H := bd H; obtain ⟨t424, A3, H⟩ := H
 obtain rfl := Option.some.inj H
 go_enter Tryz.func88, Tryz.ntmps88
 go_wp2_with (first | (refine bE 3 #[.string a1] 9 ?_; intro gb423 hg w4 hbox hb; have BK423 := ak (hbox); have GW423 := ge_ HB hg; have GE423 := ge_ HB hg; replace HB := bs HB hb; clear hb hbox hg) | (refine gL 122 7 Tryz.func122 #[.slice A0 l0.length c0, .func (.func 123) #[] #[.pointer (some ⟨gb423, 0, none⟩)]] ?_; (with_reducible refine (impl_Field_fieldPlace_1.calls k _ _ l0 gb423 a1 t424 _ (cu (Kd.C_below HR0.out HB.out)) HC0.out (ub BK423.out) A3.out).mono ?_); rintro e w5 ⟨rfl, hb⟩; refine ⟨_, rfl, ?_⟩; replace BK423 := kb BK423 hb; replace HB := ak (below_step bb hb); (try clear hb)))
 go_ret
 exact ⟨er, bb⟩
def impl_GetField.f (k : Nat) (l0 : List (S69)) (a1 : ByteArray) : Option (ByteArray × Bool) := (impl_fieldPlace.f k l0 a1).bind fun t425 => (if t425 < 0 then (some ((⟨#[]⟩ : ByteArray), false)) else (if 0 ≤ t425 then (if t425 < (l0.length : Int) then (some ((rd_T69 l0 t425).f1, true)) else (none)) else (none)))
set_option maxHeartbeats 8000000 in
set_option maxRecDepth 100000 in
theorem impl_GetField.calls (k : Nat) (A0 : Option Addr) (c0 : Nat) (l0 : List (S69)) (a1 : ByteArray) (r1 : ByteArray) (r2 : Bool) (w : World) (hr0 : Kd.C k69 w A0 l0.length l0) (hc0 : l0.length ≤ c0) (h : impl_GetField.f k l0 a1 = some (r1, r2)) :
  Calls Tryz.prog 47 #[.slice A0 l0.length c0, .string a1] w fun e w' => e = .returned (.tuple #[.string r1, .bool r2]) ∧ Below w.heap.size w w' := by
 have HR0 := ak hr0
 have HC0 := ak hc0
 clear hr0 hc0
 have HB := ak (Below.refl w.heap.size w)
 have H : ((impl_fieldPlace.f k l0 a1).bind fun t425 => (if t425 < 0 then (some ((⟨#[]⟩ : ByteArray), false)) else (if 0 ≤ t425 then (if t425 < (l0.length : Int) then (some ((rd_T69 l0 t425).f1, true)) else (none)) else (none)))) = some (r1, r2) := h
 clear h
 replace H := bd H; obtain ⟨t425, A3, H⟩ := H; replace H := sd H
 rcases H with ⟨c4b0, H⟩ | ⟨c4b0, H⟩
 ·
  simp only [Option.some.injEq, Prod.mk.injEq] at H
  obtain ⟨rfl, rfl⟩ := H
  go_enter Tryz.func47, Tryz.ntmps47
  go_wp2_with (first | (refine gL 88 9 Tryz.func88 #[.slice A0 l0.length c0, .string a1] ?_; (with_reducible refine (impl_fieldPlace.calls k _ _ l0 a1 t425 _ (cu HR0.out) HC0.out A3.out).mono ?_); rintro e w5 ⟨rfl, hb⟩; refine ⟨_, rfl, ?_⟩; replace HB := bs HB hb; (try clear hb)))
  go_ret2
  exact ⟨er, ul HB.out⟩
 ·
  replace H := nde H; obtain ⟨c6b0, H⟩ := H; replace H := nde H; obtain ⟨c7b0, H⟩ := H
  simp only [Option.some.injEq, Prod.mk.injEq] at H
  obtain ⟨rfl, rfl⟩ := H
  go_enter Tryz.func47, Tryz.ntmps47
  go_wp2_with (first | (refine gL 88 9 Tryz.func88 #[.slice A0 l0.length c0, .string a1] ?_; (with_reducible refine (impl_fieldPlace.calls k _ _ l0 a1 t425 _ (cu HR0.out) HC0.out A3.out).mono ?_); rintro e w8 ⟨rfl, hb⟩; refine ⟨_, rfl, ?_⟩; replace HB := bs HB hb; (try clear hb); have p426 : 0 ≤ (t425 : Int) := of_decide_eq_true (by assumption); have q426 : t425 < (l0.length : Int) := of_decide_eq_true (by assumption); obtain ⟨ad426, e426, hx426_0, hx426_1⟩ := at_T69 HR0.out t425 p426 q426; cases e426; replace hx426_0 := (HB.out.cell (World.block_lt_of_cell? w _ hx426_0)).trans hx426_0; replace hx426_1 := (HB.out.cell (World.block_lt_of_cell? w _ hx426_1)).trans hx426_1; replace p426 := eq_true p426; replace q426 := eq_true q426))
  go_ret2
  exact ⟨er, ul HB.out⟩
def impl_quoted.l0 : Nat → ByteArray → List Int → Int → Option (ByteArray × Int × Bool)
 | 0, _, _, _ => none
 | k + 1, x0, x5, x6 => if x6 < (x0.size : Int) then (if 0 ≤ x6 then (if (bt x0 x6) = 34 then (some (strOfNums x5, wrap64 (x6 + 1), true)) else (if (bt x0 x6) = 92 then (if (wrap64 (x6 + 1)) = (x0.size : Int) then (some ((⟨#[]⟩ : ByteArray), 0, false)) else (if 0 ≤ (wrap64 (x6 + 1)) then (if (wrap64 (x6 + 1)) < (x0.size : Int) then (if x5.length < 140737488355328 then (impl_quoted.l0 k x0 (x5 ++ [bt x0 (wrap64 (x6 + 1))]) (wrap64 ((wrap64 (x6 + 1)) + 1))) else (none)) else (none)) else (none))) else (if x5.length < 140737488355328 then (impl_quoted.l0 k x0 (x5 ++ [bt x0 x6]) (wrap64 (x6 + 1))) else (none)))) else (none)) else (some ((⟨#[]⟩ : ByteArray), 0, false))
def impl_quoted.f (k : Nat) (a0 : ByteArray) : Option (ByteArray × Int × Bool) := impl_quoted.l0 k a0 (([] : List Int)) 1
set_option maxHeartbeats 8000000 in
set_option maxRecDepth 100000 in
theorem impl_quoted.calls (k : Nat) (a0 : ByteArray) (r1 : ByteArray) (r2 : Int) (r3 : Bool) (w : World) (h : impl_quoted.f k a0 = some (r1, r2, r3)) :
  Calls Tryz.prog 134 #[.string a0] w fun e w' => e = .returned (.tuple #[.string r1, .int .i64 r2, .bool r3]) ∧ Below w.heap.size w w' := by
 have HB := ak (Below.refl w.heap.size w)
 have H : (impl_quoted.l0 k a0 (([] : List Int)) 1) = some (r1, r2, r3) := h
 clear h
 obtain ⟨y427, Ny427⟩ := nm ([] : List Int)
 rw [← Ny427.out] at H
 (try rw [Option.bind_some] at H)
 have H' := ak H; clear H
 go_enter Tryz.func134, Tryz.ntmps134
 go_wp2_with (first | ((with_reducible refine gate_dst (N := 7) rfl ?_); refine Kd.R_lit (Kd.int .u8) _ 5 ?hg (N := 7) ?hd (xs := ([] : List Int)) (inner := []) (ok := fun _ => True) (okp := fun _ => True) ?hr ?hp (fun _ hk => hk) trivial (Below.refl _ _) (Nat.le_refl _) (by simp) ?_; (case hd => rfl); (case hg => rfl); (case hr => first | (go_simp; done) | (go_simp; rfl)); (case hp => exact (Reps.none _ _)); intro v428 w2 ho3 hb hg_ hnew_; clear hg_ hnew_; (first | rw [← Ny427.out] at ho3 | (simp only [Int.reduceToNat] at ho3; rw [← Ny427.out] at ho3)); have HO429 := ak (Kd.R_lower ho3 (below_size (ul HB.out))); replace HB := bs HB hb; clear hb ho3))
 go_loopg [5, 6] k (fun kq v5 v6 w' => ∃ (x5_1 : List Int) (x6_1 : Int), v6 = .int .i64 x6_1 ∧ Aside0 (impl_quoted.l0 kq a0 x5_1 x6_1 = some (r1, r2, r3)) ∧ Aside0 (kq ≤ k) ∧ Aside0 (Kd.R (Kd.int .u8) 5 w' w.heap.size (fun _ => True) v5 x5_1) ∧ Aside0 (Below w.heap.size w w'))
 case atStart => exact ⟨(y427), (1), rs, H', ⟨Nat.le_refl _⟩, ⟨ur HO429.out⟩, ⟨ul HB.out⟩⟩
 case round =>
  clear H'
  try clear c1
  try clear p2
  obtain ⟨x5_1, x6_1, rfl, HA, HK1, HO_5, HB⟩ := hrel
  cases gk with
  | zero => exact absurd HA.out (by simp [impl_quoted.l0])
  | succ k1 =>
   have H := HA.out
   clear HA
   simp only [impl_quoted.l0] at H
   replace H := sd H
   rcases H with ⟨c4b0, H⟩ | ⟨c4b0, H⟩
   ·
    replace H := nde H; obtain ⟨c5b0, H⟩ := H; replace H := sq H
    rcases H with ⟨c7b0, c7b1, H⟩ | ⟨c7, c7b0, c7b1, H⟩
    ·
     simp only [Option.some.injEq, Prod.mk.injEq] at H
     obtain ⟨rfl, rfl, rfl⟩ := H
     obtain ⟨p6, q6, hx6⟩ := bx a0 x6_1
     have hcv8 := own_string (P := Tryz.prog) Tryz.underlying22 Tryz.underlying5 Tryz.underlying9 (Kd.own_of_R HO_5.out)
     go_wp2
     go_ret3
     exact ⟨er, ul HB.out⟩
    ·
     replace H := sq H
     rcases H with ⟨c10b0, c10b1, H⟩ | ⟨c10, c10b0, c10b1, H⟩
     ·
      replace H := sq H
      rcases H with ⟨c11b0, c11b1, H⟩ | ⟨c11, c11b0, c11b1, H⟩
      ·
       simp only [Option.some.injEq, Prod.mk.injEq] at H
       obtain ⟨rfl, rfl, rfl⟩ := H
       obtain ⟨p6, q6, hx6⟩ := bx a0 x6_1
       obtain ⟨p9, q9, hx9⟩ := bx a0 x6_1
       go_wp2
       go_ret3
       exact ⟨er, ul HB.out⟩
      ·
       obtain ⟨ji12, hji12⟩ : ∃ j_ : Int, (wrap64 (x6_1 + 1)) = j_ := ⟨_, rfl⟩
       replace H : (if 0 ≤ (ji12) then (if (ji12) < (a0.size : Int) then (if x5_1.length < 140737488355328 then (impl_quoted.l0 k1 a0 (x5_1 ++ [bt a0 (ji12)]) (wrap64 ((ji12) + 1))) else (none)) else (none)) else (none)) = some (r1, r2, r3) := by first | (rw [hji12] at H; exact H) | (simp only [hji12] at H ⊢; exact H)
       (try rw [hji12] at c11b0)
       (try rw [hji12] at c11b1)
       have hji12w : (IntKind.i64.wrap (x6_1 + 1)) = ji12 := (i64_w _).trans hji12
       replace H := nde H; obtain ⟨c13b0, H⟩ := H; replace H := nde H; obtain ⟨c14b0, H⟩ := H; replace H := nl H; obtain ⟨LMc16, H⟩ := H
       obtain ⟨y430, Ny430⟩ := nm (x5_1 ++ [bt a0 (ji12)])
       rw [← Ny430.out] at H
       (try rw [Option.bind_some] at H)
       have H' := ak H; clear H
       obtain ⟨p6, q6, hx6⟩ := bx a0 x6_1
       obtain ⟨p9, q9, hx9⟩ := bx a0 x6_1
       obtain ⟨p15, q15, hx15⟩ := bx a0 (ji12)
       go_wp2_with (first | ((with_reducible refine gate_builtin (b := .append) (xs := #[.tmp 34, .tmp 38]) rfl ?_); at_builtin; refine Kd.R_append (Kd.int .u8) (w0 := w) w.heap.size rfl (.tmp 34) (.tmp 38) 22 5 (.int .u8 0) 1 rfl Tryz.underlying22 info5 rfl (by decide) (by omega) u5 x5_1 (bt a0 (ji12)) [.int .u8 (bt a0 (ji12))] (fun _ => True) (fun _ => False) rfl rfl ?aP (fun _ hk => hk.elim) ?aF ?aO ?aB ?aS ?aL ?_; (case aP => exact rfl); (case aB => exact (ul HB.out)); (case aF => exact (fun _ _ => trivial)); (case aO => exact (ur HO_5.out)); (case aS => exact (below_size (ul HB.out))); (case aL => have := LMc16.out; omega); intro v431 w17 ho hb hg hat; rw [← Ny430.out] at ho; have n0_ := ak (hb); have n1_ := ak (ho); clear HB; clear HO_5; have HB := n0_; have HO432 := n1_; clear n0_ n1_; clear ho hb hg hat))
       go_roundg k1
       case measure => have := HK1.out; omega
       case rel => exact ⟨(y430), (wrap64 ((ji12) + 1)), (by first | rfl | (simp; done) | (simp only [← hji12] <;> (first | rfl | simp)) | (simp [*]; done)), H', ⟨by have := HK1.out; omega⟩, ⟨ur HO432.out⟩, ⟨ul HB.out⟩⟩
     ·
      replace H := nl H; obtain ⟨LMc19, H⟩ := H
      obtain ⟨y433, Ny433⟩ := nm (x5_1 ++ [bt a0 x6_1])
      rw [← Ny433.out] at H
      (try rw [Option.bind_some] at H)
      have H' := ak H; clear H
      obtain ⟨p6, q6, hx6⟩ := bx a0 x6_1
      obtain ⟨p9, q9, hx9⟩ := bx a0 x6_1
      obtain ⟨p18, q18, hx18⟩ := bx a0 x6_1
      go_wp2_with (first | ((with_reducible refine gate_builtin (b := .append) (xs := #[.tmp 34, .tmp 38]) rfl ?_); at_builtin; refine Kd.R_append (Kd.int .u8) (w0 := w) w.heap.size rfl (.tmp 34) (.tmp 38) 22 5 (.int .u8 0) 1 rfl Tryz.underlying22 info5 rfl (by decide) (by omega) u5 x5_1 (bt a0 x6_1) [.int .u8 (bt a0 x6_1)] (fun _ => True) (fun _ => False) rfl rfl ?aP (fun _ hk => hk.elim) ?aF ?aO ?aB ?aS ?aL ?_; (case aP => exact rfl); (case aB => exact (ul HB.out)); (case aF => exact (fun _ _ => trivial)); (case aO => exact (ur HO_5.out)); (case aS => exact (below_size (ul HB.out))); (case aL => have := LMc19.out; omega); intro v434 w20 ho hb hg hat; rw [← Ny433.out] at ho; have n0_ := ak (hb); have n1_ := ak (ho); clear HB; clear HO_5; have HB := n0_; have HO435 := n1_; clear n0_ n1_; clear ho hb hg hat))
      go_roundg k1
      case measure => have := HK1.out; omega
      case rel => exact ⟨(y433), (wrap64 (x6_1 + 1)), rs, H', ⟨by have := HK1.out; omega⟩, ⟨ur HO435.out⟩, ⟨ul HB.out⟩⟩
   ·
    simp only [Option.some.injEq, Prod.mk.injEq] at H
    obtain ⟨rfl, rfl, rfl⟩ := H
    go_wp2
    go_ret3
    exact ⟨er, ul HB.out⟩
def impl_outside.l0 : Nat → ByteArray → Int → Int → Option (Int)
 | 0, _, _, _ => none
 | k + 1, x0, x1, x5 => if x5 < (x0.size : Int) then (if 0 ≤ x5 then (if (bt x0 x5) = 34 then (if x5 ≤ (x0.size : Int) then ((impl_quoted.f k (x0.extract (x5 : Int).toNat x0.size)).bind fun bt436 => (if bt436.2.2 = true then (impl_outside.l0 k x0 x1 (wrap64 ((wrap64 (x5 + (wrap64 (bt436.2.1 - 1)))) + 1))) else (some (-1)))) else (none)) else (if (bt x0 x5) = x1 then (some x5) else (impl_outside.l0 k x0 x1 (wrap64 (x5 + 1))))) else (none)) else (some (-1))
def impl_outside.f (k : Nat) (a0 : ByteArray) (a1 : Int) : Option (Int) := impl_outside.l0 k a0 a1 0
set_option maxHeartbeats 8000000 in
set_option maxRecDepth 100000 in
theorem impl_outside.calls (k : Nat) (a0 : ByteArray) (a1 : Int) (r : Int) (w : World) (h : impl_outside.f k a0 a1 = some r) :
  Calls Tryz.prog 125 #[.string a0, .int .u8 a1] w fun e w' => e = .returned (.int .i64 r) ∧ Below w.heap.size w w' := by
 have HB := ak (Below.refl w.heap.size w)
 have H : (impl_outside.l0 k a0 a1 0) = some r := h
 clear h
 have H' := ak H; clear H
 go_enter Tryz.func125, Tryz.ntmps125
 go_wp2
 go_loopg [5] k (fun kq v5 w' => ∃ (x5_1 : Int), v5 = .int .i64 x5_1 ∧ Aside0 (impl_outside.l0 kq a0 a1 x5_1 = some r) ∧ Aside0 (kq ≤ k) ∧ Aside0 (Below w.heap.size w w'))
 case atStart => exact ⟨(0), rs, H', ⟨Nat.le_refl _⟩, ⟨ul HB.out⟩⟩
 case round =>
  clear H'
  try clear c1
  try clear p2
  obtain ⟨x5_1, rfl, HA, HK1, HB⟩ := hrel
  cases gk with
  | zero => exact absurd HA.out (by simp [impl_outside.l0])
  | succ k1 =>
   have H := HA.out
   clear HA
   simp only [impl_outside.l0] at H
   replace H := sd H
   rcases H with ⟨c3b0, H⟩ | ⟨c3b0, H⟩
   ·
    replace H := nde H; obtain ⟨c4b0, H⟩ := H; replace H := sq H
    rcases H with ⟨c6b0, c6b1, H⟩ | ⟨c6, c6b0, c6b1, H⟩
    ·
     have c7b0 := eq_true (of_decide_eq_true (by assumption) : 0 ≤ x5_1)
     replace H := ne_ H; obtain ⟨c8b0, c8b1, H⟩ := H; replace H := bd H
     obtain ⟨⟨t436, t437, t438⟩, A9, H⟩ := H
     (try dsimp only at H)
     replace H := sb H
     rcases H with ⟨rfl, H⟩ | ⟨rfl, H⟩
     ·
      have H' := ak H; clear H
      obtain ⟨p5, q5, hx5⟩ := bx a0 x5_1
      go_wp2_with (first | (refine gL 134 24 Tryz.func134 #[.string (a0.extract (x5_1 : Int).toNat a0.size)] ?_; (with_reducible refine (impl_quoted.calls k1 (a0.extract (x5_1 : Int).toNat a0.size) t436 t437 true _ A9.out).mono ?_); rintro e w11 ⟨rfl, hb⟩; refine ⟨_, rfl, ?_⟩; replace HB := bs HB hb; (try clear hb)))
      go_roundg k1
      case measure => have := HK1.out; omega
      case rel => exact ⟨(wrap64 ((wrap64 (x5_1 + (wrap64 (t437 - 1)))) + 1)), rs, H', ⟨by have := HK1.out; omega⟩, ⟨ul HB.out⟩⟩
     ·
      obtain rfl := Option.some.inj H
      obtain ⟨p5, q5, hx5⟩ := bx a0 x5_1
      go_wp2_with (first | (refine gL 134 24 Tryz.func134 #[.string (a0.extract (x5_1 : Int).toNat a0.size)] ?_; (with_reducible refine (impl_quoted.calls k1 (a0.extract (x5_1 : Int).toNat a0.size) t436 t437 false _ A9.out).mono ?_); rintro e w12 ⟨rfl, hb⟩; refine ⟨_, rfl, ?_⟩; replace HB := bs HB hb; (try clear hb)))
      go_ret
      exact ⟨er, ul HB.out⟩
    ·
     replace H := sq H
     rcases H with ⟨c13b0, c13b1, H⟩ | ⟨c13, c13b0, c13b1, H⟩
     ·
      obtain rfl := Option.some.inj H
      obtain ⟨p5, q5, hx5⟩ := bx a0 x5_1
      go_wp2
      go_ret
      exact ⟨er, ul HB.out⟩
     ·
      have H' := ak H; clear H
      obtain ⟨p5, q5, hx5⟩ := bx a0 x5_1
      go_wp2
      go_roundg k1
      case measure => have := HK1.out; omega
      case rel => exact ⟨(wrap64 (x5_1 + 1)), rs, H', ⟨by have := HK1.out; omega⟩, ⟨ul HB.out⟩⟩
   ·
    obtain rfl := Option.some.inj H
    go_wp2
    go_ret
    exact ⟨er, ul HB.out⟩
def impl_splitOutside.l0 : Nat → ByteArray → Int → List ByteArray → Option (List ByteArray)
 | 0, _, _, _ => none
 | k + 1, x0, x1, x5 => (impl_outside.f k x0 x1).bind fun t442 => (if t442 < 0 then (if x5.length < 8796093022208 then (some (x5 ++ [x0])) else (none)) else (if 0 ≤ t442 then (if t442 ≤ (x0.size : Int) then (if x5.length < 8796093022208 then (if 0 ≤ (wrap64 (t442 + 1)) then (if (wrap64 (t442 + 1)) ≤ (x0.size : Int) then (impl_splitOutside.l0 k (x0.extract ((wrap64 (t442 + 1)) : Int).toNat x0.size) x1 (x5 ++ [x0.extract 0 (t442 : Int).toNat])) else (none)) else (none)) else (none)) else (none)) else (none)))
def impl_splitOutside.f (k : Nat) (a0 : ByteArray) (a1 : Int) : Option (List ByteArray) := impl_splitOutside.l0 k a0 a1 (([] : List ByteArray))
def impl_splitOutside.T5 : Bool × List (List Nat × List Nat) := (true, [([], []), ([], []), ([], []), ([1, 2], [1, 2]), ([3], [3]), ([0, 4], [0, 4]), ([], []), ([], []), ([7], [7]), ([6, 8], [6, 8]), ([5, 5, 0, 1, 2, 3, 4, 5], [0, 5]), ([9, 10, 0, 1, 2, 3, 4, 5, 6, 7, 8, 9, 10], [1, 6, 9])])
def impl_splitOutside.B5 : List Nat := [0, 0, 0, 6, 14, 31, 0, 0, 128, 448, 63, 2047]
theorem impl_splitOutside.tab5 : rtab .any (opsOf Tryz.f90 5) = impl_splitOutside.T5 := by kernel_rfl
theorem impl_splitOutside.bits5 : waitsOk impl_splitOutside.T5.2 impl_splitOutside.B5 = true := by kernel_rfl
set_option maxHeartbeats 8000000 in
set_option maxRecDepth 100000 in
theorem impl_splitOutside.calls (k : Nat) (a0 : ByteArray) (a1 : Int) (r : List ByteArray) (w : World) (h : impl_splitOutside.f k a0 a1 = some r) :
  Calls Tryz.prog 90 #[.string a0, .int .u8 a1] w fun e w' => ∃ v0_ : Value, e = .returned (v0_) ∧ Kd.R Kd.string 9 w' w.heap.size (fun _ => True) v0_ r ∧ Below w.heap.size w w' := by
 have HB := ak (Below.refl w.heap.size w)
 have H : (impl_splitOutside.l0 k a0 a1 (([] : List ByteArray))) = some r := h
 clear h
 obtain ⟨y439, Ny439⟩ := nm ([] : List ByteArray)
 rw [← Ny439.out] at H
 (try rw [Option.bind_some] at H)
 have H' := ak H; clear H
 go_enter Tryz.func90, Tryz.ntmps90
 go_wp2_with (first | ((with_reducible refine gate_dst (N := 7) rfl ?_); refine Kd.R_lit Kd.string _ 9 ?hg (N := 7) ?hd (xs := ([] : List ByteArray)) (inner := []) (ok := fun _ => True) (okp := fun _ => True) ?hr ?hp (fun _ hk => hk) trivial (Below.refl _ _) (Nat.le_refl _) (by simp) ?_; (case hd => rfl); (case hg => rfl); (case hr => first | (go_simp; done) | (go_simp; rfl)); (case hp => exact (Reps.none _ _)); intro v440 w3 ho4 hb hg_ hnew_; clear hg_ hnew_; (first | rw [← Ny439.out] at ho4 | (simp only [Int.reduceToNat] at ho4; rw [← Ny439.out] at ho4)); have HO441 := ak (Kd.R_lower ho4 (below_size (ul HB.out))); replace HB := bs HB hb; clear hb ho4))
 go_loopg [0, 5] k (fun kq v0 v5 w' => ∃ (x0_1 : ByteArray) (x5_1 : List ByteArray), v0 = .string x0_1 ∧ Aside0 (impl_splitOutside.l0 kq x0_1 a1 x5_1 = some r) ∧ Aside0 (kq ≤ k) ∧ Aside0 (Kd.R Kd.string 9 w' w.heap.size (fun _ => True) v5 x5_1) ∧ Aside0 (Below w.heap.size w w'))
 case atStart => exact ⟨(a0), (y439), rs, H', ⟨Nat.le_refl _⟩, ⟨ur HO441.out⟩, ⟨ul HB.out⟩⟩
 case round =>
  clear H'
  try clear p2
  obtain ⟨x0_1, x5_1, rfl, HA, HK1, HO_5, HB⟩ := hrel
  cases gk with
  | zero => exact absurd HA.out (by simp [impl_splitOutside.l0])
  | succ k1 =>
   have H := HA.out
   clear HA
   simp only [impl_splitOutside.l0] at H
   replace H := bd H; obtain ⟨t442, A5, H⟩ := H; replace H := sd H
   rcases H with ⟨c6b0, H⟩ | ⟨c6b0, H⟩
   ·
    replace H := nl H; obtain ⟨LMc7, H⟩ := H
    obtain ⟨y443, Ny443⟩ := nm (x5_1 ++ [x0_1])
    rw [← Ny443.out] at H
    (try rw [Option.bind_some] at H)
    obtain rfl := Option.some.inj H
    go_wp2_with (first | (refine gL 125 10 Tryz.func125 #[.string x0_1, .int .u8 a1] ?_; (with_reducible refine (impl_outside.calls k1 x0_1 a1 t442 _ A5.out).mono ?_); rintro e w8 ⟨rfl, hb⟩; refine ⟨_, rfl, ?_⟩; replace HO_5 := rb HO_5 hb; replace HB := bs HB hb; (try clear hb)) | ((with_reducible refine gate_builtin (b := .append) (xs := #[.tmp 13, .tmp 15]) rfl ?_); at_builtin; refine Kd.R_append Kd.string (w0 := w) w.heap.size rfl (.tmp 13) (.tmp 15) 23 9 (.string ⟨#[]⟩) 16 rfl Tryz.underlying23 info9 rfl (by decide) (by omega) u5 x5_1 x0_1 [.string x0_1] (fun _ => True) (fun _ => False) rfl rfl ?aP (fun _ hk => hk.elim) ?aF ?aO ?aB ?aS ?aL ?_; (case aP => exact rfl); (case aB => exact (ul HB.out)); (case aF => exact (fun _ _ => trivial)); (case aO => exact (ur HO_5.out)); (case aS => exact (below_size (ul HB.out))); (case aL => have := LMc7.out; omega); intro v444 w9 ho hb hg hat; rw [← Ny443.out] at ho; have n0_ := ak (hb); have n1_ := ak (ho); clear HB; clear HO_5; have HB := n0_; have HO445 := n1_; clear n0_ n1_; clear ho hb hg hat))
    go_ret
    exact ⟨_, er, ur HO445.out, ul HB.out⟩
   ·
    replace H := ne_ H; obtain ⟨c10b0, c10b1, H⟩ := H; replace H := ne_ H; obtain ⟨c11b0, c11b1, H⟩ := H; replace H := nl H; obtain ⟨LMc12, H⟩ := H
    obtain ⟨y446, Ny446⟩ := nm (x5_1 ++ [x0_1.extract 0 (t442 : Int).toNat])
    rw [← Ny446.out] at H
    (try rw [Option.bind_some] at H)
    obtain ⟨ji13, hji13⟩ : ∃ j_ : Int, (wrap64 (t442 + 1)) = j_ := ⟨_, rfl⟩
    replace H : (if 0 ≤ (ji13) then (if (ji13) ≤ (x0_1.size : Int) then (impl_splitOutside.l0 k1 (x0_1.extract ((ji13) : Int).toNat x0_1.size) a1 y446) else (none)) else (none)) = some r := by first | (rw [hji13] at H; exact H) | (simp only [hji13] at H ⊢; exact H)
    (try rw [hji13] at A5)
    have hji13w : (IntKind.i64.wrap (t442 + 1)) = ji13 := (i64_w _).trans hji13
    replace H := ne_ H; obtain ⟨c14b0, c14b1, H⟩ := H; replace H := ne_ H; obtain ⟨c15b0, c15b1, H⟩ := H
    have H' := ak H; clear H
    try go_wp2_with (first | (refine gL 125 10 Tryz.func125 #[.string x0_1, .int .u8 a1] ?_; (with_reducible refine (impl_outside.calls k1 x0_1 a1 t442 _ A5.out).mono ?_); rintro e w16 ⟨rfl, hb⟩; refine ⟨_, rfl, ?_⟩; replace HO_5 := rb HO_5 hb; replace HB := bs HB hb; (try clear hb)))
    replace HO_5 := ak (Kd.R_drew HO_5.out)
    replace HB := ak (below_drew1 HB.out)
    refine ro [4, 5] [0, 1, 2, 3, 6, 7, 8, 9, 4, 5, 10, 11] (fun w' => True) trivial ?_
    generalize w16.drew = w17 at HO_5 HB ⊢
    repeat (refine lk (v := ?_) (a' := ?_) (gk.trans rfl) rfl rfl ?_ ?_ ?_; rotate_left; (focus (intro w' _; go_simp; with_reducible rfl)); rotate_left; (focus (simp only [Act.put, l_a, l_b, l_c, i64_w, i32_w]; rfl)))
    refine ld (N := some 21) (gk.trans rfl) rfl rfl (fun K hK => ?_)
    refine value_ (w1 := ?_) (v := ?_) (by rfl) rfl ?_ ?_
    rotate_left 2
    ·
     go_simp
     constructor
     ·
      rfl
     ·
      rfl
    refine hK.out _ _ trivial ?_
    clear hK K
    refine no (a' := ?_) ?_ ?_
    rotate_left
    ·
     show Act.put _ (some 21) _ = _
     simp only [Act.put, l_a, l_b, l_c, i64_w, i32_w]
     rfl
    refine ld (N := some 22) (gk.trans rfl) rfl rfl (fun K hK => ?_)
    refine Kd.R_append_step Kd.string (w0 := w) w.heap.size (by rfl) (.tmp 17) (.tmp 21) 23 9 (.string ⟨#[]⟩) 16 rfl Tryz.underlying23 info9 rfl (by decide) (by omega) u5 x5_1 (x0_1.extract 0 (t442 : Int).toNat) [.string (x0_1.extract 0 (t442 : Int).toNat)] (fun _ => True) (fun _ => False) rfl rfl ?aP (fun _ hk => hk.elim) ?aF ?aO ?aB ?aS ?aL ?_
    (case aP => exact rfl)
    (case aB => exact (ul HB.out))
    (case aF => exact (fun _ _ => trivial))
    (case aO => exact (ur HO_5.out))
    (case aS => exact (below_size (ul HB.out)))
    (case aL => have := LMc12.out; omega)
    intro v447 w18 ho hb hg hat
    rw [← Ny446.out] at ho
    have n0_ := ak (hb)
    have n1_ := ak (ho)
    clear HB HO_5
    have HB := n0_
    have HO448 := n1_
    clear n0_ n1_ ho hb hg hat
    refine hK.out _ _ trivial ?_
    clear hK K
    refine no (a' := ?_) ?_ ?_
    rotate_left
    ·
     show Act.put _ (some 22) _ = _
     simp only [Act.put, l_a, l_b, l_c, i64_w, i32_w]
     rfl
    repeat (refine lk (v := ?_) (a' := ?_) (gk.trans rfl) rfl rfl ?_ ?_ ?_; rotate_left; (focus (intro w' _; go_simp; with_reducible rfl)); rotate_left; (focus (simp only [Act.put, l_a, l_b, l_c, i64_w, i32_w]; rfl)))
    refine on ?_
    try go_wp2
    go_roundg k1
    case measure => have := HK1.out; omega
    case rel => exact ⟨(x0_1.extract ((ji13) : Int).toNat x0_1.size), (y446), (by first | rfl | (simp; done) | (simp only [← hji13] <;> (first | rfl | simp)) | (simp [*]; done)), H', ⟨by have := HK1.out; omega⟩, ⟨ur HO448.out⟩, ⟨ul HB.out⟩⟩
def strings_Cut.f (a0 : ByteArray) (a1 : ByteArray) : Option (ByteArray × ByteArray × Bool) := if a0.size < 4294967281 then some (⟨(Lib.cut a0.data.toList a1.data.toList).1.toArray⟩, ⟨(Lib.cut a0.data.toList a1.data.toList).2.1.toArray⟩, (Lib.cut a0.data.toList a1.data.toList).2.2) else none
theorem strings_Cut.calls (a0 a1 : ByteArray) (r1 r2 : ByteArray) (r3 : Bool) (w : World) (hg_ : MaxOk w) (h : strings_Cut.f a0 a1 = some (r1, r2, r3)) :
  Calls Tryz.prog 91 #[.string a0, .string a1] w fun e w' => e = .returned (.tuple #[.string r1, .string r2, .bool r3]) ∧ Drawn0 w w' := by
 unfold strings_Cut.f at h
 split at h
 ·
  rename_i hs
  injection h with h
  injection h with h1 h
  injection h with h2 h3
  subst h1; subst h2; subst h3
  obtain ⟨m, hm⟩ := hg_
  exact (Tryz.strings_Cut a0 a1 m w hs hm).mono fun e w' ⟨he, n, hn⟩ => ⟨he, ⟨⟨n, hn⟩⟩⟩
 ·
  cases h
end Go.Proofs.YtncdadcmghglkaaGreatDoor.PFnExactCountParts
