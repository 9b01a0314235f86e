/- Printed walks; conditions: those in each statement. -/
import Derived.Test.YtncdadcmghglkaaGreatDoorVFnExactCountPartsQt
import Derived.Test.YtncdadcmghglkaaGreatDoorVFnExactCountPartsYt
import Derived.Test.YtncdadcmghglkaaGreatDoorPFnExactCountPartsx0
import Derived.Test.YtncdadcmghglkaaGreatDoorPFnExactCountPartsx12
import Derived.Test.YtncdadcmghglkaaGreatDoorPFnExactCountPartsx18
import Derived.Test.YtncdadcmghglkaaGreatDoorPFnExactCountPartsx19
-- short
-- dense
-- sq
namespace Go.Proofs.YtncdadcmghglkaaGreatDoor.PFnExactCountParts
open Go.RowKit Go.Proofs.YtncdadcmghglkaaGreatDoor.X Go.Proofs.YtncdadcmghglkaaGreatDoorW.PrintWords Go.Proofs.YtncdadcmghglkaaGreatDoorW.PrintLast Go.Proofs.YtncdadcmghglkaaGreatDoorW.PrintMore
attribute [local go_sem] max2_int min2_int max_two min_two max_three min_three max_four min_four   -- for this text's walks alone
set_option linter.unusedVariables false
set_option linter.unusedSimpArgs false
mutual
def impl_Part_linesOf.j0 : Nat → Int → List ByteArray → Bool → List (S69) → List ByteArray → List (S28) → Option (List ByteArray × Bool)
 | 0, _, _, _, _, _, _ => none
 | k + 1, x1, x6, x27, x596000, x596001, x596002 => if x27 = true then (some (([] : List ByteArray), false)) else (if x6.length < 8796093022208 then ((some (x6 ++ [(⟨#[]⟩ : ByteArray)] : List ByteArray)).bind fun y600 => ((impl_Part_boundary.f k x596000 x596001 x596002).bind fun bt603 => (if bt603.2 = true then (if (x596001.length : Int) > 0 then (impl_Part_linesOf.j1 k x1 y600 bt603.1 true x596000 x596001 x596002) else (if (x596002.length : Int) < 1 then (impl_Part_linesOf.j1 k x1 y600 bt603.1 true x596000 x596001 x596002) else (impl_Part_linesOf.j1 k x1 y600 bt603.1 (decide ((x596002.length : Int) > 4)) x596000 x596001 x596002))) else (if y600.length + x596001.length < 8796093022208 then ((some (y600 ++ x596001 : List ByteArray)).bind fun y605 => (if (x596002.length : Int) = 0 then ((impl_areTexts.f k x596001 30).bind fun t608 => (some (y605, t608))) else (some (y605, false)))) else (none))))) else (none))
def impl_Part_linesOf.j1 : Nat → Int → List ByteArray → ByteArray → Bool → List (S69) → List ByteArray → List (S28) → Option (List ByteArray × Bool)
 | 0, _, _, _, _, _, _, _ => none
 | k + 1, x1, x6, x8, x66, x596000, x596001, x596002 => if x66 = true then (some (([] : List ByteArray), false)) else (impl_Part_linesOf.l0 k x1 x6 x8 (([] : List (List ByteArray))) x596002 (x596002.length : Int) 0)
def impl_Part_linesOf.l0 : Nat → Int → List ByteArray → ByteArray → List (List ByteArray) → List (S28) → Int → Int → Option (List ByteArray × Bool)
 | 0, _, _, _, _, _, _, _ => none
 | k + 1, x1, x6, x8, x10, x69, x70, x71 => if x71 < x70 then (if 0 ≤ x71 then (if x71 < (x69.length : Int) then ((impl_Part_linesOf.f k ((rd_T28 x69 x71).f0) ((rd_T28 x69 x71).f1) ((rd_T28 x69 x71).f2) (wrap64 (x1 - 1))).bind fun bt614 => (if bt614.2 = true then (if x10.length < 5864062014805 then (impl_Part_linesOf.l0 k x1 x6 x8 (x10 ++ [bt614.1]) x69 x70 (wrap64 (x71 + 1))) else (none)) else (some (([] : List ByteArray), false)))) else (none)) else (none)) else ((impl_JoinParts.f k x10 x8).bind fun bt621 => (if x6.length + bt621.1.length < 8796093022208 then (some ((x6 ++ bt621.1), bt621.2)) else (none)))
def impl_Part_linesOf.f : Nat → List (S69) → List ByteArray → List (S28) → Int → Option (List ByteArray × Bool)
 | 0, _, _, _, _ => none
 | k + 1, l0_0, l0_1, l0_2, a1 => (impl_FoldFields.f k l0_0).bind fun bt596 => (if bt596.2 = true then (impl_Part_linesOf.j0 k a1 bt596.1 (a1 == 0) l0_0 l0_1 l0_2) else (impl_Part_linesOf.j0 k a1 bt596.1 true l0_0 l0_1 l0_2))
end
def impl_Part_linesOf.T7 : Bool × List (List Nat × List Nat) := (true, [([], []), ([], []), ([1], [1]), ([0, 2], [0, 2]), ([], []), ([4], [4]), ([5], [5]), ([6], [6]), ([7, 3], [7]), ([8], [8]), ([9, 8], [8, 9]), ([10, 8, 8], [8, 10]), ([8, 11], [8, 11]), ([3, 11, 0, 1, 2, 3], [3]), ([12, 13, 0, 1, 2, 3, 4, 5, 6, 7, 8, 9, 10, 11, 12, 13], [12])])
def impl_Part_linesOf.B7 : List Nat := [0, 0, 2, 7, 0, 16, 48, 112, 255, 511, 1023, 2047, 4095, 4095, 16383]
theorem impl_Part_linesOf.tab7 : rtab .any (opsOf Tryz.f66 7) = impl_Part_linesOf.T7 := by kernel_rfl
theorem impl_Part_linesOf.bits7 : waitsOk impl_Part_linesOf.T7.2 impl_Part_linesOf.B7 = true := by kernel_rfl
set_option maxHeartbeats 8000000 in
set_option maxRecDepth 100000 in
theorem impl_Part_linesOf.calls (k : Nat) : ∀ (A0_0 : Option Addr) (c0_0 : Nat) (l0_0 : List (S69)) (A0_1 : Option Addr) (c0_1 : Nat) (l0_1 : List ByteArray) (A0_2 : Option Addr) (c0_2 : Nat) (l0_2 : List (S28)) (a1 : Int) (r1 : List ByteArray) (r2 : Bool) (w : World) (hr0_0 : Kd.C k69 w A0_0 l0_0.length l0_0) (hc0_0 : l0_0.length ≤ c0_0) (hr0_1 : Kd.C Kd.string w A0_1 l0_1.length l0_1) (hc0_1 : l0_1.length ≤ c0_1) (hr0_2 : Kd.C k28 w A0_2 l0_2.length l0_2) (hc0_2 : l0_2.length ≤ c0_2) (hg_ : MaxOk w) (h : impl_Part_linesOf.f k l0_0 l0_1 l0_2 a1 = some (r1, r2)),
  Calls Tryz.prog 66 #[.agg #[.slice A0_0 l0_0.length c0_0, .slice A0_1 l0_1.length c0_1, .slice A0_2 l0_2.length c0_2], .int .i64 a1] w fun e w' => ∃ v0_ : Value, e = .returned (.tuple #[v0_, .bool r2]) ∧ Kd.R Kd.string 9 w' w.heap.size (fun _ => True) v0_ r1 ∧ Below w.heap.size w w' := by
 induction k using Nat.strongRecOn with
 | _ k ih =>
 intro A0_0 c0_0 l0_0 A0_1 c0_1 l0_1 A0_2 c0_2 l0_2 a1 r1 r2 w hr0_0 hc0_0 hr0_1 hc0_1 hr0_2 hc0_2 hg_ h
 cases k with
 | zero => exact absurd h (by simp [impl_Part_linesOf.f])
 | succ k =>
 simp only [impl_Part_linesOf.f] at h
 have hu28 := Tryz.underlying28
 have HR0_0 := ak hr0_0
 have HC0_0 := ak hc0_0
 clear hr0_0 hc0_0
 have HR0_1 := ak hr0_1
 have HC0_1 := ak hc0_1
 clear hr0_1 hc0_1
 have HR0_2 := ak hr0_2
 have HC0_2 := ak hc0_2
 clear hr0_2 hc0_2
 have HG := ak hg_
 clear hg_
 have HB := ak (Below.refl w.heap.size w)
 have H : ((impl_FoldFields.f k l0_0).bind fun bt596 => (if bt596.2 = true then (impl_Part_linesOf.j0 k a1 bt596.1 (a1 == 0) l0_0 l0_1 l0_2) else (impl_Part_linesOf.j0 k a1 bt596.1 true l0_0 l0_1 l0_2))) = some (r1, r2) := h
 clear h
 replace H := bd H
 obtain ⟨⟨t596, t597⟩, A3, H⟩ := H
 (try dsimp only at H)
 have HC4 := ak H
 clear H
 go_enter Tryz.func66, Tryz.ntmps66
 go_upto_region 2 with (first | (refine gate_dst (N := 2) rfl ?_; (try (refine gate_guard (by rfl) ?_; dsimp only)); refine bE 2 #[.slice A0_0 l0_0.length c0_0, .slice A0_1 l0_1.length c0_1, .slice A0_2 l0_2.length c0_2] 28 ?_; intro gb595 hg w5 hbox hb; have BK595 := ak (hbox); have GW595 := ge_ HB hg; have GE595 := ge_ HB hg; replace HB := bs HB hb; clear hb hbox hg; obtain ⟨hcz6_0, hcz6_1, hcz6_2, hfz6_0, hfz6_1, hfz6_2⟩ := cz3 BK595.out) | (refine gL 39 19 Tryz.func39 #[.slice A0_0 l0_0.length c0_0] ?_; (with_reducible refine (impl_FoldFields.calls k _ _ l0_0 t596 t597 _ (cu (Kd.C_below HR0_0.out HB.out)) HC0_0.out A3.out).mono ?_); rintro e w7 ⟨v598, rfl, ho0, hb⟩; refine ⟨_, rfl, ?_⟩; have HO599 := ak (Kd.R_lower ho0 (below_size bb)); replace BK595 := kb BK595 hb; replace HB := ak (below_step bb hb); (try clear hb); (try clear ho0)))
 (try simp only [Act.put, l_a, l_b, l_c])
 go_cut [27] (fun v27 wc => ∃ (kq : Nat) (x27_3 : Bool), v27 = .bool x27_3 ∧ Aside0 (impl_Part_linesOf.j0 kq a1 t596 x27_3 l0_0 l0_1 l0_2 = some (r1, r2)) ∧ Aside0 (kq ≤ k) ∧ Aside0 (Kd.R Kd.string 9 wc w.heap.size (fun _ => True) v598 t596) ∧ Aside0 (wc.heap[gb595]? = some (.cells #[(.slice A0_0 l0_0.length c0_0), (.slice A0_1 l0_1.length c0_1), (.slice A0_2 l0_2.length c0_2)] 28 (0, 0))) ∧ Aside0 (Below w.heap.size w wc))
 case first =>
  have H := HC4.out
  clear HC4
  replace H := sb H
  rcases H with ⟨rfl, H⟩ | ⟨rfl, H⟩
  ·
   have H' := ak H; clear H
   go_wp2
   go_meet
   case rel => exact ⟨_, ((a1 == 0)), rs, H', ⟨le_⟩, ⟨ur HO599.out⟩, ⟨ub BK595.out⟩, ⟨bb⟩⟩
  ·
   have H' := ak H; clear H
   go_wp2
   go_meet
   case rel => exact ⟨_, (true), rs, H', ⟨le_⟩, ⟨ur HO599.out⟩, ⟨ub BK595.out⟩, ⟨bb⟩⟩
 case rest =>
  clear HC4
  try clear p2
  try clear c3
  try clear c6
  try clear c8
  try clear hcz6_0
  try clear hcz6_1
  try clear hcz6_2
  try clear hfz6_0
  try clear hfz6_1
  try clear hfz6_2
  obtain ⟨kq, x27_3, rfl, HA, HJ3, HO_6, BK595, HB⟩ := hcut
  cases kq with
  | zero => exact absurd HA.out (by simp [impl_Part_linesOf.j0])
  | succ kj3 =>
   have H := HA.out
   clear HA
   simp only [impl_Part_linesOf.j0] at H
   replace H := sb H
   rcases H with ⟨rfl, H⟩ | ⟨rfl, H⟩
   ·
    simp only [Option.some.injEq, Prod.mk.injEq] at H
    obtain ⟨rfl, rfl⟩ := H
    go_wp2
    go_ret2
    exact ⟨_, er, nx, bb⟩
   ·
    replace H := nl H; obtain ⟨LMc10, H⟩ := H
    obtain ⟨y600, Ny600⟩ := nm (t596 ++ [(⟨#[]⟩ : ByteArray)])
    rw [← Ny600.out] at H
    (try rw [Option.bind_some] at H)
    replace H := bd H
    obtain ⟨⟨t603, t604⟩, A11, H⟩ := H
    (try dsimp only at H)
    replace H := sb H
    rcases H with ⟨rfl, H⟩ | ⟨rfl, H⟩
    ·
     have HC13 := ak H
     clear H
     go_upto_region 8 with (first | ((with_reducible refine gate_builtin (b := .append) (xs := #[.tmp 28, .tmp 29]) rfl ?_); (try (refine gate_guard (by rfl) ?_; dsimp only)); at_builtin; refine Kd.R_append Kd.string (w0 := w) w.heap.size rfl (.tmp 28) (.tmp 29) 23 9 (.string ⟨#[]⟩) 16 rfl Tryz.underlying23 info9 rfl (by decide) (by omega) v598 t596 (⟨#[]⟩ : ByteArray) [.string (⟨#[]⟩ : ByteArray)] (fun _ => True) (fun _ => False) rfl rfl ?aP (fun _ hk => hk.elim) ?aF ?aO ?aB ?aS ?aL ?_; (case aP => exact rfl); (case aB => exact bb); (case aF => exact (fun _ _ => trivial)); (case aO => exact (ur HO_6.out)); (case aS => exact (below_size bb)); (case aL => have := LMc10.out; omega); intro v601 w14 ho hb hg hat; rw [← Ny600.out] at ho; have n0_ := ak (blk_grown (g := gb595) (o := .cells #[.slice A0_0 l0_0.length c0_0, .slice A0_1 l0_1.length c0_1, .slice A0_2 l0_2.length c0_2] 28 (0, 0)) (ub BK595.out) hg (Kd.R_ne HO_6.out BK595.out (by decide))); have n1_ := ak (hb); have n2_ := ak (ho); clear BK595; clear HB; clear HO_6; have BK595 := n0_; have HB := n1_; have HO602 := n2_; clear n0_ n1_ n2_; clear ho hb hg hat; obtain ⟨hcz15_0, hcz15_1, hcz15_2, hfz15_0, hfz15_1, hfz15_2⟩ := cz3 BK595.out) | (refine gL 101 33 Tryz.func101 #[.agg #[.slice A0_0 l0_0.length c0_0, .slice A0_1 l0_1.length c0_1, .slice A0_2 l0_2.length c0_2]] ?_; (with_reducible refine (impl_Part_boundary.calls kj3 _ _ l0_0 _ _ l0_1 _ _ l0_2 t603 true _ ?side1 ?side2 ?side3 ?side4 ?side5 ?side6 ?side7 A11.out).mono ?_); (case side1 => repeat (first | exact (Kd.C_below HR0_0.out HB.out) | (with_reducible refine Kd.C_alloc ?_ _) | (with_reducible refine Kd.C_drewN ?_ _) | (with_reducible refine Kd.C_drew ?_))); (case side2 => exact HC0_0.out); (case side3 => repeat (first | exact (Kd.C_below HR0_1.out HB.out) | (with_reducible refine Kd.C_alloc ?_ _) | (with_reducible refine Kd.C_drewN ?_ _) | (with_reducible refine Kd.C_drew ?_))); (case side4 => exact HC0_1.out); (case side5 => repeat (first | exact (Kd.C_below HR0_2.out HB.out) | (with_reducible refine Kd.C_alloc ?_ _) | (with_reducible refine Kd.C_drewN ?_ _) | (with_reducible refine Kd.C_drew ?_))); (case side6 => exact HC0_2.out); (case side7 => first | exact HG.out | exact MaxOk.below HG.out bb | (repeat (first | exact HG.out | apply MaxOk.drewN | apply MaxOk.drew))); rintro e w16 ⟨rfl, hb⟩; refine ⟨_, rfl, ?_⟩; replace HO602 := rb HO602 hb; replace BK595 := kb BK595 hb; replace HB := ak (below_step bb hb); (try clear hb)))
     (try simp only [Act.put, l_a, l_b, l_c])
     go_cut [66] (fun v66 wc => ∃ (kq : Nat) (x66_12 : Bool), v66 = .bool x66_12 ∧ Aside0 (impl_Part_linesOf.j1 kq a1 y600 t603 x66_12 l0_0 l0_1 l0_2 = some (r1, r2)) ∧ Aside0 (kq ≤ kj3) ∧ Aside0 (Kd.R Kd.string 9 wc w.heap.size (fun _ => True) v601 y600) ∧ Aside0 (wc.heap[gb595]? = some (.cells #[(.slice A0_0 l0_0.length c0_0), (.slice A0_1 l0_1.length c0_1), (.slice A0_2 l0_2.length c0_2)] 28 (0, 0))) ∧ Aside0 (Below w.heap.size w wc))
     case first =>
      have H := HC13.out
      clear HC13
      replace H := sp H
      rcases H with ⟨c17, H⟩ | ⟨c17, H⟩
      ·
       have c17b0 : decide (0 < (l0_1.length : Int)) = true := decide_eq_true c17
       have c17b1 : decide (0 < l0_1.length) = true := decide_eq_true (by omega)
       clear c17
       (first | rw [c17b0] | (simp only [i64_w, i32_w]; rw [c17b0]) | skip)
       have H' := ak H; clear H
       obtain ⟨hcz18_0, hcz18_1, hcz18_2, hfz18_0, hfz18_1, hfz18_2⟩ := cz3 BK595.out
       go_wp2
       go_meet
       case rel => exact ⟨_, (true), rs, H', ⟨by have := HJ3.out; first | omega | exact Nat.le_refl _⟩, ⟨ur HO602.out⟩, ⟨ub BK595.out⟩, ⟨bb⟩⟩
      ·
       have c17b0 : decide (0 < (l0_1.length : Int)) = false := decide_eq_false c17
       have c17b1 : decide (0 < l0_1.length) = false := decide_eq_false (by omega)
       clear c17
       (first | rw [c17b0] | (simp only [i64_w, i32_w]; rw [c17b0]) | skip)
       replace H := sp H
       rcases H with ⟨c19, H⟩ | ⟨c19, H⟩
       ·
        have c19b0 := decide_eq_true c19
        have c19b1 : decide (l0_2.length < 1) = true := decide_eq_true (by omega)
        clear c19
        have H' := ak H; clear H
        obtain ⟨hcz20_0, hcz20_1, hcz20_2, hfz20_0, hfz20_1, hfz20_2⟩ := cz3 BK595.out
        go_wp2
        go_meet
        case rel => exact ⟨_, (true), rs, H', ⟨by have := HJ3.out; first | omega | exact Nat.le_refl _⟩, ⟨ur HO602.out⟩, ⟨ub BK595.out⟩, ⟨bb⟩⟩
       ·
        have c19b0 := decide_eq_false c19
        have c19b1 : decide (l0_2.length < 1) = false := decide_eq_false (by omega)
        clear c19
        have H' := ak H; clear H
        obtain ⟨hcz21_0, hcz21_1, hcz21_2, hfz21_0, hfz21_1, hfz21_2⟩ := cz3 BK595.out
        go_wp2
        go_meet
        case rel => exact ⟨_, (decide ((l0_2.length : Int) > 4)), rs, H', ⟨by have := HJ3.out; first | omega | exact Nat.le_refl _⟩, ⟨ur HO602.out⟩, ⟨ub BK595.out⟩, ⟨bb⟩⟩
     case rest =>
      clear HC13
      try clear c1
      try clear p2
      try clear c3
      try clear c6
      try clear c8
      try clear c9
      try clear c10
      try clear c12
      try clear c17
      try clear c17b0
      try clear c17b1
      try clear c19
      try clear c19b0
      try clear c19b1
      try clear hcz15_0
      try clear hcz15_1
      try clear hcz15_2
      try clear hcz18_0
      try clear hcz18_1
      try clear hcz18_2
      try clear hcz20_0
      try clear hcz20_1
      try clear hcz20_2
      try clear hcz21_0
      try clear hcz21_1
      try clear hcz21_2
      try clear hcz6_0
      try clear hcz6_1
      try clear hcz6_2
      try clear hfz15_0
      try clear hfz15_1
      try clear hfz15_2
      try clear hfz18_0
      try clear hfz18_1
      try clear hfz18_2
      try clear hfz20_0
      try clear hfz20_1
      try clear hfz20_2
      try clear hfz21_0
      try clear hfz21_1
      try clear hfz21_2
      try clear hfz6_0
      try clear hfz6_1
      try clear hfz6_2
      try clear p2
      obtain ⟨kq, x66_12, rfl, HA, HJ12, HO_6, BK595, HB⟩ := hcut
      cases kq with
      | zero => exact absurd HA.out (by simp [impl_Part_linesOf.j1])
      | succ kj12 =>
       have H := HA.out
       clear HA
       simp only [impl_Part_linesOf.j1] at H
       replace H := sb H
       rcases H with ⟨rfl, H⟩ | ⟨rfl, H⟩
       ·
        simp only [Option.some.injEq, Prod.mk.injEq] at H
        obtain ⟨rfl, rfl⟩ := H
        go_wp2
        go_ret2
        exact ⟨_, er, nx, bb⟩
       ·
        obtain ⟨y609, Ny609⟩ := nm ([] : List (List ByteArray))
        rw [← Ny609.out] at H
        (try rw [Option.bind_some] at H)
        have H' := ak H; clear H
        go_wp2_with (first | ((with_reducible refine gate_dst (N := 67) rfl ?_); (try (refine gate_guard (by rfl) ?_; dsimp only)); refine Kd.S_lit (Kd.slice 9 Kd.string) _ 23 ?hg (N := 67) ?hd (xs := ([] : List (List ByteArray))) (inner := []) (ok := fun _ => True) (okp := fun _ => True) ?hr ?hp (fun _ hk => hk) trivial (Below.refl _ _) (Nat.le_refl _) (by simp) ?_; (case hd => rfl); (case hg => rfl); (case hr => first | (go_simp; done) | (go_simp; rfl)); (case hp => exact (Reps.none _ _)); intro v610 w23 ho24 hb hg_ hnew_; clear hg_ hnew_; (first | rw [← Ny609.out] at ho24 | (simp only [Int.reduceToNat] at ho24; rw [← Ny609.out] at ho24)); have HO611 := ak (Kd.S_lower (Kd.S_new' ho24 (Kd.R_lt (ur HO_6.out))) (below_size bb)); replace HO_6 := rb HO_6 hb; replace BK595 := kb BK595 hb; replace HB := ak (below_step bb hb); clear hb ho24; obtain ⟨hcz25_0, hcz25_1, hcz25_2, hfz25_0, hfz25_1, hfz25_2⟩ := cz3 BK595.out))
        go_loopg [10, 71] kj12 (fun kq v10 v71 w' => ∃ (x10_3 : List (List ByteArray)) (x71_3 : Int), v71 = .int .i64 x71_3 ∧ Aside0 (impl_Part_linesOf.l0 kq a1 y600 t603 x10_3 l0_2 (l0_2.length : Int) x71_3 = some (r1, r2)) ∧ Aside0 (kq ≤ kj12) ∧ Aside0 (Kd.R Kd.string 9 w' w.heap.size (fun _ => True) v601 y600) ∧ Aside0 (Kd.S (Kd.slice 9 Kd.string) 23 w' w.heap.size (fun k_ => some k_ ≠ (v601 : Value).ownBlock) v10 x10_3) ∧ Aside0 (w'.heap[gb595]? = some (.cells #[(.slice A0_0 l0_0.length c0_0), (.slice A0_1 l0_1.length c0_1), (.slice A0_2 l0_2.length c0_2)] 28 (0, 0))) ∧ Aside0 (Below w.heap.size w w'))
        case atStart => exact ⟨(y609), (0), rs, H', ⟨Nat.le_refl _⟩, ⟨ur HO_6.out⟩, ⟨by (with_reducible repeat (first | apply Kd.S_alloc | apply Kd.S_drewN | apply Kd.S_drew)); exact Kd.S_mono HO611.out (fun _ hk => hk.2)⟩, ⟨ub BK595.out⟩, ⟨bb⟩⟩
        case round =>
         clear H'
         try clear c1
         try clear c2
         try clear p2
         try clear c3
         try clear c6
         try clear c8
         try clear c9
         try clear c10
         try clear c12
         try clear c17
         try clear c17b0
         try clear c17b1
         try clear c19
         try clear c19b0
         try clear c19b1
         try clear c22
         try clear hcz15_0
         try clear hcz15_1
         try clear hcz15_2
         try clear hcz18_0
         try clear hcz18_1
         try clear hcz18_2
         try clear hcz20_0
         try clear hcz20_1
         try clear hcz20_2
         try clear hcz21_0
         try clear hcz21_1
         try clear hcz21_2
         try clear hcz25_0
         try clear hcz25_1
         try clear hcz25_2
         try clear hcz6_0
         try clear hcz6_1
         try clear hcz6_2
         try clear hfz15_0
         try clear hfz15_1
         try clear hfz15_2
         try clear hfz18_0
         try clear hfz18_1
         try clear hfz18_2
         try clear hfz20_0
         try clear hfz20_1
         try clear hfz20_2
         try clear hfz21_0
         try clear hfz21_1
         try clear hfz21_2
         try clear hfz25_0
         try clear hfz25_1
         try clear hfz25_2
         try clear hfz6_0
         try clear hfz6_1
         try clear hfz6_2
         try clear p2
         obtain ⟨x10_3, x71_3, rfl, HA, HK3, HO_6, HO_10, BK595, HB⟩ := hrel
         cases gk with
         | zero => exact absurd HA.out (by simp [impl_Part_linesOf.l0])
         | succ k3 =>
          have H := HA.out
          clear HA
          simp only [impl_Part_linesOf.l0] at H
          replace H := sd H
          rcases H with ⟨c26b0, H⟩ | ⟨c26b0, H⟩
          ·
           replace H := nde H; obtain ⟨c27b0, H⟩ := H; replace H := nde H; obtain ⟨c28b0, H⟩ := H; replace H := bd H
           obtain ⟨⟨t614, t617⟩, A29, H⟩ := H
           (try dsimp only at H)
           replace H := sb H
           rcases H with ⟨rfl, H⟩ | ⟨rfl, H⟩
           ·
            replace H := nl H; obtain ⟨LMc31, H⟩ := H
            obtain ⟨y618, Ny618⟩ := nm (x10_3 ++ [t614])
            rw [← Ny618.out] at H
            (try rw [Option.bind_some] at H)
            have H' := ak H; clear H
            have p612 := zi x71_3
            have q612 := zj x71_3 l0_2.length
            obtain ⟨ad612, A612_0, c612_0, A612_1, c612_1, A612_2, c612_2, e612, hx612_0, hx612_1, hx612_2, hl612_0, hi612_0, hl612_1, hi612_1, hl612_2, hi612_2⟩ := at_T28 HR0_2.out x71_3 p612 q612
            cases e612
            replace hx612_0 := cl HB.out hx612_0
            replace hx612_1 := cl HB.out hx612_1
            replace hx612_2 := cl HB.out hx612_2
            have HR612_0 := ak hi612_0
            have HC612_0 := ak hl612_0
            clear hi612_0 hl612_0
            have HR612_1 := ak hi612_1
            have HC612_1 := ak hl612_1
            clear hi612_1 hl612_1
            have HR612_2 := ak hi612_2
            have HC612_2 := ak hl612_2
            clear hi612_2 hl612_2
            replace p612 := eq_true p612
            replace q612 := eq_true q612
            go_wp2_with (first | (refine gate_dst (N := 12) rfl ?_; (try (refine gate_guard (by rfl) ?_; dsimp only)); refine bE 12 #[.slice none 0 0, .slice none 0 0, .slice none 0 0] 28 ?_; intro gb613 hg w32 hbox hb; have BK613 := ak (hbox); have GW613 := ak ((by rw [hg]; exact (below_size bb) : w.heap.size ≤ gb613)); have GE613 := ak ((by rw [hg]; exact (below_size bb) : w.heap.size ≤ gb613)); have NB595_613 := ak ((by rw [hg]; exact Nat.ne_of_lt (blk_lt (ub BK595.out)) : gb595 ≠ gb613)); have NB613_595 := ak ((by rw [hg]; exact Nat.ne_of_gt (blk_lt (ub BK595.out)) : gb613 ≠ gb595)); replace HO_6 := rb HO_6 hb; replace HO_10 := ak (Kd.S_below (by (with_reducible repeat (first | apply Kd.S_alloc | apply Kd.S_drewN | apply Kd.S_drew)); exact HO_10.out) hb); replace BK595 := kb BK595 hb; replace HB := ak (below_step bb hb); clear hb hbox hg; have hnb33 := NB613_595.out; have hnc33 := NB595_613.out; obtain ⟨hcz34_0, hcz34_1, hcz34_2, hfz34_0, hfz34_1, hfz34_2⟩ := cz3 BK613.out) | (refine gL 66 79 Tryz.func66 #[.agg #[.slice A612_0 ((rd_T28 l0_2 x71_3).f0).length c612_0, .slice A612_1 ((rd_T28 l0_2 x71_3).f1).length c612_1, .slice A612_2 ((rd_T28 l0_2 x71_3).f2).length c612_2], .int .i64 (wrap64 (a1 - 1))] ?_; (with_reducible refine (ih k3 (by have := HJ3.out; have := HJ12.out; have := HK3.out; omega) _ _ ((rd_T28 l0_2 x71_3).f0) _ _ ((rd_T28 l0_2 x71_3).f1) _ _ ((rd_T28 l0_2 x71_3).f2) (wrap64 (a1 - 1)) t614 true _ ?side1 ?side2 ?side3 ?side4 ?side5 ?side6 ?side7 A29.out).mono ?_); (case side1 => exact Kd.C_below HR612_0.out bb); (case side2 => exact HC612_0.out); (case side3 => exact Kd.C_below HR612_1.out bb); (case side4 => exact HC612_1.out); (case side5 => exact Kd.C_below HR612_2.out bb); (case side6 => exact HC612_2.out); (case side7 => first | exact HG.out | exact MaxOk.below HG.out bb | (repeat (first | exact HG.out | apply MaxOk.drewN | apply MaxOk.drew))); rintro e w35 ⟨v615, rfl, ho0, hb⟩; refine ⟨_, rfl, ?_⟩; have HO616 := ak (Kd.R_lower (Kd.R_new' ho0 (Kd.R_lt (ur (Kd.R_mono (Kd.R_far (p := ⟨gb613, 2, none⟩) (Kd.R_far (p := ⟨gb613, 1, none⟩) (Kd.R_far (p := ⟨gb613, 0, none⟩) (Kd.R_types HO_6.out BK613.out (by decide)) (fun _ hk => hk.2) (.slice A612_0 ((rd_T28 l0_2 x71_3).f0).length c612_0)) (fun _ hk => hk.2) (.slice A612_1 ((rd_T28 l0_2 x71_3).f1).length c612_1)) (fun _ hk => hk.2) (.slice A612_2 ((rd_T28 l0_2 x71_3).f2).length c612_2)) (fun _ h_ => h_.1))))) (below_size bb)); replace HO_6 := ak (Kd.R_elder' (ur (Kd.R_mono (Kd.R_far (p := ⟨gb613, 2, none⟩) (Kd.R_far (p := ⟨gb613, 1, none⟩) (Kd.R_far (p := ⟨gb613, 0, none⟩) (Kd.R_types HO_6.out BK613.out (by decide)) (fun _ hk => hk.2) (.slice A612_0 ((rd_T28 l0_2 x71_3).f0).length c612_0)) (fun _ hk => hk.2) (.slice A612_1 ((rd_T28 l0_2 x71_3).f1).length c612_1)) (fun _ hk => hk.2) (.slice A612_2 ((rd_T28 l0_2 x71_3).f2).length c612_2)) (fun _ h_ => h_.1))) (Kd.R_base ho0) hb); replace HO_10 := ak (Kd.S_elder' (by (with_reducible repeat (first | apply Kd.S_alloc | apply Kd.S_drewN | apply Kd.S_drew)); exact (Kd.S_mono (Kd.S_far (p := ⟨gb613, 2, none⟩) (Kd.S_far (p := ⟨gb613, 1, none⟩) (Kd.S_far (p := ⟨gb613, 0, none⟩) (Kd.S_types HO_10.out BK613.out (by decide)) (fun _ hk => hk.2) (.slice A612_0 ((rd_T28 l0_2 x71_3).f0).length c612_0)) (fun _ hk => hk.2) (.slice A612_1 ((rd_T28 l0_2 x71_3).f1).length c612_1)) (fun _ hk => hk.2) (.slice A612_2 ((rd_T28 l0_2 x71_3).f2).length c612_2)) (fun _ h_ => h_.1))) (Kd.R_base ho0) hb); replace BK595 := ak (blk_below (g := gb595) (o := .cells #[.slice A0_0 l0_0.length c0_0, .slice A0_1 l0_1.length c0_1, .slice (some ad612) l0_2.length c0_2] 28 (0, 0)) (by (with_reducible repeat (first | refine blk_drewN ?_ _ | refine blk_drew ?_ | refine blk_alloc ?_ _)); refine blk_far ?_ NB595_613.out _; (with_reducible repeat (first | refine blk_drewN ?_ _ | refine blk_drew ?_ | refine blk_alloc ?_ _)); refine blk_far ?_ NB595_613.out _; (with_reducible repeat (first | refine blk_drewN ?_ _ | refine blk_drew ?_ | refine blk_alloc ?_ _)); refine blk_far ?_ NB595_613.out _; (with_reducible repeat (first | refine blk_drewN ?_ _ | refine blk_drew ?_ | refine blk_alloc ?_ _)); exact BK595.out) hb); replace BK613 := ak (blk_below (g := gb613) (o := .cells #[.slice A612_0 ((rd_T28 l0_2 x71_3).f0).length c612_0, .slice A612_1 ((rd_T28 l0_2 x71_3).f1).length c612_1, .slice A612_2 ((rd_T28 l0_2 x71_3).f2).length c612_2] 28 (0, 0)) (by (with_reducible repeat (first | refine blk_drewN ?_ _ | refine blk_drew ?_ | refine blk_alloc ?_ _)); refine blk_put (cs := #[.slice A612_0 ((rd_T28 l0_2 x71_3).f0).length c612_0, .slice A612_1 ((rd_T28 l0_2 x71_3).f1).length c612_1, .slice none 0 0]) ?_ 2 _ rfl; (with_reducible repeat (first | refine blk_drewN ?_ _ | refine blk_drew ?_ | refine blk_alloc ?_ _)); refine blk_put (cs := #[.slice A612_0 ((rd_T28 l0_2 x71_3).f0).length c612_0, .slice none 0 0, .slice none 0 0]) ?_ 1 _ rfl; (with_reducible repeat (first | refine blk_drewN ?_ _ | refine blk_drew ?_ | refine blk_alloc ?_ _)); refine blk_put (cs := #[.slice none 0 0, .slice none 0 0, .slice none 0 0]) ?_ 0 _ rfl; (with_reducible repeat (first | refine blk_drewN ?_ _ | refine blk_drew ?_ | refine blk_alloc ?_ _)); exact BK613.out) hb); replace HB := ak (below_step bb hb); (try clear hb); (try clear ho0); obtain ⟨Ao37, co37, eo37⟩ := Kd.R_slice HO616.out; subst eo37) | ((with_reducible refine gate_builtin (b := .append) (xs := #[.tmp 84, .tmp 86]) rfl ?_); (try (refine gate_guard (by rfl) ?_; dsimp only)); at_builtin; refine Kd.S_append (Kd.slice 9 Kd.string) (w0 := w) w.heap.size rfl (.tmp 84) (.tmp 86) 65 23 (.slice none 0 0) 24 rfl Tryz.underlying65 info23 rfl (by decide) (by omega) u10 x10_3 t614 [.slice Ao37 t614.length co37] (fun k_ => some k_ ≠ (v601 : Value).ownBlock) (fun k_ => some k_ = (.slice Ao37 t614.length co37 : Value).ownBlock) rfl rfl ?aP (fun k_ hk_ => ((Kd.R_mono (ok' := fun k_ => ((fun k_ => some k_ ≠ (v601 : Value).ownBlock)) k_ ∧ some k_ ≠ (u10 : Value).ownBlock) (Kd.R_apart' (HO616.out) (Kd.S_typed HO_10.out) (by decide)) (fun k_ hk => ⟨hk.1.2, hk.2⟩))).1 k_ hk_.symm) ?aF ?aO ?aB ?aS ?aL ?_; (case aP => exact Kd.M_row (Kd.R_mono (Kd.R_tight rfl (Kd.R_mono (ok' := fun k_ => ((fun k_ => some k_ ≠ (v601 : Value).ownBlock)) k_ ∧ some k_ ≠ (u10 : Value).ownBlock) (Kd.R_apart' (HO616.out) (Kd.S_typed HO_10.out) (by decide)) (fun k_ hk => ⟨hk.1.2, hk.2⟩))) (fun _ h_ => h_))); (case aB => exact bb); (case aF => exact (fun k_ hk => Kd.fresh' (Kd.R_lt (ur HO_6.out)) k_ hk)); (case aO => exact (by (with_reducible repeat (first | apply Kd.S_alloc | apply Kd.S_drewN | apply Kd.S_drew)); exact Kd.S_mono HO_10.out (fun k_ hk => ⟨hk.1, fun e_ => hk.2 e_⟩))); (case aS => exact (below_size bb)); (case aL => have := LMc31.out; omega); intro v619 w36 ho hb hg hat; rw [← Ny618.out] at ho; have n0_ := ak (Kd.R_over' (ur HO_6.out) (Kd.S_typed (by (with_reducible repeat (first | apply Kd.S_alloc | apply Kd.S_drewN | apply Kd.S_drew)); exact HO_10.out)) (by decide) hg); have n1_ := ak (blk_grown (g := gb595) (o := .cells #[.slice A0_0 l0_0.length c0_0, .slice A0_1 l0_1.length c0_1, .slice (some ad612) l0_2.length c0_2] 28 (0, 0)) (ub BK595.out) hg (Kd.S_ne HO_10.out BK595.out (by decide))); have n2_ := ak (blk_grown (g := gb613) (o := .cells #[.slice A612_0 ((rd_T28 l0_2 x71_3).f0).length c612_0, .slice A612_1 ((rd_T28 l0_2 x71_3).f1).length c612_1, .slice A612_2 ((rd_T28 l0_2 x71_3).f2).length c612_2] 28 (0, 0)) (ub BK613.out) hg (Kd.S_ne HO_10.out BK613.out (by decide))); have n3_ := ak (hb); have n4_ := ak (ho); clear HO_6; clear BK595; clear BK613; clear HB; clear HO_10; clear HO616; have HO_6 := n0_; have BK595 := n1_; have BK613 := n2_; have HB := n3_; have HO620 := n4_; clear n0_ n1_ n2_ n3_ n4_; clear ho hb hg hat))
            go_roundg k3
            case measure => have := HJ3.out; have := HJ12.out; have := HK3.out; omega
            case rel => exact ⟨(y618), (wrap64 (x71_3 + 1)), rs, H', ⟨by have := HJ3.out; have := HJ12.out; have := HK3.out; omega⟩, ⟨ur (Kd.R_mono HO_6.out (fun _ hk => trivial))⟩, ⟨by (with_reducible repeat (first | apply Kd.S_alloc | apply Kd.S_drewN | apply Kd.S_drew)); exact HO620.out⟩, ⟨ub BK595.out⟩, ⟨bb⟩⟩
           ·
            simp only [Option.some.injEq, Prod.mk.injEq] at H
            obtain ⟨rfl, rfl⟩ := H
            have p612 := zi x71_3
            have q612 := zj x71_3 l0_2.length
            obtain ⟨ad612, A612_0, c612_0, A612_1, c612_1, A612_2, c612_2, e612, hx612_0, hx612_1, hx612_2, hl612_0, hi612_0, hl612_1, hi612_1, hl612_2, hi612_2⟩ := at_T28 HR0_2.out x71_3 p612 q612
            cases e612
            replace hx612_0 := cl HB.out hx612_0
            replace hx612_1 := cl HB.out hx612_1
            replace hx612_2 := cl HB.out hx612_2
            have HR612_0 := ak hi612_0
            have HC612_0 := ak hl612_0
            clear hi612_0 hl612_0
            have HR612_1 := ak hi612_1
            have HC612_1 := ak hl612_1
            clear hi612_1 hl612_1
            have HR612_2 := ak hi612_2
            have HC612_2 := ak hl612_2
            clear hi612_2 hl612_2
            replace p612 := eq_true p612
            replace q612 := eq_true q612
            go_wp2_with (first | (refine gate_dst (N := 12) rfl ?_; (try (refine gate_guard (by rfl) ?_; dsimp only)); refine bE 12 #[.slice none 0 0, .slice none 0 0, .slice none 0 0] 28 ?_; intro gb613 hg w38 hbox hb; have BK613 := ak (hbox); have GW613 := ak ((by rw [hg]; exact (below_size bb) : w.heap.size ≤ gb613)); have GE613 := ak ((by rw [hg]; exact (below_size bb) : w.heap.size ≤ gb613)); have NB595_613 := ak ((by rw [hg]; exact Nat.ne_of_lt (blk_lt (ub BK595.out)) : gb595 ≠ gb613)); have NB613_595 := ak ((by rw [hg]; exact Nat.ne_of_gt (blk_lt (ub BK595.out)) : gb613 ≠ gb595)); replace HO_6 := rb HO_6 hb; replace HO_10 := ak (Kd.S_below (by (with_reducible repeat (first | apply Kd.S_alloc | apply Kd.S_drewN | apply Kd.S_drew)); exact HO_10.out) hb); replace BK595 := kb BK595 hb; replace HB := ak (below_step bb hb); clear hb hbox hg; have hnb39 := NB613_595.out; have hnc39 := NB595_613.out; obtain ⟨hcz40_0, hcz40_1, hcz40_2, hfz40_0, hfz40_1, hfz40_2⟩ := cz3 BK613.out) | (refine gL 66 79 Tryz.func66 #[.agg #[.slice A612_0 ((rd_T28 l0_2 x71_3).f0).length c612_0, .slice A612_1 ((rd_T28 l0_2 x71_3).f1).length c612_1, .slice A612_2 ((rd_T28 l0_2 x71_3).f2).length c612_2], .int .i64 (wrap64 (a1 - 1))] ?_; (with_reducible refine (ih k3 (by have := HJ3.out; have := HJ12.out; have := HK3.out; omega) _ _ ((rd_T28 l0_2 x71_3).f0) _ _ ((rd_T28 l0_2 x71_3).f1) _ _ ((rd_T28 l0_2 x71_3).f2) (wrap64 (a1 - 1)) t614 false _ ?side1 ?side2 ?side3 ?side4 ?side5 ?side6 ?side7 A29.out).mono ?_); (case side1 => exact Kd.C_below HR612_0.out bb); (case side2 => exact HC612_0.out); (case side3 => exact Kd.C_below HR612_1.out bb); (case side4 => exact HC612_1.out); (case side5 => exact Kd.C_below HR612_2.out bb); (case side6 => exact HC612_2.out); (case side7 => first | exact HG.out | exact MaxOk.below HG.out bb | (repeat (first | exact HG.out | apply MaxOk.drewN | apply MaxOk.drew))); rintro e w41 ⟨v615, rfl, ho0, hb⟩; refine ⟨_, rfl, ?_⟩; have HO616 := ak (Kd.R_lower (Kd.R_new' ho0 (Kd.R_lt (ur (Kd.R_mono (Kd.R_far (p := ⟨gb613, 2, none⟩) (Kd.R_far (p := ⟨gb613, 1, none⟩) (Kd.R_far (p := ⟨gb613, 0, none⟩) (Kd.R_types HO_6.out BK613.out (by decide)) (fun _ hk => hk.2) (.slice A612_0 ((rd_T28 l0_2 x71_3).f0).length c612_0)) (fun _ hk => hk.2) (.slice A612_1 ((rd_T28 l0_2 x71_3).f1).length c612_1)) (fun _ hk => hk.2) (.slice A612_2 ((rd_T28 l0_2 x71_3).f2).length c612_2)) (fun _ h_ => h_.1))))) (below_size bb)); replace HO_6 := ak (Kd.R_elder' (ur (Kd.R_mono (Kd.R_far (p := ⟨gb613, 2, none⟩) (Kd.R_far (p := ⟨gb613, 1, none⟩) (Kd.R_far (p := ⟨gb613, 0, none⟩) (Kd.R_types HO_6.out BK613.out (by decide)) (fun _ hk => hk.2) (.slice A612_0 ((rd_T28 l0_2 x71_3).f0).length c612_0)) (fun _ hk => hk.2) (.slice A612_1 ((rd_T28 l0_2 x71_3).f1).length c612_1)) (fun _ hk => hk.2) (.slice A612_2 ((rd_T28 l0_2 x71_3).f2).length c612_2)) (fun _ h_ => h_.1))) (Kd.R_base ho0) hb); replace HO_10 := ak (Kd.S_elder' (by (with_reducible repeat (first | apply Kd.S_alloc | apply Kd.S_drewN | apply Kd.S_drew)); exact (Kd.S_mono (Kd.S_far (p := ⟨gb613, 2, none⟩) (Kd.S_far (p := ⟨gb613, 1, none⟩) (Kd.S_far (p := ⟨gb613, 0, none⟩) (Kd.S_types HO_10.out BK613.out (by decide)) (fun _ hk => hk.2) (.slice A612_0 ((rd_T28 l0_2 x71_3).f0).length c612_0)) (fun _ hk => hk.2) (.slice A612_1 ((rd_T28 l0_2 x71_3).f1).length c612_1)) (fun _ hk => hk.2) (.slice A612_2 ((rd_T28 l0_2 x71_3).f2).length c612_2)) (fun _ h_ => h_.1))) (Kd.R_base ho0) hb); replace BK595 := ak (blk_below (g := gb595) (o := .cells #[.slice A0_0 l0_0.length c0_0, .slice A0_1 l0_1.length c0_1, .slice (some ad612) l0_2.length c0_2] 28 (0, 0)) (by (with_reducible repeat (first | refine blk_drewN ?_ _ | refine blk_drew ?_ | refine blk_alloc ?_ _)); refine blk_far ?_ NB595_613.out _; (with_reducible repeat (first | refine blk_drewN ?_ _ | refine blk_drew ?_ | refine blk_alloc ?_ _)); refine blk_far ?_ NB595_613.out _; (with_reducible repeat (first | refine blk_drewN ?_ _ | refine blk_drew ?_ | refine blk_alloc ?_ _)); refine blk_far ?_ NB595_613.out _; (with_reducible repeat (first | refine blk_drewN ?_ _ | refine blk_drew ?_ | refine blk_alloc ?_ _)); exact BK595.out) hb); replace BK613 := ak (blk_below (g := gb613) (o := .cells #[.slice A612_0 ((rd_T28 l0_2 x71_3).f0).length c612_0, .slice A612_1 ((rd_T28 l0_2 x71_3).f1).length c612_1, .slice A612_2 ((rd_T28 l0_2 x71_3).f2).length c612_2] 28 (0, 0)) (by (with_reducible repeat (first | refine blk_drewN ?_ _ | refine blk_drew ?_ | refine blk_alloc ?_ _)); refine blk_put (cs := #[.slice A612_0 ((rd_T28 l0_2 x71_3).f0).length c612_0, .slice A612_1 ((rd_T28 l0_2 x71_3).f1).length c612_1, .slice none 0 0]) ?_ 2 _ rfl; (with_reducible repeat (first | refine blk_drewN ?_ _ | refine blk_drew ?_ | refine blk_alloc ?_ _)); refine blk_put (cs := #[.slice A612_0 ((rd_T28 l0_2 x71_3).f0).length c612_0, .slice none 0 0, .slice none 0 0]) ?_ 1 _ rfl; (with_reducible repeat (first | refine blk_drewN ?_ _ | refine blk_drew ?_ | refine blk_alloc ?_ _)); refine blk_put (cs := #[.slice none 0 0, .slice none 0 0, .slice none 0 0]) ?_ 0 _ rfl; (with_reducible repeat (first | refine blk_drewN ?_ _ | refine blk_drew ?_ | refine blk_alloc ?_ _)); exact BK613.out) hb); replace HB := ak (below_step bb hb); (try clear hb); (try clear ho0)))
            go_ret2
            exact ⟨_, er, nx, bb⟩
          ·
           replace H := bd H
           obtain ⟨⟨t621, t622⟩, A42, H⟩ := H
           (try dsimp only at H)
           replace H := nl H; obtain ⟨LMc43, H⟩ := H
           obtain ⟨y625, Ny625⟩ := nm (y600 ++ t621)
           rw [← Ny625.out] at H
           (try rw [Option.bind_some] at H)
           simp only [Option.some.injEq, Prod.mk.injEq] at H
           obtain ⟨rfl, rfl⟩ := H
           obtain ⟨Ao44, co44, eo44⟩ := Kd.S_slice HO_10.out
           subst eo44
           go_wp2_with (first | (refine gL 106 92 Tryz.func106 #[.slice Ao44 x10_3.length co44, .string t603] ?_; (with_reducible refine (impl_JoinParts.calls k3 _ _ x10_3 t603 t621 t622 _ (cu ((Kd.S_reads' HO_10.out).2.2)) ((Kd.S_reads' HO_10.out).2.1) A42.out).mono ?_); rintro e w45 ⟨v623, rfl, ho0, hb⟩; refine ⟨_, rfl, ?_⟩; have HO624 := ak (Kd.R_lower (Kd.R_new' ho0 (Kd.R_lt (ur HO_6.out))) (below_size bb)); replace HO_6 := ak (Kd.R_elder' (ur HO_6.out) (Kd.R_base ho0) hb); replace HO_10 := ak (Kd.S_elder' (by (with_reducible repeat (first | apply Kd.S_alloc | apply Kd.S_drewN | apply Kd.S_drew)); exact HO_10.out) (Kd.R_base ho0) hb); replace BK595 := kb BK595 hb; replace HB := ak (below_step bb hb); (try clear hb); (try clear ho0); obtain ⟨Ao47, co47, eo47⟩ := Kd.R_slice HO624.out; subst eo47) | ((with_reducible refine gate_builtin (b := .append) (xs := #[.tmp 95, .tmp 96]) rfl ?_); (try (refine gate_guard (by rfl) ?_; dsimp only)); at_builtin; refine Kd.R_append_rows Kd.string (w0 := w) w.heap.size rfl (.tmp 95) (.tmp 96) 23 9 (.string ⟨#[]⟩) 16 rfl Tryz.underlying23 info9 rfl (by decide) (by omega) v601 y600 t621 _ _ _ (fun k_ => some k_ ≠ (.slice Ao47 t621.length co47 : Value).ownBlock) (fun _ => False) rfl rfl ?aO ?aR (fun _ _ h => h) (fun _ h => h.elim) ?aF ?aB ?aS ?aL ?_; (case aR => repeat (first | exact (Kd.R_reads' HO624.out).2.2 | (with_reducible refine Kd.C_alloc ?_ _) | (with_reducible refine Kd.C_drewN ?_ _) | (with_reducible refine Kd.C_drew ?_))); (case aB => exact bb); (case aF => exact (fun k_ hk => Kd.fresh' (Kd.R_lt (ur HO624.out)) k_ hk)); (case aO => exact (ur (Kd.R_mono HO_6.out (fun _ hk => hk.2)))); (case aS => exact (below_size bb)); (case aL => have := LMc43.out; omega); intro v626 w46 ho hb hg hat; rw [← Ny625.out] at ho; have n0_ := ak (Kd.S_after (ok := (fun k_ => some k_ ≠ (.slice Ao47 t621.length co47 : Value).ownBlock)) (by (with_reducible repeat (first | apply Kd.S_alloc | apply Kd.S_drewN | apply Kd.S_drew)); exact Kd.S_mono HO_10.out (fun _ hk => ⟨hk.2, hk.1⟩)) hg hat); have n1_ := ak (blk_grown (g := gb595) (o := .cells #[.slice A0_0 l0_0.length c0_0, .slice A0_1 l0_1.length c0_1, .slice A0_2 l0_2.length c0_2] 28 (0, 0)) (ub BK595.out) hg (Kd.R_ne HO_6.out BK595.out (by decide))); have n2_ := ak (Kd.R_after (ok := (fun _ => True)) (ur HO624.out) hg hat); have n3_ := ak (hb); have n4_ := ak (ho); clear HO_10; clear BK595; clear HO624; clear HB; clear HO_6; have HO_10 := n0_; have BK595 := n1_; have HO624 := n2_; have HB := n3_; have HO627 := n4_; clear n0_ n1_ n2_ n3_ n4_; clear ho hb hg hat))
           go_ret2
           exact ⟨_, er, ur (Kd.R_mono HO627.out (fun _ hk => trivial)), bb⟩
    ·
     replace H := nl H; obtain ⟨LMc48, H⟩ := H
     obtain ⟨y605, Ny605⟩ := nm (y600 ++ l0_1)
     rw [← Ny605.out] at H
     (try rw [Option.bind_some] at H)
     replace H := sp H
     rcases H with ⟨c49, H⟩ | ⟨c49, H⟩
     ·
      have c49b0 := beq_iff_eq.mpr c49
      have c49b1 := bne_eq_false_iff_eq.mpr c49
      clear c49
      replace H := bd H; obtain ⟨t608, A50, H⟩ := H
      simp only [Option.some.injEq, Prod.mk.injEq] at H
      obtain ⟨rfl, rfl⟩ := H
      try go_wp2_with (first | ((with_reducible refine gate_builtin (b := .append) (xs := #[.tmp 28, .tmp 29]) rfl ?_); (try (refine gate_guard (by rfl) ?_; dsimp only)); at_builtin; refine Kd.R_append Kd.string (w0 := w) w.heap.size rfl (.tmp 28) (.tmp 29) 23 9 (.string ⟨#[]⟩) 16 rfl Tryz.underlying23 info9 rfl (by decide) (by omega) v598 t596 (⟨#[]⟩ : ByteArray) [.string (⟨#[]⟩ : ByteArray)] (fun _ => True) (fun _ => False) rfl rfl ?aP (fun _ hk => hk.elim) ?aF ?aO ?aB ?aS ?aL ?_; (case aP => exact rfl); (case aB => exact bb); (case aF => exact (fun _ _ => trivial)); (case aO => exact (ur HO_6.out)); (case aS => exact (below_size bb)); (case aL => have := LMc10.out; omega); intro v601 w51 ho hb hg hat; rw [← Ny600.out] at ho; have n0_ := ak (blk_grown (g := gb595) (o := .cells #[.slice A0_0 l0_0.length c0_0, .slice A0_1 l0_1.length c0_1, .slice A0_2 l0_2.length c0_2] 28 (0, 0)) (ub BK595.out) hg (Kd.R_ne HO_6.out BK595.out (by decide))); have n1_ := ak (hb); have n2_ := ak (ho); clear BK595; clear HB; clear HO_6; have BK595 := n0_; have HB := n1_; have HO602 := n2_; clear n0_ n1_ n2_; clear ho hb hg hat; obtain ⟨hcz52_0, hcz52_1, hcz52_2, hfz52_0, hfz52_1, hfz52_2⟩ := cz3 BK595.out) | (refine gL 101 33 Tryz.func101 #[.agg #[.slice A0_0 l0_0.length c0_0, .slice A0_1 l0_1.length c0_1, .slice A0_2 l0_2.length c0_2]] ?_; (with_reducible refine (impl_Part_boundary.calls kj3 _ _ l0_0 _ _ l0_1 _ _ l0_2 t603 false _ ?side1 ?side2 ?side3 ?side4 ?side5 ?side6 ?side7 A11.out).mono ?_); (case side1 => repeat (first | exact (Kd.C_below HR0_0.out HB.out) | (with_reducible refine Kd.C_alloc ?_ _) | (with_reducible refine Kd.C_drewN ?_ _) | (with_reducible refine Kd.C_drew ?_))); (case side2 => exact HC0_0.out); (case side3 => repeat (first | exact (Kd.C_below HR0_1.out HB.out) | (with_reducible refine Kd.C_alloc ?_ _) | (with_reducible refine Kd.C_drewN ?_ _) | (with_reducible refine Kd.C_drew ?_))); (case side4 => exact HC0_1.out); (case side5 => repeat (first | exact (Kd.C_below HR0_2.out HB.out) | (with_reducible refine Kd.C_alloc ?_ _) | (with_reducible refine Kd.C_drewN ?_ _) | (with_reducible refine Kd.C_drew ?_))); (case side6 => exact HC0_2.out); (case side7 => first | exact HG.out | exact MaxOk.below HG.out bb | (repeat (first | exact HG.out | apply MaxOk.drewN | apply MaxOk.drew))); rintro e w53 ⟨rfl, hb⟩; refine ⟨_, rfl, ?_⟩; replace HO602 := rb HO602 hb; replace BK595 := kb BK595 hb; replace HB := ak (below_step bb hb); (try clear hb)))
      replace HO602 := ak (Kd.R_drew HO602.out)
      replace BK595 := ak (blk_drew BK595.out)
      replace HB := ak (below_drew1 HB.out)
      refine ro [3, 11] [0, 1, 4, 2, 5, 6, 7, 3, 8, 9, 10, 11, 12, 13, 14] (fun w' => w'.cell? ⟨gb595, 0, none⟩ = some (.slice A0_0 l0_0.length c0_0) ∧ w'.cell? ⟨gb595, 1, none⟩ = some (.slice A0_1 l0_1.length c0_1) ∧ w'.cell? ⟨gb595, 2, none⟩ = some (.slice A0_2 l0_2.length c0_2)) ⟨(blk_cell BK595.out 0).trans rfl, (blk_cell BK595.out 1).trans rfl, (blk_cell BK595.out 2).trans rfl⟩ ?_
      generalize w53.drew = w54 at HO602 BK595 HB ⊢
      repeat (refine lk (v := ?_) (a' := ?_) (gk.trans rfl) rfl rfl ?_ ?_ ?_; rotate_left; (focus (rintro w' ⟨s0, s1, s2⟩; go_simp; with_reducible rfl)); rotate_left; (focus (simp only [Act.put, l_a, l_b, l_c, i64_w, i32_w]; rfl)))
      refine ld (N := some 41) (gk.trans rfl) rfl rfl (fun K hK => ?_)
      refine Kd.R_append_rows_step Kd.string (w0 := w) w.heap.size (by rfl) (.tmp 38) (.tmp 40) 23 9 (.string ⟨#[]⟩) 16 rfl Tryz.underlying23 info9 rfl (by decide) (by omega) v601 y600 l0_1 _ _ _ (fun _ => True) (fun _ => False) rfl rfl ?aO ?aR (fun _ _ h => h) (fun _ h => h.elim) ?aF ?aB ?aS ?aL ?_
      (case aR => repeat (first | exact (Kd.C_below HR0_1.out HB.out) | (with_reducible refine Kd.C_alloc ?_ _) | (with_reducible refine Kd.C_drewN ?_ _) | (with_reducible refine Kd.C_drew ?_)))
      (case aB => exact bb)
      (case aF => exact (fun _ _ => trivial))
      (case aO => exact (ur HO602.out))
      (case aS => exact (below_size bb))
      (case aL => have := LMc48.out; omega)
      intro v606 w55 ho hb hg hat
      rw [← Ny605.out] at ho
      have n0_ := ak (blk_grown (g := gb595) (o := .cells #[.slice A0_0 l0_0.length c0_0, .slice A0_1 l0_1.length c0_1, .slice A0_2 l0_2.length c0_2] 28 (0, 0)) (ub BK595.out) hg (Kd.R_ne HO602.out BK595.out (by decide)))
      have n1_ := ak (hb)
      have n2_ := ak (ho)
      clear BK595 HB HO602
      have BK595 := n0_
      have HB := n1_
      have HO607 := n2_
      clear n0_ n1_ n2_ ho hb hg hat
      refine hK.out _ _ ⟨(blk_cell BK595.out 0).trans rfl, (blk_cell BK595.out 1).trans rfl, (blk_cell BK595.out 2).trans rfl⟩ ?_
      clear hK K
      refine no (a' := ?_) ?_ ?_
      rotate_left
      ·
       show Act.put _ (some 41) _ = _
       simp only [Act.put, l_a, l_b, l_c, i64_w, i32_w]
       rfl
      repeat (refine lk (v := ?_) (a' := ?_) (gk.trans rfl) rfl rfl ?_ ?_ ?_; rotate_left; (focus (rintro w' ⟨s0, s1, s2⟩; go_simp; with_reducible rfl)); rotate_left; (focus (simp only [Act.put, l_a, l_b, l_c, i64_w, i32_w]; rfl)))
      refine ld (N := some 49) (gk.trans rfl) rfl rfl (fun K hK => ?_)
      refine goes_ Tryz.func105 (by kernel_rfl) rfl #[.slice A0_1 l0_1.length c0_1, .int .i64 30] (by rfl) rfl rfl ma ?_
      with_reducible refine (impl_areTexts.calls kj3 _ _ l0_1 30 t608 _ ?side1 ?side2 A50.out).mono ?_
      (case side1 => repeat (first | exact (Kd.C_below HR0_1.out HB.out) | (with_reducible refine Kd.C_alloc ?_ _) | (with_reducible refine Kd.C_drewN ?_ _) | (with_reducible refine Kd.C_drew ?_)))
      (case side2 => exact HC0_1.out)
      rintro e w' ⟨rfl, ⟨nd, rfl⟩⟩
      refine ⟨_, rfl, ?_⟩
      refine hK.out _ _ ⟨(blk_cell BK595.out 0).trans rfl, (blk_cell BK595.out 1).trans rfl, (blk_cell BK595.out 2).trans rfl⟩ ?_
      clear hK K
      refine no (a' := ?_) ?_ ?_
      rotate_left
      ·
       show Act.put _ (some 49) _ = _
       simp only [Act.put, l_a, l_b, l_c, i64_w, i32_w]
       rfl
      repeat (refine lk (v := ?_) (a' := ?_) (gk.trans rfl) rfl rfl ?_ ?_ ?_; rotate_left; (focus (rintro w' ⟨s0, s1, s2⟩; go_simp; with_reducible rfl)); rotate_left; (focus (simp only [Act.put, l_a, l_b, l_c, i64_w, i32_w]; rfl)))
      refine on ?_
      try go_wp2
      go_ret2
      exact ⟨_, er, ur HO607.out, bb⟩
     ·
      have c49b0 := beq_eq_false_iff_ne.mpr c49
      have c49b1 := bne_iff_ne.mpr c49
      have c49b2 : ¬ (l0_2 = []) := fun h_ => c49 (by rw [h_]; rfl)
      simp only [Option.some.injEq, Prod.mk.injEq] at H
      obtain ⟨rfl, rfl⟩ := H
      try go_wp2_with (first | ((with_reducible refine gate_builtin (b := .append) (xs := #[.tmp 28, .tmp 29]) rfl ?_); (try (refine gate_guard (by rfl) ?_; dsimp only)); at_builtin; refine Kd.R_append Kd.string (w0 := w) w.heap.size rfl (.tmp 28) (.tmp 29) 23 9 (.string ⟨#[]⟩) 16 rfl Tryz.underlying23 info9 rfl (by decide) (by omega) v598 t596 (⟨#[]⟩ : ByteArray) [.string (⟨#[]⟩ : ByteArray)] (fun _ => True) (fun _ => False) rfl rfl ?aP (fun _ hk => hk.elim) ?aF ?aO ?aB ?aS ?aL ?_; (case aP => exact rfl); (case aB => exact bb); (case aF => exact (fun _ _ => trivial)); (case aO => exact (ur HO_6.out)); (case aS => exact (below_size bb)); (case aL => have := LMc10.out; omega); intro v601 w56 ho hb hg hat; rw [← Ny600.out] at ho; have n0_ := ak (blk_grown (g := gb595) (o := .cells #[.slice A0_0 l0_0.length c0_0, .slice A0_1 l0_1.length c0_1, .slice A0_2 l0_2.length c0_2] 28 (0, 0)) (ub BK595.out) hg (Kd.R_ne HO_6.out BK595.out (by decide))); have n1_ := ak (hb); have n2_ := ak (ho); clear BK595; clear HB; clear HO_6; have BK595 := n0_; have HB := n1_; have HO602 := n2_; clear n0_ n1_ n2_; clear ho hb hg hat; obtain ⟨hcz57_0, hcz57_1, hcz57_2, hfz57_0, hfz57_1, hfz57_2⟩ := cz3 BK595.out) | (refine gL 101 33 Tryz.func101 #[.agg #[.slice A0_0 l0_0.length c0_0, .slice A0_1 l0_1.length c0_1, .slice A0_2 l0_2.length c0_2]] ?_; (with_reducible refine (impl_Part_boundary.calls kj3 _ _ l0_0 _ _ l0_1 _ _ l0_2 t603 false _ ?side1 ?side2 ?side3 ?side4 ?side5 ?side6 ?side7 A11.out).mono ?_); (case side1 => repeat (first | exact (Kd.C_below HR0_0.out HB.out) | (with_reducible refine Kd.C_alloc ?_ _) | (with_reducible refine Kd.C_drewN ?_ _) | (with_reducible refine Kd.C_drew ?_))); (case side2 => exact HC0_0.out); (case side3 => repeat (first | exact (Kd.C_below HR0_1.out HB.out) | (with_reducible refine Kd.C_alloc ?_ _) | (with_reducible refine Kd.C_drewN ?_ _) | (with_reducible refine Kd.C_drew ?_))); (case side4 => exact HC0_1.out); (case side5 => repeat (first | exact (Kd.C_below HR0_2.out HB.out) | (with_reducible refine Kd.C_alloc ?_ _) | (with_reducible refine Kd.C_drewN ?_ _) | (with_reducible refine Kd.C_drew ?_))); (case side6 => exact HC0_2.out); (case side7 => first | exact HG.out | exact MaxOk.below HG.out bb | (repeat (first | exact HG.out | apply MaxOk.drewN | apply MaxOk.drew))); rintro e w58 ⟨rfl, hb⟩; refine ⟨_, rfl, ?_⟩; replace HO602 := rb HO602 hb; replace BK595 := kb BK595 hb; replace HB := ak (below_step bb hb); (try clear hb)))
      replace HO602 := ak (Kd.R_drew HO602.out)
      replace BK595 := ak (blk_drew BK595.out)
      replace HB := ak (below_drew1 HB.out)
      refine ro [3] [0, 1, 4, 2, 5, 6, 7, 3, 8, 9, 10, 11, 12, 13, 14] (fun w' => w'.cell? ⟨gb595, 0, none⟩ = some (.slice A0_0 l0_0.length c0_0) ∧ w'.cell? ⟨gb595, 1, none⟩ = some (.slice A0_1 l0_1.length c0_1) ∧ w'.cell? ⟨gb595, 2, none⟩ = some (.slice A0_2 l0_2.length c0_2)) ⟨(blk_cell BK595.out 0).trans rfl, (blk_cell BK595.out 1).trans rfl, (blk_cell BK595.out 2).trans rfl⟩ ?_
      generalize w58.drew = w59 at HO602 BK595 HB ⊢
      repeat (first | (refine lk (v := ?_) (a' := ?_) (gk.trans rfl) rfl rfl ?_ ?_ ?_; rotate_left; (focus (rintro w' ⟨s0, s1, s2⟩; go_simp; with_reducible rfl)); rotate_left; (focus (simp only [Act.put, l_a, l_b, l_c, i64_w, i32_w]; rfl))) | (refine lf (a' := ?_) (gk.trans rfl) rfl rfl ?_ ?_; rotate_left; (focus (simp only [Act.put, l_a, l_b, l_c, i64_w, i32_w]; rfl))))
      refine ld (N := some 41) (gk.trans rfl) rfl rfl (fun K hK => ?_)
      refine Kd.R_append_rows_step Kd.string (w0 := w) w.heap.size (by rfl) (.tmp 38) (.tmp 40) 23 9 (.string ⟨#[]⟩) 16 rfl Tryz.underlying23 info9 rfl (by decide) (by omega) v601 y600 l0_1 _ _ _ (fun _ => True) (fun _ => False) rfl rfl ?aO ?aR (fun _ _ h => h) (fun _ h => h.elim) ?aF ?aB ?aS ?aL ?_
      (case aR => repeat (first | exact (Kd.C_below HR0_1.out HB.out) | (with_reducible refine Kd.C_alloc ?_ _) | (with_reducible refine Kd.C_drewN ?_ _) | (with_reducible refine Kd.C_drew ?_)))
      (case aB => exact bb)
      (case aF => exact (fun _ _ => trivial))
      (case aO => exact (ur HO602.out))
      (case aS => exact (below_size bb))
      (case aL => have := LMc48.out; omega)
      intro v606 w60 ho hb hg hat
      rw [← Ny605.out] at ho
      have n0_ := ak (blk_grown (g := gb595) (o := .cells #[.slice A0_0 l0_0.length c0_0, .slice A0_1 l0_1.length c0_1, .slice A0_2 l0_2.length c0_2] 28 (0, 0)) (ub BK595.out) hg (Kd.R_ne HO602.out BK595.out (by decide)))
      have n1_ := ak (hb)
      have n2_ := ak (ho)
      clear BK595 HB HO602
      have BK595 := n0_
      have HB := n1_
      have HO607 := n2_
      clear n0_ n1_ n2_ ho hb hg hat
      refine hK.out _ _ ⟨(blk_cell BK595.out 0).trans rfl, (blk_cell BK595.out 1).trans rfl, (blk_cell BK595.out 2).trans rfl⟩ ?_
      clear hK K
      refine no (a' := ?_) ?_ ?_
      rotate_left
      ·
       show Act.put _ (some 41) _ = _
       simp only [Act.put, l_a, l_b, l_c, i64_w, i32_w]
       rfl
      repeat (first | (refine lk (v := ?_) (a' := ?_) (gk.trans rfl) rfl rfl ?_ ?_ ?_; rotate_left; (focus (rintro w' ⟨s0, s1, s2⟩; go_simp; with_reducible rfl)); rotate_left; (focus (simp only [Act.put, l_a, l_b, l_c, i64_w, i32_w]; rfl))) | (refine lf (a' := ?_) (gk.trans rfl) rfl rfl ?_ ?_; rotate_left; (focus (simp only [Act.put, l_a, l_b, l_c, i64_w, i32_w]; rfl))))
      refine on ?_
      try go_wp2
      go_ret2
      exact ⟨_, er, ur HO607.out, bb⟩
def impl_PartValid.f (k : Nat) (l0_0 : List (S69)) (l0_1 : List ByteArray) (l0_2 : List (S28)) : Option (Bool) := (impl_Part_linesOf.f k l0_0 l0_1 l0_2 3).bind fun bt629 => (some bt629.2)
set_option maxHeartbeats 8000000 in
set_option maxRecDepth 100000 in
theorem impl_PartValid.calls (k : Nat) (A0_0 : Option Addr) (c0_0 : Nat) (l0_0 : List (S69)) (A0_1 : Option Addr) (c0_1 : Nat) (l0_1 : List ByteArray) (A0_2 : Option Addr) (c0_2 : Nat) (l0_2 : List (S28)) (r : Bool) (w : World) (hr0_0 : Kd.C k69 w A0_0 l0_0.length l0_0) (hc0_0 : l0_0.length ≤ c0_0) (hr0_1 : Kd.C Kd.string w A0_1 l0_1.length l0_1) (hc0_1 : l0_1.length ≤ c0_1) (hr0_2 : Kd.C k28 w A0_2 l0_2.length l0_2) (hc0_2 : l0_2.length ≤ c0_2) (hg_ : MaxOk w) (h : impl_PartValid.f k l0_0 l0_1 l0_2 = some r) :
  Calls Tryz.prog 26 #[.agg #[.slice A0_0 l0_0.length c0_0, .slice A0_1 l0_1.length c0_1, .slice A0_2 l0_2.length c0_2]] w fun e w' => e = .returned (.bool r) ∧ Below w.heap.size w w' := by
 have hu28 := Tryz.underlying28
 have HR0_0 := ak hr0_0
 have HC0_0 := ak hc0_0
 clear hr0_0 hc0_0
 have HR0_1 := ak hr0_1
 have HC0_1 := ak hc0_1
 clear hr0_1 hc0_1
 have HR0_2 := ak hr0_2
 have HC0_2 := ak hc0_2
 clear hr0_2 hc0_2
 have HG := ak hg_
 clear hg_
 have HB := ak (Below.refl w.heap.size w)
 have H : ((impl_Part_linesOf.f k l0_0 l0_1 l0_2 3).bind fun bt629 => (some bt629.2)) = some r := h
 clear h
 replace H := bd H
 obtain ⟨⟨t629, t632⟩, A2, H⟩ := H
 (try dsimp only at H)
 obtain rfl := Option.some.inj H
 go_enter Tryz.func26, Tryz.ntmps26
 go_wp2_with (first | (refine bE 1 #[.slice A0_0 l0_0.length c0_0, .slice A0_1 l0_1.length c0_1, .slice A0_2 l0_2.length c0_2] 28 ?_; intro gb628 hg w3 hbox hb; have BK628 := ak (hbox); have GW628 := ge_ HB hg; have GE628 := ge_ HB hg; replace HB := bs HB hb; clear hb hbox hg; obtain ⟨hcz4_0, hcz4_1, hcz4_2, hfz4_0, hfz4_1, hfz4_2⟩ := cz3 BK628.out) | (refine gL 66 7 Tryz.func66 #[.agg #[.slice A0_0 l0_0.length c0_0, .slice A0_1 l0_1.length c0_1, .slice A0_2 l0_2.length c0_2], .int .i64 3] ?_; (with_reducible refine (impl_Part_linesOf.calls k _ _ l0_0 _ _ l0_1 _ _ l0_2 3 t629 t632 _ ?side1 ?side2 ?side3 ?side4 ?side5 ?side6 ?side7 A2.out).mono ?_); (case side1 => repeat (first | exact (Kd.C_below HR0_0.out HB.out) | (with_reducible refine Kd.C_alloc ?_ _) | (with_reducible refine Kd.C_drewN ?_ _) | (with_reducible refine Kd.C_drew ?_))); (case side2 => exact HC0_0.out); (case side3 => repeat (first | exact (Kd.C_below HR0_1.out HB.out) | (with_reducible refine Kd.C_alloc ?_ _) | (with_reducible refine Kd.C_drewN ?_ _) | (with_reducible refine Kd.C_drew ?_))); (case side4 => exact HC0_1.out); (case side5 => repeat (first | exact (Kd.C_below HR0_2.out HB.out) | (with_reducible refine Kd.C_alloc ?_ _) | (with_reducible refine Kd.C_drewN ?_ _) | (with_reducible refine Kd.C_drew ?_))); (case side6 => exact HC0_2.out); (case side7 => first | exact HG.out | exact MaxOk.below HG.out bb | (repeat (first | exact HG.out | apply MaxOk.drewN | apply MaxOk.drew))); rintro e w5 ⟨v630, rfl, ho0, hb⟩; refine ⟨_, rfl, ?_⟩; have HO631 := ak (Kd.R_lower ho0 (below_size bb)); replace BK628 := kb BK628 hb; replace HB := ak (below_step bb hb); (try clear hb); (try clear ho0)))
 go_ret
 exact ⟨er, bb⟩
end Go.Proofs.YtncdadcmghglkaaGreatDoor.PFnExactCountParts
