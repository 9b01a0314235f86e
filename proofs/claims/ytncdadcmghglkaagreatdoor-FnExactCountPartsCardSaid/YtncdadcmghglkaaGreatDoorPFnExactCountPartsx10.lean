/- Printed walks; conditions: those in each statement. -/
import Derived.Test.YtncdadcmghglkaaGreatDoorVFnExactCountPartsQt
import Derived.Test.YtncdadcmghglkaaGreatDoorVFnExactCountPartsYt
import Derived.Test.YtncdadcmghglkaaGreatDoorPFnExactCountPartsx0
import Derived.Test.YtncdadcmghglkaaGreatDoorPFnExactCountPartsx3
import Derived.Test.YtncdadcmghglkaaGreatDoorPFnExactCountPartsx8
import Derived.Test.YtncdadcmghglkaaGreatDoorPFnExactCountPartsx9
-- short
-- dense
-- sq
namespace Go.Proofs.YtncdadcmghglkaaGreatDoor.PFnExactCountParts
open Go.RowKit Go.Proofs.YtncdadcmghglkaaGreatDoor.X Go.Proofs.YtncdadcmghglkaaGreatDoorW.PrintWords Go.Proofs.YtncdadcmghglkaaGreatDoorW.PrintLast Go.Proofs.YtncdadcmghglkaaGreatDoorW.PrintMore
attribute [local go_sem] max2_int min2_int max_two min_two max_three min_three max_four min_four   -- for this text's walks alone
set_option linter.unusedVariables false
set_option linter.unusedSimpArgs false
mutual
def spec_l8Valid.j0 : Nat → Int → Bool → List (S69) → List ByteArray → List (S28) → Option (Bool)
 | 0, _, _, _, _, _ => none
 | k + 1, x1, x17, x357000, x357001, x357002 => if x17 = true then (some false) else ((spec_l8Boundary.f k x357000).bind fun bt358 => (if bt358.2 = true then (if (x357001.length : Int) > 0 then (spec_l8Valid.j1 k x1 bt358.1 true x357000 x357001 x357002) else (if (x357002.length : Int) < 1 then (spec_l8Valid.j1 k x1 bt358.1 true x357000 x357001 x357002) else (spec_l8Valid.j1 k x1 bt358.1 (decide ((x357002.length : Int) > 4)) x357000 x357001 x357002))) else (if (x357002.length : Int) = 0 then ((spec_l8Body.f k x357001).bind fun t360 => (some t360)) else (some false))))
def spec_l8Valid.j1 : Nat → Int → ByteArray → Bool → List (S69) → List ByteArray → List (S28) → Option (Bool)
 | 0, _, _, _, _, _, _ => none
 | k + 1, x1, x5, x50, x357000, x357001, x357002 => if x50 = true then (some false) else (spec_l8Valid.l0 k x1 x5 0 x357000 x357001 x357002)
def spec_l8Valid.l0 : Nat → Int → ByteArray → Int → List (S69) → List ByteArray → List (S28) → Option (Bool)
 | 0, _, _, _, _, _, _ => none
 | k + 1, x1, x5, x7, x357000, x357001, x357002 => if x7 < (x357002.length : Int) then (if 0 ≤ x7 then ((spec_l8Valid.f k ((rd_T28 x357002 x7).f0) ((rd_T28 x357002 x7).f1) ((rd_T28 x357002 x7).f2) (wrap64 (x1 - 1))).bind fun t362 => (if t362 = true then ((spec_l8Format.f k ((rd_T28 x357002 x7).f0) ((rd_T28 x357002 x7).f1) ((rd_T28 x357002 x7).f2)).bind fun t364 => (spec_l8Valid.l1 k x1 x5 x7 t364 0 x357000 x357001 x357002)) else (some false))) else (none)) else (some true)
def spec_l8Valid.l1 : Nat → Int → ByteArray → Int → List ByteArray → Int → List (S69) → List ByteArray → List (S28) → Option (Bool)
 | 0, _, _, _, _, _, _, _, _ => none
 | k + 1, x1, x5, x7, x8, x9, x357000, x357001, x357002 => if x9 < (x8.length : Int) then (if 0 ≤ x9 then ((spec_l7Looks.f (rdOf ByteArray.empty x8 x9) x5).bind fun t368 => (if t368 = true then (some false) else (spec_l8Valid.l1 k x1 x5 x7 x8 (wrap64 (x9 + 1)) x357000 x357001 x357002))) else (none)) else (spec_l8Valid.l0 k x1 x5 (wrap64 (x7 + 1)) x357000 x357001 x357002)
def spec_l8Valid.f : Nat → List (S69) → List ByteArray → List (S28) → Int → Option (Bool)
 | 0, _, _, _, _ => none
 | k + 1, l0_0, l0_1, l0_2, a1 => (spec_l3Valid.f k l0_0).bind fun t357 => (if t357 = true then (spec_l8Valid.j0 k a1 (decide (a1 < 1)) l0_0 l0_1 l0_2) else (spec_l8Valid.j0 k a1 true l0_0 l0_1 l0_2))
end
set_option maxHeartbeats 8000000 in
set_option maxRecDepth 100000 in
theorem spec_l8Valid.calls (k : Nat) : ∀ (A0_0 : Option Addr) (c0_0 : Nat) (l0_0 : List (S69)) (A0_1 : Option Addr) (c0_1 : Nat) (l0_1 : List ByteArray) (A0_2 : Option Addr) (c0_2 : Nat) (l0_2 : List (S28)) (a1 : Int) (r : Bool) (w : World) (hr0_0 : Kd.C k69 w A0_0 l0_0.length l0_0) (hc0_0 : l0_0.length ≤ c0_0) (hr0_1 : Kd.C Kd.string w A0_1 l0_1.length l0_1) (hc0_1 : l0_1.length ≤ c0_1) (hr0_2 : Kd.C k28 w A0_2 l0_2.length l0_2) (hc0_2 : l0_2.length ≤ c0_2) (h : spec_l8Valid.f k l0_0 l0_1 l0_2 a1 = some r),
  Calls Tryz.prog 72 #[.agg #[.slice A0_0 l0_0.length c0_0, .slice A0_1 l0_1.length c0_1, .slice A0_2 l0_2.length c0_2], .int .i64 a1] w fun e w' => e = .returned (.bool r) ∧ Below w.heap.size w w' := by
 induction k using Nat.strongRecOn with
 | _ k ih =>
 intro A0_0 c0_0 l0_0 A0_1 c0_1 l0_1 A0_2 c0_2 l0_2 a1 r w hr0_0 hc0_0 hr0_1 hc0_1 hr0_2 hc0_2 h
 cases k with
 | zero => exact absurd h (by simp [spec_l8Valid.f])
 | succ k =>
 simp only [spec_l8Valid.f] at h
 have hu28 := Tryz.underlying28
 have HR0_0 := ak hr0_0
 have HC0_0 := ak hc0_0
 clear hr0_0 hc0_0
 have HR0_1 := ak hr0_1
 have HC0_1 := ak hc0_1
 clear hr0_1 hc0_1
 have HR0_2 := ak hr0_2
 have HC0_2 := ak hc0_2
 clear hr0_2 hc0_2
 have HB := ak (Below.refl w.heap.size w)
 have H : ((spec_l3Valid.f k l0_0).bind fun t357 => (if t357 = true then (spec_l8Valid.j0 k a1 (decide (a1 < 1)) l0_0 l0_1 l0_2) else (spec_l8Valid.j0 k a1 true l0_0 l0_1 l0_2))) = some r := h
 clear h
 have HC3 := ak H
 clear H
 go_enter Tryz.func72, Tryz.ntmps72
 go_upto_region 1 with (first | (refine gate_dst (N := 2) rfl ?_; (try (refine gate_guard (by rfl) ?_; dsimp only)); refine bE 2 #[.slice A0_0 l0_0.length c0_0, .slice A0_1 l0_1.length c0_1, .slice A0_2 l0_2.length c0_2] 28 ?_; intro gb356 hg w4 hbox hb; have BK356 := ak (hbox); have GW356 := ge_ HB hg; have GE356 := ge_ HB hg; replace HB := bs HB hb; clear hb hbox hg))
 (try simp only [Act.put, l_a, l_b, l_c])
 go_cut [17] (fun v17 wc => ∃ (kq : Nat) (x17_2 : Bool), v17 = .bool x17_2 ∧ Aside0 (spec_l8Valid.j0 kq a1 x17_2 l0_0 l0_1 l0_2 = some r) ∧ Aside0 (kq ≤ k) ∧ Aside0 (wc.heap[gb356]? = some (.cells #[(.slice A0_0 l0_0.length c0_0), (.slice A0_1 l0_1.length c0_1), (.slice A0_2 l0_2.length c0_2)] 28 (0, 0))) ∧ Aside0 (Below w.heap.size w wc))
 case first =>
  have H := HC3.out
  clear HC3
  replace H := bd H; obtain ⟨t357, A5, H⟩ := H; replace H := sb H
  rcases H with ⟨rfl, H⟩ | ⟨rfl, H⟩
  ·
   have H' := ak H; clear H
   obtain ⟨hcz7_0, hcz7_1, hcz7_2, hfz7_0, hfz7_1, hfz7_2⟩ := cz3 BK356.out
   go_wp2_with (first | (refine gL 113 12 Tryz.func113 #[.slice A0_0 l0_0.length c0_0] ?_; (with_reducible refine (spec_l3Valid.calls k _ _ l0_0 true _ (cu (Kd.C_below HR0_0.out HB.out)) HC0_0.out A5.out).mono ?_); rintro e w8 ⟨rfl, hb⟩; refine ⟨_, rfl, ?_⟩; replace BK356 := kb BK356 hb; replace HB := ak (below_step bb hb); (try clear hb)))
   go_meet
   case rel => exact ⟨_, (decide (a1 < 1)), rs, H', ⟨le_⟩, ⟨ub BK356.out⟩, ⟨bb⟩⟩
  ·
   have H' := ak H; clear H
   obtain ⟨hcz9_0, hcz9_1, hcz9_2, hfz9_0, hfz9_1, hfz9_2⟩ := cz3 BK356.out
   go_wp2_with (first | (refine gL 113 12 Tryz.func113 #[.slice A0_0 l0_0.length c0_0] ?_; (with_reducible refine (spec_l3Valid.calls k _ _ l0_0 false _ (cu (Kd.C_below HR0_0.out HB.out)) HC0_0.out A5.out).mono ?_); rintro e w10 ⟨rfl, hb⟩; refine ⟨_, rfl, ?_⟩; replace BK356 := kb BK356 hb; replace HB := ak (below_step bb hb); (try clear hb)))
   go_meet
   case rel => exact ⟨_, (true), rs, H', ⟨le_⟩, ⟨ub BK356.out⟩, ⟨bb⟩⟩
 case rest =>
  clear HC3
  try clear c1
  try clear p2
  try clear c6
  try clear c7
  try clear hcz7_0
  try clear hcz7_1
  try clear hcz7_2
  try clear hcz9_0
  try clear hcz9_1
  try clear hcz9_2
  try clear hfz7_0
  try clear hfz7_1
  try clear hfz7_2
  try clear hfz9_0
  try clear hfz9_1
  try clear hfz9_2
  obtain ⟨kq, x17_2, rfl, HA, HJ2, BK356, HB⟩ := hcut
  cases kq with
  | zero => exact absurd HA.out (by simp [spec_l8Valid.j0])
  | succ kj2 =>
   have H := HA.out
   clear HA
   simp only [spec_l8Valid.j0] at H
   replace H := sb H
   rcases H with ⟨rfl, H⟩ | ⟨rfl, H⟩
   ·
    obtain rfl := Option.some.inj H
    go_wp2
    go_ret
    exact ⟨er, bb⟩
   ·
    replace H := bd H
    obtain ⟨⟨t358, t359⟩, A12, H⟩ := H
    (try dsimp only at H)
    replace H := sb H
    rcases H with ⟨rfl, H⟩ | ⟨rfl, H⟩
    ·
     have HC14 := ak H
     clear H
     obtain ⟨hcz15_0, hcz15_1, hcz15_2, hfz15_0, hfz15_1, hfz15_2⟩ := cz3 BK356.out
     go_upto_region 6 with (first | (refine gL 108 21 Tryz.func108 #[.slice A0_0 l0_0.length c0_0] ?_; (with_reducible refine (spec_l8Boundary.calls kj2 _ _ l0_0 t358 true _ (cu (Kd.C_below HR0_0.out HB.out)) HC0_0.out A12.out).mono ?_); rintro e w16 ⟨rfl, hb⟩; refine ⟨_, rfl, ?_⟩; replace BK356 := kb BK356 hb; replace HB := ak (below_step bb hb); (try clear hb)))
     (try simp only [Act.put, l_a, l_b, l_c])
     go_cut [50] (fun v50 wc => ∃ (kq : Nat) (x50_13 : Bool), v50 = .bool x50_13 ∧ Aside0 (spec_l8Valid.j1 kq a1 t358 x50_13 l0_0 l0_1 l0_2 = some r) ∧ Aside0 (kq ≤ kj2) ∧ Aside0 (wc.heap[gb356]? = some (.cells #[(.slice A0_0 l0_0.length c0_0), (.slice A0_1 l0_1.length c0_1), (.slice A0_2 l0_2.length c0_2)] 28 (0, 0))) ∧ Aside0 (Below w.heap.size w wc))
     case first =>
      have H := HC14.out
      clear HC14
      replace H := sp H
      rcases H with ⟨c17, H⟩ | ⟨c17, H⟩
      ·
       have c17b0 : decide (0 < (l0_1.length : Int)) = true := decide_eq_true c17
       have c17b1 : decide (0 < l0_1.length) = true := decide_eq_true (by omega)
       clear c17
       (first | rw [c17b0] | (simp only [i64_w, i32_w]; rw [c17b0]) | skip)
       have H' := ak H; clear H
       obtain ⟨hcz18_0, hcz18_1, hcz18_2, hfz18_0, hfz18_1, hfz18_2⟩ := cz3 BK356.out
       go_wp2
       go_meet
       case rel => exact ⟨_, (true), rs, H', ⟨by have := HJ2.out; first | omega | exact Nat.le_refl _⟩, ⟨ub BK356.out⟩, ⟨bb⟩⟩
      ·
       have c17b0 : decide (0 < (l0_1.length : Int)) = false := decide_eq_false c17
       have c17b1 : decide (0 < l0_1.length) = false := decide_eq_false (by omega)
       clear c17
       (first | rw [c17b0] | (simp only [i64_w, i32_w]; rw [c17b0]) | skip)
       replace H := sp H
       rcases H with ⟨c19, H⟩ | ⟨c19, H⟩
       ·
        have c19b0 := decide_eq_true c19
        have c19b1 : decide (l0_2.length < 1) = true := decide_eq_true (by omega)
        clear c19
        have H' := ak H; clear H
        obtain ⟨hcz20_0, hcz20_1, hcz20_2, hfz20_0, hfz20_1, hfz20_2⟩ := cz3 BK356.out
        go_wp2
        go_meet
        case rel => exact ⟨_, (true), rs, H', ⟨by have := HJ2.out; first | omega | exact Nat.le_refl _⟩, ⟨ub BK356.out⟩, ⟨bb⟩⟩
       ·
        have c19b0 := decide_eq_false c19
        have c19b1 : decide (l0_2.length < 1) = false := decide_eq_false (by omega)
        clear c19
        have H' := ak H; clear H
        obtain ⟨hcz21_0, hcz21_1, hcz21_2, hfz21_0, hfz21_1, hfz21_2⟩ := cz3 BK356.out
        go_wp2
        go_meet
        case rel => exact ⟨_, (decide ((l0_2.length : Int) > 4)), rs, H', ⟨by have := HJ2.out; first | omega | exact Nat.le_refl _⟩, ⟨ub BK356.out⟩, ⟨bb⟩⟩
     case rest =>
      clear HC14
      try clear c1
      try clear p2
      try clear c6
      try clear c7
      try clear c10
      try clear c11
      try clear c13
      try clear c17
      try clear c17b0
      try clear c17b1
      try clear c19
      try clear c19b0
      try clear c19b1
      try clear hcz15_0
      try clear hcz15_1
      try clear hcz15_2
      try clear hcz18_0
      try clear hcz18_1
      try clear hcz18_2
      try clear hcz20_0
      try clear hcz20_1
      try clear hcz20_2
      try clear hcz21_0
      try clear hcz21_1
      try clear hcz21_2
      try clear hcz7_0
      try clear hcz7_1
      try clear hcz7_2
      try clear hcz9_0
      try clear hcz9_1
      try clear hcz9_2
      try clear hfz15_0
      try clear hfz15_1
      try clear hfz15_2
      try clear hfz18_0
      try clear hfz18_1
      try clear hfz18_2
      try clear hfz20_0
      try clear hfz20_1
      try clear hfz20_2
      try clear hfz21_0
      try clear hfz21_1
      try clear hfz21_2
      try clear hfz7_0
      try clear hfz7_1
      try clear hfz7_2
      try clear hfz9_0
      try clear hfz9_1
      try clear hfz9_2
      try clear p2
      obtain ⟨kq, x50_13, rfl, HA, HJ13, BK356, HB⟩ := hcut
      cases kq with
      | zero => exact absurd HA.out (by simp [spec_l8Valid.j1])
      | succ kj13 =>
       have H := HA.out
       clear HA
       simp only [spec_l8Valid.j1] at H
       replace H := sb H
       rcases H with ⟨rfl, H⟩ | ⟨rfl, H⟩
       ·
        obtain rfl := Option.some.inj H
        go_wp2
        go_ret
        exact ⟨er, bb⟩
       ·
        have H' := ak H; clear H
        go_wp2
        go_loopg [7] kj13 (fun kq v7 w' => ∃ (x7_3 : Int), v7 = .int .i64 x7_3 ∧ Aside0 (spec_l8Valid.l0 kq a1 t358 x7_3 l0_0 l0_1 l0_2 = some r) ∧ Aside0 (kq ≤ kj13) ∧ Aside0 (w'.heap[gb356]? = some (.cells #[(.slice A0_0 l0_0.length c0_0), (.slice A0_1 l0_1.length c0_1), (.slice A0_2 l0_2.length c0_2)] 28 (0, 0))) ∧ Aside0 (Below w.heap.size w w'))
        case atStart => exact ⟨(0), rs, H', ⟨Nat.le_refl _⟩, ⟨ub BK356.out⟩, ⟨bb⟩⟩
        case round =>
         clear H'
         try clear c1
         try clear c2
         try clear p2
         try clear c6
         try clear c7
         try clear c10
         try clear c11
         try clear c13
         try clear c17
         try clear c17b0
         try clear c17b1
         try clear c19
         try clear c19b0
         try clear c19b1
         try clear c22
         try clear hcz15_0
         try clear hcz15_1
         try clear hcz15_2
         try clear hcz18_0
         try clear hcz18_1
         try clear hcz18_2
         try clear hcz20_0
         try clear hcz20_1
         try clear hcz20_2
         try clear hcz21_0
         try clear hcz21_1
         try clear hcz21_2
         try clear hcz7_0
         try clear hcz7_1
         try clear hcz7_2
         try clear hcz9_0
         try clear hcz9_1
         try clear hcz9_2
         try clear hfz15_0
         try clear hfz15_1
         try clear hfz15_2
         try clear hfz18_0
         try clear hfz18_1
         try clear hfz18_2
         try clear hfz20_0
         try clear hfz20_1
         try clear hfz20_2
         try clear hfz21_0
         try clear hfz21_1
         try clear hfz21_2
         try clear hfz7_0
         try clear hfz7_1
         try clear hfz7_2
         try clear hfz9_0
         try clear hfz9_1
         try clear hfz9_2
         try clear p2
         obtain ⟨x7_3, rfl, HA, HK3, BK356, HB⟩ := hrel
         cases gk with
         | zero => exact absurd HA.out (by simp [spec_l8Valid.l0])
         | succ k3 =>
          have H := HA.out
          clear HA
          simp only [spec_l8Valid.l0] at H
          replace H := sd H
          rcases H with ⟨c23b0, H⟩ | ⟨c23b0, H⟩
          ·
           replace H := nde H; obtain ⟨c24b0, H⟩ := H; replace H := bd H; obtain ⟨t362, A25, H⟩ := H; replace H := sb H
           rcases H with ⟨rfl, H⟩ | ⟨rfl, H⟩
           ·
            replace H := bd H; obtain ⟨t364, A27, H⟩ := H
            have H' := ak H; clear H
            obtain ⟨hcz28_0, hcz28_1, hcz28_2, hfz28_0, hfz28_1, hfz28_2⟩ := cz3 BK356.out
            have p361 := zi x7_3
            have q361 := zj x7_3 l0_2.length
            obtain ⟨ad361, A361_0, c361_0, A361_1, c361_1, A361_2, c361_2, e361, hx361_0, hx361_1, hx361_2, hl361_0, hi361_0, hl361_1, hi361_1, hl361_2, hi361_2⟩ := at_T28 HR0_2.out x7_3 p361 q361
            cases e361
            replace hx361_0 := cl HB.out hx361_0
            replace hx361_1 := cl HB.out hx361_1
            replace hx361_2 := cl HB.out hx361_2
            have HR361_0 := ak hi361_0
            have HC361_0 := ak hl361_0
            clear hi361_0 hl361_0
            have HR361_1 := ak hi361_1
            have HC361_1 := ak hl361_1
            clear hi361_1 hl361_1
            have HR361_2 := ak hi361_2
            have HC361_2 := ak hl361_2
            clear hi361_2 hl361_2
            replace p361 := eq_true p361
            replace q361 := eq_true q361
            go_wp2_with (first | (refine gL 72 65 Tryz.func72 #[.agg #[.slice A361_0 ((rd_T28 l0_2 x7_3).f0).length c361_0, .slice A361_1 ((rd_T28 l0_2 x7_3).f1).length c361_1, .slice A361_2 ((rd_T28 l0_2 x7_3).f2).length c361_2], .int .i64 (wrap64 (a1 - 1))] ?_; (with_reducible refine (ih k3 (by have := HJ2.out; have := HJ13.out; have := HK3.out; omega) _ _ ((rd_T28 l0_2 x7_3).f0) _ _ ((rd_T28 l0_2 x7_3).f1) _ _ ((rd_T28 l0_2 x7_3).f2) (wrap64 (a1 - 1)) true _ (cu (Kd.C_below HR361_0.out HB.out)) HC361_0.out (cu (Kd.C_below HR361_1.out HB.out)) HC361_1.out (cu (Kd.C_below HR361_2.out HB.out)) HC361_2.out A25.out).mono ?_); rintro e w29 ⟨rfl, hb⟩; refine ⟨_, rfl, ?_⟩; replace BK356 := kb BK356 hb; replace HB := ak (below_step bb hb); (try clear hb); obtain ⟨hcz30_0, hcz30_1, hcz30_2, hfz30_0, hfz30_1, hfz30_2⟩ := cz3 BK356.out; have p363 : 0 ≤ (x7_3 : Int) := of_decide_eq_true (by assumption); have q363 : x7_3 < (l0_2.length : Int) := of_decide_eq_true (by assumption); obtain ⟨ad363, A363_0, c363_0, A363_1, c363_1, A363_2, c363_2, e363, hx363_0, hx363_1, hx363_2, hl363_0, hi363_0, hl363_1, hi363_1, hl363_2, hi363_2⟩ := at_T28 HR0_2.out x7_3 p363 q363; obtain rfl : ad361 = ad363 := (by injection e363); replace hx363_0 := (HB.out.cell (World.block_lt_of_cell? w _ hx363_0)).trans hx363_0; replace hx363_1 := (HB.out.cell (World.block_lt_of_cell? w _ hx363_1)).trans hx363_1; replace hx363_2 := (HB.out.cell (World.block_lt_of_cell? w _ hx363_2)).trans hx363_2; have HR363_0 := ak hi363_0; have HC363_0 := ak hl363_0; clear hi363_0 hl363_0; have HR363_1 := ak hi363_1; have HC363_1 := ak hl363_1; clear hi363_1 hl363_1; have HR363_2 := ak hi363_2; have HC363_2 := ak hl363_2; clear hi363_2 hl363_2; replace p363 := eq_true p363; replace q363 := eq_true q363) | (refine gL 67 72 Tryz.func67 #[.agg #[.slice A363_0 ((rd_T28 l0_2 x7_3).f0).length c363_0, .slice A363_1 ((rd_T28 l0_2 x7_3).f1).length c363_1, .slice A363_2 ((rd_T28 l0_2 x7_3).f2).length c363_2]] ?_; (with_reducible refine (spec_l8Format.calls k3 _ _ ((rd_T28 l0_2 x7_3).f0) _ _ ((rd_T28 l0_2 x7_3).f1) _ _ ((rd_T28 l0_2 x7_3).f2) t364 _ (cu (Kd.C_below HR363_0.out HB.out)) HC363_0.out (cu (Kd.C_below HR363_1.out HB.out)) HC363_1.out (cu (Kd.C_below HR363_2.out HB.out)) HC363_2.out A27.out).mono ?_); rintro e w31 ⟨v365, rfl, ho0, hb⟩; refine ⟨_, rfl, ?_⟩; have HO366 := ak (Kd.R_lower ho0 (below_size bb)); replace BK356 := kb BK356 hb; replace HB := ak (below_step bb hb); (try clear hb); (try clear ho0)))
            go_loopg [9] k3 (fun kq v9 w' => ∃ (x9_4 : Int), v9 = .int .i64 x9_4 ∧ Aside0 (spec_l8Valid.l1 kq a1 t358 x7_3 t364 x9_4 l0_0 l0_1 l0_2 = some r) ∧ Aside0 (kq ≤ k3) ∧ Aside0 (Kd.R Kd.string 9 w' w.heap.size (fun _ => True) v365 t364) ∧ Aside0 (w'.heap[gb356]? = some (.cells #[(.slice A0_0 l0_0.length c0_0), (.slice A0_1 l0_1.length c0_1), (.slice (some ad361) l0_2.length c0_2)] 28 (0, 0))) ∧ Aside0 (Below w.heap.size w w'))
            case atStart => exact ⟨(0), rs, H', ⟨Nat.le_refl _⟩, ⟨ur HO366.out⟩, ⟨ub BK356.out⟩, ⟨bb⟩⟩
            case round =>
             clear H'
             try clear c1
             try clear c2
             try clear p2
             try clear c3
             try clear p3
             try clear q3
             try clear hx3
             try clear c6
             try clear p6
             try clear c7
             try clear c10
             try clear c11
             try clear c13
             try clear c17
             try clear c17b0
             try clear c17b1
             try clear c19
             try clear c19b0
             try clear c19b1
             try clear c22
             try clear c23
             try clear c23b0
             try clear c24
             try clear c24b0
             try clear c26
             try clear hcz15_0
             try clear hcz15_1
             try clear hcz15_2
             try clear hcz18_0
             try clear hcz18_1
             try clear hcz18_2
             try clear hcz20_0
             try clear hcz20_1
             try clear hcz20_2
             try clear hcz21_0
             try clear hcz21_1
             try clear hcz21_2
             try clear hcz28_0
             try clear hcz28_1
             try clear hcz28_2
             try clear hcz30_0
             try clear hcz30_1
             try clear hcz30_2
             try clear hcz7_0
             try clear hcz7_1
             try clear hcz7_2
             try clear hcz9_0
             try clear hcz9_1
             try clear hcz9_2
             try clear hfz15_0
             try clear hfz15_1
             try clear hfz15_2
             try clear hfz18_0
             try clear hfz18_1
             try clear hfz18_2
             try clear hfz20_0
             try clear hfz20_1
             try clear hfz20_2
             try clear hfz21_0
             try clear hfz21_1
             try clear hfz21_2
             try clear hfz28_0
             try clear hfz28_1
             try clear hfz28_2
             try clear hfz30_0
             try clear hfz30_1
             try clear hfz30_2
             try clear hfz7_0
             try clear hfz7_1
             try clear hfz7_2
             try clear hfz9_0
             try clear hfz9_1
             try clear hfz9_2
             try clear hx361_0
             try clear hx361_1
             try clear hx361_2
             try clear hx363_0
             try clear hx363_1
             try clear hx363_2
             try clear p2
             try clear p361
             try clear p363
             try clear q361
             try clear q363
             obtain ⟨x9_4, rfl, HA, HK4, HO_8, BK356, HB⟩ := hrel
             cases gk with
             | zero => exact absurd HA.out (by simp [spec_l8Valid.l1])
             | succ k4 =>
              have H := HA.out
              clear HA
              simp only [spec_l8Valid.l1] at H
              replace H := sd H
              rcases H with ⟨c32b0, H⟩ | ⟨c32b0, H⟩
              ·
               replace H := nde H; obtain ⟨c33b0, H⟩ := H; replace H := bd H; obtain ⟨t368, A34, H⟩ := H; replace H := sb H
               rcases H with ⟨rfl, H⟩ | ⟨rfl, H⟩
               ·
                obtain rfl := Option.some.inj H
                obtain ⟨Ao36, co36, eo36⟩ := Kd.R_slice HO_8.out
                subst eo36
                have p367 := zi x9_4
                have q367 := zj x9_4 t364.length
                obtain ⟨ad367, e367, hx367_0⟩ := Kd.at_string (Kd.R_reads' HO_8.out).2.2 x9_4 p367 q367
                cases e367
                replace p367 := eq_true p367
                replace q367 := eq_true q367
                go_wp2_with (first | (refine gL 115 84 Tryz.func115 #[.string (rdOf ByteArray.empty t364 x9_4), .string t358] ?_; (with_reducible refine (spec_l7Looks.calls (rdOf ByteArray.empty t364 x9_4) t358 true _ A34.out).mono ?_); rintro e w' ⟨rfl, ⟨nd, rfl⟩⟩; refine ⟨_, rfl, ?_⟩))
                go_ret
                exact ⟨er, bb⟩
               ·
                have H' := ak H; clear H
                obtain ⟨Ao37, co37, eo37⟩ := Kd.R_slice HO_8.out
                subst eo37
                have p367 := zi x9_4
                have q367 := zj x9_4 t364.length
                obtain ⟨ad367, e367, hx367_0⟩ := Kd.at_string (Kd.R_reads' HO_8.out).2.2 x9_4 p367 q367
                cases e367
                replace p367 := eq_true p367
                replace q367 := eq_true q367
                go_wp2_with (first | (refine gL 115 84 Tryz.func115 #[.string (rdOf ByteArray.empty t364 x9_4), .string t358] ?_; (with_reducible refine (spec_l7Looks.calls (rdOf ByteArray.empty t364 x9_4) t358 false _ A34.out).mono ?_); rintro e w' ⟨rfl, ⟨nd, rfl⟩⟩; refine ⟨_, rfl, ?_⟩))
                go_roundg k4
                case measure => have := HJ2.out; have := HJ13.out; have := HK3.out; have := HK4.out; omega
                case rel => exact ⟨(wrap64 (x9_4 + 1)), rs, H', ⟨by have := HJ2.out; have := HJ13.out; have := HK3.out; have := HK4.out; omega⟩, ⟨ur HO_8.out⟩, ⟨ub BK356.out⟩, ⟨bb⟩⟩
              ·
               have H' := ak H; clear H
               obtain ⟨Ao38, co38, eo38⟩ := Kd.R_slice HO_8.out
               subst eo38
               go_wp2
               go_roundg k4
               case measure => have := HJ2.out; have := HJ13.out; have := HK3.out; have := HK4.out; omega
               case rel => exact ⟨(wrap64 (x7_3 + 1)), rs, H', ⟨by have := HJ2.out; have := HJ13.out; have := HK3.out; have := HK4.out; omega⟩, ⟨ub BK356.out⟩, ⟨bb⟩⟩
           ·
            obtain rfl := Option.some.inj H
            obtain ⟨hcz39_0, hcz39_1, hcz39_2, hfz39_0, hfz39_1, hfz39_2⟩ := cz3 BK356.out
            have p361 := zi x7_3
            have q361 := zj x7_3 l0_2.length
            obtain ⟨ad361, A361_0, c361_0, A361_1, c361_1, A361_2, c361_2, e361, hx361_0, hx361_1, hx361_2, hl361_0, hi361_0, hl361_1, hi361_1, hl361_2, hi361_2⟩ := at_T28 HR0_2.out x7_3 p361 q361
            cases e361
            replace hx361_0 := cl HB.out hx361_0
            replace hx361_1 := cl HB.out hx361_1
            replace hx361_2 := cl HB.out hx361_2
            have HR361_0 := ak hi361_0
            have HC361_0 := ak hl361_0
            clear hi361_0 hl361_0
            have HR361_1 := ak hi361_1
            have HC361_1 := ak hl361_1
            clear hi361_1 hl361_1
            have HR361_2 := ak hi361_2
            have HC361_2 := ak hl361_2
            clear hi361_2 hl361_2
            replace p361 := eq_true p361
            replace q361 := eq_true q361
            go_wp2_with (first | (refine gL 72 65 Tryz.func72 #[.agg #[.slice A361_0 ((rd_T28 l0_2 x7_3).f0).length c361_0, .slice A361_1 ((rd_T28 l0_2 x7_3).f1).length c361_1, .slice A361_2 ((rd_T28 l0_2 x7_3).f2).length c361_2], .int .i64 (wrap64 (a1 - 1))] ?_; (with_reducible refine (ih k3 (by have := HJ2.out; have := HJ13.out; have := HK3.out; omega) _ _ ((rd_T28 l0_2 x7_3).f0) _ _ ((rd_T28 l0_2 x7_3).f1) _ _ ((rd_T28 l0_2 x7_3).f2) (wrap64 (a1 - 1)) false _ (cu (Kd.C_below HR361_0.out HB.out)) HC361_0.out (cu (Kd.C_below HR361_1.out HB.out)) HC361_1.out (cu (Kd.C_below HR361_2.out HB.out)) HC361_2.out A25.out).mono ?_); rintro e w40 ⟨rfl, hb⟩; refine ⟨_, rfl, ?_⟩; replace BK356 := kb BK356 hb; replace HB := ak (below_step bb hb); (try clear hb)))
            go_ret
            exact ⟨er, bb⟩
          ·
           obtain rfl := Option.some.inj H
           obtain ⟨hcz41_0, hcz41_1, hcz41_2, hfz41_0, hfz41_1, hfz41_2⟩ := cz3 BK356.out
           go_wp2
           go_ret
           exact ⟨er, bb⟩
    ·
     replace H := sp H
     rcases H with ⟨c42, H⟩ | ⟨c42, H⟩
     ·
      have c42b0 := beq_iff_eq.mpr c42
      have c42b1 := bne_eq_false_iff_eq.mpr c42
      clear c42
      replace H := bd H; obtain ⟨t360, A43, H⟩ := H
      obtain rfl := Option.some.inj H
      obtain ⟨hcz44_0, hcz44_1, hcz44_2, hfz44_0, hfz44_1, hfz44_2⟩ := cz3 BK356.out
      go_wp2_with (first | (refine gL 108 21 Tryz.func108 #[.slice A0_0 l0_0.length c0_0] ?_; (with_reducible refine (spec_l8Boundary.calls kj2 _ _ l0_0 t358 false _ (cu (Kd.C_below HR0_0.out HB.out)) HC0_0.out A12.out).mono ?_); rintro e w45 ⟨rfl, hb⟩; refine ⟨_, rfl, ?_⟩; replace BK356 := kb BK356 hb; replace HB := ak (below_step bb hb); (try clear hb); obtain ⟨hcz46_0, hcz46_1, hcz46_2, hfz46_0, hfz46_1, hfz46_2⟩ := cz3 BK356.out) | (go_at_call 114; (with_reducible refine (spec_l8Body.calls kj2 _ _ l0_1 t360 _ (cu (Kd.C_below HR0_1.out HB.out)) HC0_1.out A43.out).mono ?_); rintro e w' ⟨rfl, ⟨nd, rfl⟩⟩))
      go_ret
      exact ⟨er, bb⟩
     ·
      have c42b0 := beq_eq_false_iff_ne.mpr c42
      have c42b1 := bne_iff_ne.mpr c42
      have c42b2 : ¬ (l0_2 = []) := fun h_ => c42 (by rw [h_]; rfl)
      obtain rfl := Option.some.inj H
      obtain ⟨hcz47_0, hcz47_1, hcz47_2, hfz47_0, hfz47_1, hfz47_2⟩ := cz3 BK356.out
      go_wp2_with (first | (refine gL 108 21 Tryz.func108 #[.slice A0_0 l0_0.length c0_0] ?_; (with_reducible refine (spec_l8Boundary.calls kj2 _ _ l0_0 t358 false _ (cu (Kd.C_below HR0_0.out HB.out)) HC0_0.out A12.out).mono ?_); rintro e w48 ⟨rfl, hb⟩; refine ⟨_, rfl, ?_⟩; replace BK356 := kb BK356 hb; replace HB := ak (below_step bb hb); (try clear hb); obtain ⟨hcz49_0, hcz49_1, hcz49_2, hfz49_0, hfz49_1, hfz49_2⟩ := cz3 BK356.out))
      go_ret
      exact ⟨er, bb⟩
def spec_PartValid.f (k : Nat) (l0_0 : List (S69)) (l0_1 : List ByteArray) (l0_2 : List (S28)) : Option (Bool) := (spec_l8Valid.f k l0_0 l0_1 l0_2 3).bind fun t370 => (some t370)
set_option maxHeartbeats 8000000 in
set_option maxRecDepth 100000 in
theorem spec_PartValid.calls (k : Nat) (A0_0 : Option Addr) (c0_0 : Nat) (l0_0 : List (S69)) (A0_1 : Option Addr) (c0_1 : Nat) (l0_1 : List ByteArray) (A0_2 : Option Addr) (c0_2 : Nat) (l0_2 : List (S28)) (r : Bool) (w : World) (hr0_0 : Kd.C k69 w A0_0 l0_0.length l0_0) (hc0_0 : l0_0.length ≤ c0_0) (hr0_1 : Kd.C Kd.string w A0_1 l0_1.length l0_1) (hc0_1 : l0_1.length ≤ c0_1) (hr0_2 : Kd.C k28 w A0_2 l0_2.length l0_2) (hc0_2 : l0_2.length ≤ c0_2) (h : spec_PartValid.f k l0_0 l0_1 l0_2 = some r) :
  Calls Tryz.prog 30 #[.agg #[.slice A0_0 l0_0.length c0_0, .slice A0_1 l0_1.length c0_1, .slice A0_2 l0_2.length c0_2]] w fun e w' => e = .returned (.bool r) ∧ Below w.heap.size w w' := by
 have hu28 := Tryz.underlying28
 have HR0_0 := ak hr0_0
 have HC0_0 := ak hc0_0
 clear hr0_0 hc0_0
 have HR0_1 := ak hr0_1
 have HC0_1 := ak hc0_1
 clear hr0_1 hc0_1
 have HR0_2 := ak hr0_2
 have HC0_2 := ak hc0_2
 clear hr0_2 hc0_2
 have HB := ak (Below.refl w.heap.size w)
 have H : ((spec_l8Valid.f k l0_0 l0_1 l0_2 3).bind fun t370 => (some t370)) = some r := h
 clear h
 replace H := bd H; obtain ⟨t370, A2, H⟩ := H
 obtain rfl := Option.some.inj H
 go_enter Tryz.func30, Tryz.ntmps30
 go_wp2_with (first | (refine bE 1 #[.slice A0_0 l0_0.length c0_0, .slice A0_1 l0_1.length c0_1, .slice A0_2 l0_2.length c0_2] 28 ?_; intro gb369 hg w3 hbox hb; have BK369 := ak (hbox); have GW369 := ge_ HB hg; have GE369 := ge_ HB hg; replace HB := bs HB hb; clear hb hbox hg; obtain ⟨hcz4_0, hcz4_1, hcz4_2, hfz4_0, hfz4_1, hfz4_2⟩ := cz3 BK369.out) | (refine gL 72 4 Tryz.func72 #[.agg #[.slice A0_0 l0_0.length c0_0, .slice A0_1 l0_1.length c0_1, .slice A0_2 l0_2.length c0_2], .int .i64 3] ?_; (with_reducible refine (spec_l8Valid.calls k _ _ l0_0 _ _ l0_1 _ _ l0_2 3 t370 _ (cu (Kd.C_below HR0_0.out HB.out)) HC0_0.out (cu (Kd.C_below HR0_1.out HB.out)) HC0_1.out (cu (Kd.C_below HR0_2.out HB.out)) HC0_2.out A2.out).mono ?_); rintro e w5 ⟨rfl, hb⟩; refine ⟨_, rfl, ?_⟩; replace BK369 := kb BK369 hb; replace HB := ak (below_step bb hb); (try clear hb)))
 go_ret
 exact ⟨er, bb⟩
mutual
def spec_l8Count.l0 : Nat → Int → Int → List (S69) → List ByteArray → List (S28) → Option (Int)
 | 0, _, _, _, _, _ => none
 | k + 1, x3, x4, x372000, x372001, x372002 => if x4 < (x372002.length : Int) then (if 0 ≤ x4 then ((spec_l8Count.f k ((rd_T28 x372002 x4).f0) ((rd_T28 x372002 x4).f1) ((rd_T28 x372002 x4).f2)).bind fun t373 => (spec_l8Count.l0 k (wrap64 (x3 + t373)) (wrap64 (x4 + 1)) x372000 x372001 x372002)) else (none)) else (if (x372002.length : Int) = 0 then (some 1) else (some x3))
def spec_l8Count.f : Nat → List (S69) → List ByteArray → List (S28) → Option (Int)
 | 0, _, _, _ => none
 | k + 1, l0_0, l0_1, l0_2 => spec_l8Count.l0 k 0 0 l0_0 l0_1 l0_2
end
set_option maxHeartbeats 8000000 in
set_option maxRecDepth 100000 in
theorem spec_l8Count.calls (k : Nat) : ∀ (A0_0 : Option Addr) (c0_0 : Nat) (l0_0 : List (S69)) (A0_1 : Option Addr) (c0_1 : Nat) (l0_1 : List ByteArray) (A0_2 : Option Addr) (c0_2 : Nat) (l0_2 : List (S28)) (r : Int) (w : World) (hr0_0 : Kd.C k69 w A0_0 l0_0.length l0_0) (hc0_0 : l0_0.length ≤ c0_0) (hr0_1 : Kd.C Kd.string w A0_1 l0_1.length l0_1) (hc0_1 : l0_1.length ≤ c0_1) (hr0_2 : Kd.C k28 w A0_2 l0_2.length l0_2) (hc0_2 : l0_2.length ≤ c0_2) (h : spec_l8Count.f k l0_0 l0_1 l0_2 = some r),
  Calls Tryz.prog 77 #[.agg #[.slice A0_0 l0_0.length c0_0, .slice A0_1 l0_1.length c0_1, .slice A0_2 l0_2.length c0_2]] w fun e w' => e = .returned (.int .i64 r) ∧ Below w.heap.size w w' := by
 induction k using Nat.strongRecOn with
 | _ k ih =>
 intro A0_0 c0_0 l0_0 A0_1 c0_1 l0_1 A0_2 c0_2 l0_2 r w hr0_0 hc0_0 hr0_1 hc0_1 hr0_2 hc0_2 h
 cases k with
 | zero => exact absurd h (by simp [spec_l8Count.f])
 | succ k =>
 simp only [spec_l8Count.f] at h
 have hu28 := Tryz.underlying28
 have HR0_0 := ak hr0_0
 have HC0_0 := ak hc0_0
 clear hr0_0 hc0_0
 have HR0_1 := ak hr0_1
 have HC0_1 := ak hc0_1
 clear hr0_1 hc0_1
 have HR0_2 := ak hr0_2
 have HC0_2 := ak hc0_2
 clear hr0_2 hc0_2
 have HB := ak (Below.refl w.heap.size w)
 have H : (spec_l8Count.l0 k 0 0 l0_0 l0_1 l0_2) = some r := h
 clear h
 have H' := ak H; clear H
 go_enter Tryz.func77, Tryz.ntmps77
 go_wp2_with (first | (refine bE 1 #[.slice A0_0 l0_0.length c0_0, .slice A0_1 l0_1.length c0_1, .slice A0_2 l0_2.length c0_2] 28 ?_; intro gb371 hg w2 hbox hb; have BK371 := ak (hbox); have GW371 := ge_ HB hg; have GE371 := ge_ HB hg; replace HB := bs HB hb; clear hb hbox hg))
 go_loopg [3, 4] k (fun kq v3 v4 w' => ∃ (x3_1 : Int) (x4_1 : Int), v3 = .int .i64 x3_1 ∧ v4 = .int .i64 x4_1 ∧ Aside0 (spec_l8Count.l0 kq x3_1 x4_1 l0_0 l0_1 l0_2 = some r) ∧ Aside0 (kq ≤ k) ∧ Aside0 (w'.heap[gb371]? = some (.cells #[(.slice A0_0 l0_0.length c0_0), (.slice A0_1 l0_1.length c0_1), (.slice A0_2 l0_2.length c0_2)] 28 (0, 0))) ∧ Aside0 (Below w.heap.size w w'))
 case atStart => exact ⟨(0), (0), rs, rs, H', ⟨Nat.le_refl _⟩, ⟨ub BK371.out⟩, ⟨bb⟩⟩
 case round =>
  clear H'
  try clear p2
  obtain ⟨x3_1, x4_1, rfl, rfl, HA, HK1, BK371, HB⟩ := hrel
  cases gk with
  | zero => exact absurd HA.out (by simp [spec_l8Count.l0])
  | succ k1 =>
   have H := HA.out
   clear HA
   simp only [spec_l8Count.l0] at H
   replace H := sd H
   rcases H with ⟨c3b0, H⟩ | ⟨c3b0, H⟩
   ·
    replace H := nde H; obtain ⟨c4b0, H⟩ := H; replace H := bd H; obtain ⟨t373, A5, H⟩ := H
    have H' := ak H; clear H
    obtain ⟨hcz6_0, hcz6_1, hcz6_2, hfz6_0, hfz6_1, hfz6_2⟩ := cz3 BK371.out
    have p372 := zi x4_1
    have q372 := zj x4_1 l0_2.length
    obtain ⟨ad372, A372_0, c372_0, A372_1, c372_1, A372_2, c372_2, e372, hx372_0, hx372_1, hx372_2, hl372_0, hi372_0, hl372_1, hi372_1, hl372_2, hi372_2⟩ := at_T28 HR0_2.out x4_1 p372 q372
    cases e372
    replace hx372_0 := cl HB.out hx372_0
    replace hx372_1 := cl HB.out hx372_1
    replace hx372_2 := cl HB.out hx372_2
    have HR372_0 := ak hi372_0
    have HC372_0 := ak hl372_0
    clear hi372_0 hl372_0
    have HR372_1 := ak hi372_1
    have HC372_1 := ak hl372_1
    clear hi372_1 hl372_1
    have HR372_2 := ak hi372_2
    have HC372_2 := ak hl372_2
    clear hi372_2 hl372_2
    replace p372 := eq_true p372
    replace q372 := eq_true q372
    go_wp2_with (first | (refine gL 77 18 Tryz.func77 #[.agg #[.slice A372_0 ((rd_T28 l0_2 x4_1).f0).length c372_0, .slice A372_1 ((rd_T28 l0_2 x4_1).f1).length c372_1, .slice A372_2 ((rd_T28 l0_2 x4_1).f2).length c372_2]] ?_; (with_reducible refine (ih k1 (by have := HK1.out; omega) _ _ ((rd_T28 l0_2 x4_1).f0) _ _ ((rd_T28 l0_2 x4_1).f1) _ _ ((rd_T28 l0_2 x4_1).f2) t373 _ (cu (Kd.C_below HR372_0.out HB.out)) HC372_0.out (cu (Kd.C_below HR372_1.out HB.out)) HC372_1.out (cu (Kd.C_below HR372_2.out HB.out)) HC372_2.out A5.out).mono ?_); rintro e w7 ⟨rfl, hb⟩; refine ⟨_, rfl, ?_⟩; replace BK371 := kb BK371 hb; replace HB := ak (below_step bb hb); (try clear hb)))
    go_roundg k1
    case measure => have := HK1.out; omega
    case rel => exact ⟨(wrap64 (x3_1 + t373)), (wrap64 (x4_1 + 1)), rs, rs, H', ⟨by have := HK1.out; omega⟩, ⟨ub BK371.out⟩, ⟨bb⟩⟩
   ·
    replace H := sp H
    rcases H with ⟨c8, H⟩ | ⟨c8, H⟩
    ·
     have c8b0 := beq_iff_eq.mpr c8
     have c8b1 := bne_eq_false_iff_eq.mpr c8
     clear c8
     obtain rfl := Option.some.inj H
     obtain ⟨hcz9_0, hcz9_1, hcz9_2, hfz9_0, hfz9_1, hfz9_2⟩ := cz3 BK371.out
     go_wp2
     go_ret
     exact ⟨er, bb⟩
    ·
     have c8b0 := beq_eq_false_iff_ne.mpr c8
     have c8b1 := bne_iff_ne.mpr c8
     have c8b2 : ¬ (l0_2 = []) := fun h_ => c8 (by rw [h_]; rfl)
     obtain rfl := Option.some.inj H
     obtain ⟨hcz10_0, hcz10_1, hcz10_2, hfz10_0, hfz10_1, hfz10_2⟩ := cz3 BK371.out
     go_wp2
     go_ret
     exact ⟨er, bb⟩
def spec_CountParts.f (k : Nat) (l0_0 : List (S69)) (l0_1 : List ByteArray) (l0_2 : List (S28)) : Option (Int) := (spec_PartValid.f k l0_0 l0_1 l0_2).bind fun t375 => (if t375 = true then ((spec_l8Count.f k l0_0 l0_1 l0_2).bind fun t376 => (some t376)) else (some 0))
set_option maxHeartbeats 8000000 in
set_option maxRecDepth 100000 in
theorem spec_CountParts.calls (k : Nat) (A0_0 : Option Addr) (c0_0 : Nat) (l0_0 : List (S69)) (A0_1 : Option Addr) (c0_1 : Nat) (l0_1 : List ByteArray) (A0_2 : Option Addr) (c0_2 : Nat) (l0_2 : List (S28)) (r : Int) (w : World) (hr0_0 : Kd.C k69 w A0_0 l0_0.length l0_0) (hc0_0 : l0_0.length ≤ c0_0) (hr0_1 : Kd.C Kd.string w A0_1 l0_1.length l0_1) (hc0_1 : l0_1.length ≤ c0_1) (hr0_2 : Kd.C k28 w A0_2 l0_2.length l0_2) (hc0_2 : l0_2.length ≤ c0_2) (h : spec_CountParts.f k l0_0 l0_1 l0_2 = some r) :
  Calls Tryz.prog 33 #[.agg #[.slice A0_0 l0_0.length c0_0, .slice A0_1 l0_1.length c0_1, .slice A0_2 l0_2.length c0_2]] w fun e w' => e = .returned (.int .i64 r) ∧ Below w.heap.size w w' := by
 have hu28 := Tryz.underlying28
 have HR0_0 := ak hr0_0
 have HC0_0 := ak hc0_0
 clear hr0_0 hc0_0
 have HR0_1 := ak hr0_1
 have HC0_1 := ak hc0_1
 clear hr0_1 hc0_1
 have HR0_2 := ak hr0_2
 have HC0_2 := ak hc0_2
 clear hr0_2 hc0_2
 have HB := ak (Below.refl w.heap.size w)
 have H : ((spec_PartValid.f k l0_0 l0_1 l0_2).bind fun t375 => (if t375 = true then ((spec_l8Count.f k l0_0 l0_1 l0_2).bind fun t376 => (some t376)) else (some 0))) = some r := h
 clear h
 replace H := bd H; obtain ⟨t375, A2, H⟩ := H; replace H := sb H
 rcases H with ⟨rfl, H⟩ | ⟨rfl, H⟩
 ·
  replace H := bd H; obtain ⟨t376, A4, H⟩ := H
  obtain rfl := Option.some.inj H
  go_enter Tryz.func33, Tryz.ntmps33
  go_wp2_with (first | (refine bE 1 #[.slice A0_0 l0_0.length c0_0, .slice A0_1 l0_1.length c0_1, .slice A0_2 l0_2.length c0_2] 28 ?_; intro gb374 hg w5 hbox hb; have BK374 := ak (hbox); have GW374 := ge_ HB hg; have GE374 := ge_ HB hg; replace HB := bs HB hb; clear hb hbox hg; obtain ⟨hcz6_0, hcz6_1, hcz6_2, hfz6_0, hfz6_1, hfz6_2⟩ := cz3 BK374.out) | (refine gL 30 4 Tryz.func30 #[.agg #[.slice A0_0 l0_0.length c0_0, .slice A0_1 l0_1.length c0_1, .slice A0_2 l0_2.length c0_2]] ?_; (with_reducible refine (spec_PartValid.calls k _ _ l0_0 _ _ l0_1 _ _ l0_2 true _ (cu (Kd.C_below HR0_0.out HB.out)) HC0_0.out (cu (Kd.C_below HR0_1.out HB.out)) HC0_1.out (cu (Kd.C_below HR0_2.out HB.out)) HC0_2.out A2.out).mono ?_); rintro e w7 ⟨rfl, hb⟩; refine ⟨_, rfl, ?_⟩; replace BK374 := kb BK374 hb; replace HB := ak (below_step bb hb); (try clear hb); obtain ⟨hcz8_0, hcz8_1, hcz8_2, hfz8_0, hfz8_1, hfz8_2⟩ := cz3 BK374.out) | (refine gL 77 7 Tryz.func77 #[.agg #[.slice A0_0 l0_0.length c0_0, .slice A0_1 l0_1.length c0_1, .slice A0_2 l0_2.length c0_2]] ?_; (with_reducible refine (spec_l8Count.calls k _ _ l0_0 _ _ l0_1 _ _ l0_2 t376 _ (cu (Kd.C_below HR0_0.out HB.out)) HC0_0.out (cu (Kd.C_below HR0_1.out HB.out)) HC0_1.out (cu (Kd.C_below HR0_2.out HB.out)) HC0_2.out A4.out).mono ?_); rintro e w9 ⟨rfl, hb⟩; refine ⟨_, rfl, ?_⟩; replace BK374 := kb BK374 hb; replace HB := ak (below_step bb hb); (try clear hb)))
  go_ret
  exact ⟨er, bb⟩
 ·
  obtain rfl := Option.some.inj H
  go_enter Tryz.func33, Tryz.ntmps33
  go_wp2_with (first | (refine bE 1 #[.slice A0_0 l0_0.length c0_0, .slice A0_1 l0_1.length c0_1, .slice A0_2 l0_2.length c0_2] 28 ?_; intro gb374 hg w10 hbox hb; have BK374 := ak (hbox); have GW374 := ge_ HB hg; have GE374 := ge_ HB hg; replace HB := bs HB hb; clear hb hbox hg; obtain ⟨hcz11_0, hcz11_1, hcz11_2, hfz11_0, hfz11_1, hfz11_2⟩ := cz3 BK374.out) | (refine gL 30 4 Tryz.func30 #[.agg #[.slice A0_0 l0_0.length c0_0, .slice A0_1 l0_1.length c0_1, .slice A0_2 l0_2.length c0_2]] ?_; (with_reducible refine (spec_PartValid.calls k _ _ l0_0 _ _ l0_1 _ _ l0_2 false _ (cu (Kd.C_below HR0_0.out HB.out)) HC0_0.out (cu (Kd.C_below HR0_1.out HB.out)) HC0_1.out (cu (Kd.C_below HR0_2.out HB.out)) HC0_2.out A2.out).mono ?_); rintro e w12 ⟨rfl, hb⟩; refine ⟨_, rfl, ?_⟩; replace BK374 := kb BK374 hb; replace HB := ak (below_step bb hb); (try clear hb)))
  go_ret
  exact ⟨er, bb⟩
end Go.Proofs.YtncdadcmghglkaaGreatDoor.PFnExactCountParts
