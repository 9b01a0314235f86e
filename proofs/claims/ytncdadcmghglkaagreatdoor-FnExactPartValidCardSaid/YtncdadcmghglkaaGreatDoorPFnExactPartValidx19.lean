/- Written by a program of this session out of the translation: each Go function named below as a Lean function, and the proof that the call answers as that function does; conditions: those in each statement. -/
import Derived.Test.YtncdadcmghglkaaGreatDoorVFnExactPartValidQt
import Derived.Test.YtncdadcmghglkaaGreatDoorVFnExactPartValidYt
import Derived.Test.YtncdadcmghglkaaGreatDoorPFnExactPartValidx0
import Derived.Test.YtncdadcmghglkaaGreatDoorPFnExactPartValidx12
import Derived.Test.YtncdadcmghglkaaGreatDoorPFnExactPartValidx17
import Derived.Test.YtncdadcmghglkaaGreatDoorPFnExactPartValidx18
-- short
-- dense
-- sq
namespace Go.Proofs.YtncdadcmghglkaaGreatDoor.PFnExactPartValid
open Go.RowKit Go.Proofs.YtncdadcmghglkaaGreatDoor.X Go.Proofs.YtncdadcmghglkaaGreatDoorW.PrintWords Go.Proofs.YtncdadcmghglkaaGreatDoorW.PrintLast Go.Proofs.YtncdadcmghglkaaGreatDoorW.PrintMore
attribute [local go_sem] max2_int min2_int max_two min_two max_three min_three max_four min_four   -- for this text's walks alone
set_option linter.unusedVariables false
set_option linter.unusedSimpArgs false

/-! ### spec_l8Valid: function 72 -/
mutual
def spec_l8Valid.j0 : Nat → Int → Bool → List (S69) → List ByteArray → List (S28) → Option (Bool)
 | 0, _, _, _, _, _ => none
 | k + 1, x1, x17, x572000, x572001, x572002 => if x17 = true then (some false) else ((spec_l8Boundary.f k x572000).bind fun bt573 => (if bt573.2 = true then (if (x572001.length : Int) > 0 then (spec_l8Valid.j1 k x1 bt573.1 true x572000 x572001 x572002) else (if (x572002.length : Int) < 1 then (spec_l8Valid.j1 k x1 bt573.1 true x572000 x572001 x572002) else (spec_l8Valid.j1 k x1 bt573.1 (decide ((x572002.length : Int) > 4)) x572000 x572001 x572002))) else (if (x572002.length : Int) = 0 then ((spec_l8Body.f k x572001).bind fun t575 => (some t575)) else (some false))))
def spec_l8Valid.j1 : Nat → Int → ByteArray → Bool → List (S69) → List ByteArray → List (S28) → Option (Bool)
 | 0, _, _, _, _, _, _ => none
 | k + 1, x1, x5, x50, x572000, x572001, x572002 => if x50 = true then (some false) else (spec_l8Valid.l0 k x1 x5 0 x572000 x572001 x572002)
def spec_l8Valid.l0 : Nat → Int → ByteArray → Int → List (S69) → List ByteArray → List (S28) → Option (Bool)
 | 0, _, _, _, _, _, _ => none
 | k + 1, x1, x5, x7, x572000, x572001, x572002 => if x7 < (x572002.length : Int) then (if 0 ≤ x7 then ((spec_l8Valid.f k ((rd_T28 x572002 x7).f0) ((rd_T28 x572002 x7).f1) ((rd_T28 x572002 x7).f2) (wrap64 (x1 - 1))).bind fun t577 => (if t577 = true then ((spec_l8Format.f k ((rd_T28 x572002 x7).f0) ((rd_T28 x572002 x7).f1) ((rd_T28 x572002 x7).f2)).bind fun t579 => (spec_l8Valid.l1 k x1 x5 x7 t579 0 x572000 x572001 x572002)) else (some false))) else (none)) else (some true)
def spec_l8Valid.l1 : Nat → Int → ByteArray → Int → List ByteArray → Int → List (S69) → List ByteArray → List (S28) → Option (Bool)
 | 0, _, _, _, _, _, _, _, _ => none
 | k + 1, x1, x5, x7, x8, x9, x572000, x572001, x572002 => if x9 < (x8.length : Int) then (if 0 ≤ x9 then ((spec_l7Looks.f (rdOf ByteArray.empty x8 x9) x5).bind fun t583 => (if t583 = true then (some false) else (spec_l8Valid.l1 k x1 x5 x7 x8 (wrap64 (x9 + 1)) x572000 x572001 x572002))) else (none)) else (spec_l8Valid.l0 k x1 x5 (wrap64 (x7 + 1)) x572000 x572001 x572002)
def spec_l8Valid.f : Nat → List (S69) → List ByteArray → List (S28) → Int → Option (Bool)
 | 0, _, _, _, _ => none
 | k + 1, l0_0, l0_1, l0_2, a1 => (spec_l3Valid.f k l0_0).bind fun t572 => (if t572 = true then (spec_l8Valid.j0 k a1 (decide (a1 < 1)) l0_0 l0_1 l0_2) else (spec_l8Valid.j0 k a1 true l0_0 l0_1 l0_2))
end
set_option maxHeartbeats 8000000 in
set_option maxRecDepth 100000 in
theorem spec_l8Valid.calls (k : Nat) : ∀ (A0_0 : Option Addr) (c0_0 : Nat) (l0_0 : List (S69)) (A0_1 : Option Addr) (c0_1 : Nat) (l0_1 : List ByteArray) (A0_2 : Option Addr) (c0_2 : Nat) (l0_2 : List (S28)) (a1 : Int) (r : Bool) (w : World) (hr0_0 : Kd.C k69 w A0_0 l0_0.length l0_0) (hc0_0 : l0_0.length ≤ c0_0) (hr0_1 : Kd.C Kd.string w A0_1 l0_1.length l0_1) (hc0_1 : l0_1.length ≤ c0_1) (hr0_2 : Kd.C k28 w A0_2 l0_2.length l0_2) (hc0_2 : l0_2.length ≤ c0_2) (h : spec_l8Valid.f k l0_0 l0_1 l0_2 a1 = some r),
  Calls Tryz.prog 72 #[.agg #[.slice A0_0 l0_0.length c0_0, .slice A0_1 l0_1.length c0_1, .slice A0_2 l0_2.length c0_2], .int .i64 a1] w fun e w' => e = .returned (.bool r) ∧ Below w.heap.size w w' := by
 induction k using Nat.strongRecOn with
 | _ k ih =>
 intro A0_0 c0_0 l0_0 A0_1 c0_1 l0_1 A0_2 c0_2 l0_2 a1 r w hr0_0 hc0_0 hr0_1 hc0_1 hr0_2 hc0_2 h
 cases k with
 | zero => exact absurd h (by simp [spec_l8Valid.f])
 | succ k =>
 simp only [spec_l8Valid.f] at h
 have hu28 := Tryz.underlying28
 have HR0_0 := ak hr0_0
 have HC0_0 := ak hc0_0
 clear hr0_0 hc0_0
 have HR0_1 := ak hr0_1
 have HC0_1 := ak hc0_1
 clear hr0_1 hc0_1
 have HR0_2 := ak hr0_2
 have HC0_2 := ak hc0_2
 clear hr0_2 hc0_2
 have HB := ak (Below.refl w.heap.size w)
 have H : ((spec_l3Valid.f k l0_0).bind fun t572 => (if t572 = true then (spec_l8Valid.j0 k a1 (decide (a1 < 1)) l0_0 l0_1 l0_2) else (spec_l8Valid.j0 k a1 true l0_0 l0_1 l0_2))) = some r := h
 clear h
 have HC3 := ak H
 clear H
 go_enter Tryz.func72, Tryz.ntmps72
 go_upto_region 1 with (first | (refine gate_dst (N := 2) rfl ?_; (try (refine gate_guard (by rfl) ?_; dsimp only)); refine bE 2 #[.slice A0_0 l0_0.length c0_0, .slice A0_1 l0_1.length c0_1, .slice A0_2 l0_2.length c0_2] 28 ?_; intro gb571 hg w4 hbox hb; have BK571 := ak (hbox); have GW571 := ge_ HB hg; have GE571 := ge_ HB hg; replace HB := bs HB hb; clear hb hbox hg))
 (try simp only [Act.put, l_a, l_b, l_c])
 go_cut [17] (fun v17 wc => ∃ (kq : Nat) (x17_2 : Bool), v17 = .bool x17_2 ∧ Aside0 (spec_l8Valid.j0 kq a1 x17_2 l0_0 l0_1 l0_2 = some r) ∧ Aside0 (kq ≤ k) ∧ Aside0 (wc.heap[gb571]? = some (.cells #[(.slice A0_0 l0_0.length c0_0), (.slice A0_1 l0_1.length c0_1), (.slice A0_2 l0_2.length c0_2)] 28 (0, 0))) ∧ Aside0 (Below w.heap.size w wc))
 case first =>
  have H := HC3.out
  clear HC3
  replace H := bd H; obtain ⟨t572, A5, H⟩ := H; replace H := sb H
  rcases H with ⟨rfl, H⟩ | ⟨rfl, H⟩
  ·
   have H' := ak H; clear H
   obtain ⟨hcz7_0, hcz7_1, hcz7_2, hfz7_0, hfz7_1, hfz7_2⟩ := cz3 BK571.out
   go_wp2_with (first | (refine gL 113 12 Tryz.func113 #[.slice A0_0 l0_0.length c0_0] ?_; (with_reducible refine (spec_l3Valid.calls k _ _ l0_0 true _ (cu (Kd.C_below HR0_0.out HB.out)) HC0_0.out A5.out).mono ?_); rintro e w8 ⟨rfl, hb⟩; refine ⟨_, rfl, ?_⟩; replace BK571 := kb BK571 hb; replace HB := ak (below_step bb hb); (try clear hb)))
   go_meet
   case rel => exact ⟨_, (decide (a1 < 1)), rs, H', ⟨le_⟩, ⟨ub BK571.out⟩, ⟨bb⟩⟩
  ·
   have H' := ak H; clear H
   obtain ⟨hcz9_0, hcz9_1, hcz9_2, hfz9_0, hfz9_1, hfz9_2⟩ := cz3 BK571.out
   go_wp2_with (first | (refine gL 113 12 Tryz.func113 #[.slice A0_0 l0_0.length c0_0] ?_; (with_reducible refine (spec_l3Valid.calls k _ _ l0_0 false _ (cu (Kd.C_below HR0_0.out HB.out)) HC0_0.out A5.out).mono ?_); rintro e w10 ⟨rfl, hb⟩; refine ⟨_, rfl, ?_⟩; replace BK571 := kb BK571 hb; replace HB := ak (below_step bb hb); (try clear hb)))
   go_meet
   case rel => exact ⟨_, (true), rs, H', ⟨le_⟩, ⟨ub BK571.out⟩, ⟨bb⟩⟩
 case rest =>
  clear HC3
  try clear c1
  try clear p2
  try clear c6
  try clear c7
  try clear hcz7_0
  try clear hcz7_1
  try clear hcz7_2
  try clear hcz9_0
  try clear hcz9_1
  try clear hcz9_2
  try clear hfz7_0
  try clear hfz7_1
  try clear hfz7_2
  try clear hfz9_0
  try clear hfz9_1
  try clear hfz9_2
  obtain ⟨kq, x17_2, rfl, HA, HJ2, BK571, HB⟩ := hcut
  cases kq with
  | zero => exact absurd HA.out (by simp [spec_l8Valid.j0])
  | succ kj2 =>
   have H := HA.out
   clear HA
   simp only [spec_l8Valid.j0] at H
   replace H := sb H
   rcases H with ⟨rfl, H⟩ | ⟨rfl, H⟩
   ·
    obtain rfl := Option.some.inj H
    go_wp2
    go_ret
    exact ⟨er, bb⟩
   ·
    replace H := bd H
    obtain ⟨⟨t573, t574⟩, A12, H⟩ := H
    (try dsimp only at H)
    replace H := sb H
    rcases H with ⟨rfl, H⟩ | ⟨rfl, H⟩
    ·
     have HC14 := ak H
     clear H
     obtain ⟨hcz15_0, hcz15_1, hcz15_2, hfz15_0, hfz15_1, hfz15_2⟩ := cz3 BK571.out
     go_upto_region 6 with (first | (refine gL 108 21 Tryz.func108 #[.slice A0_0 l0_0.length c0_0] ?_; (with_reducible refine (spec_l8Boundary.calls kj2 _ _ l0_0 t573 true _ (cu (Kd.C_below HR0_0.out HB.out)) HC0_0.out A12.out).mono ?_); rintro e w16 ⟨rfl, hb⟩; refine ⟨_, rfl, ?_⟩; replace BK571 := kb BK571 hb; replace HB := ak (below_step bb hb); (try clear hb)))
     (try simp only [Act.put, l_a, l_b, l_c])
     go_cut [50] (fun v50 wc => ∃ (kq : Nat) (x50_13 : Bool), v50 = .bool x50_13 ∧ Aside0 (spec_l8Valid.j1 kq a1 t573 x50_13 l0_0 l0_1 l0_2 = some r) ∧ Aside0 (kq ≤ kj2) ∧ Aside0 (wc.heap[gb571]? = some (.cells #[(.slice A0_0 l0_0.length c0_0), (.slice A0_1 l0_1.length c0_1), (.slice A0_2 l0_2.length c0_2)] 28 (0, 0))) ∧ Aside0 (Below w.heap.size w wc))
     case first =>
      have H := HC14.out
      clear HC14
      replace H := sp H
      rcases H with ⟨c17, H⟩ | ⟨c17, H⟩
      ·
       have c17b0 : decide (0 < (l0_1.length : Int)) = true := decide_eq_true c17
       have c17b1 : decide (0 < l0_1.length) = true := decide_eq_true (by omega)
       clear c17
       (first | rw [c17b0] | (simp only [i64_w, i32_w]; rw [c17b0]) | skip)
       have H' := ak H; clear H
       obtain ⟨hcz18_0, hcz18_1, hcz18_2, hfz18_0, hfz18_1, hfz18_2⟩ := cz3 BK571.out
       go_wp2
       go_meet
       case rel => exact ⟨_, (true), rs, H', ⟨by have := HJ2.out; first | omega | exact Nat.le_refl _⟩, ⟨ub BK571.out⟩, ⟨bb⟩⟩
      ·
       have c17b0 : decide (0 < (l0_1.length : Int)) = false := decide_eq_false c17
       have c17b1 : decide (0 < l0_1.length) = false := decide_eq_false (by omega)
       clear c17
       (first | rw [c17b0] | (simp only [i64_w, i32_w]; rw [c17b0]) | skip)
       replace H := sp H
       rcases H with ⟨c19, H⟩ | ⟨c19, H⟩
       ·
        have c19b0 := decide_eq_true c19
        have c19b1 : decide (l0_2.length < 1) = true := decide_eq_true (by omega)
        clear c19
        have H' := ak H; clear H
        obtain ⟨hcz20_0, hcz20_1, hcz20_2, hfz20_0, hfz20_1, hfz20_2⟩ := cz3 BK571.out
        go_wp2
        go_meet
        case rel => exact ⟨_, (true), rs, H', ⟨by have := HJ2.out; first | omega | exact Nat.le_refl _⟩, ⟨ub BK571.out⟩, ⟨bb⟩⟩
       ·
        have c19b0 := decide_eq_false c19
        have c19b1 : decide (l0_2.length < 1) = false := decide_eq_false (by omega)
        clear c19
        have H' := ak H; clear H
        obtain ⟨hcz21_0, hcz21_1, hcz21_2, hfz21_0, hfz21_1, hfz21_2⟩ := cz3 BK571.out
        go_wp2
        go_meet
        case rel => exact ⟨_, (decide ((l0_2.length : Int) > 4)), rs, H', ⟨by have := HJ2.out; first | omega | exact Nat.le_refl _⟩, ⟨ub BK571.out⟩, ⟨bb⟩⟩
     case rest =>
      clear HC14
      try clear c1
      try clear p2
      try clear c6
      try clear c7
      try clear c10
      try clear c11
      try clear c13
      try clear c17
      try clear c17b0
      try clear c17b1
      try clear c19
      try clear c19b0
      try clear c19b1
      try clear hcz15_0
      try clear hcz15_1
      try clear hcz15_2
      try clear hcz18_0
      try clear hcz18_1
      try clear hcz18_2
      try clear hcz20_0
      try clear hcz20_1
      try clear hcz20_2
      try clear hcz21_0
      try clear hcz21_1
      try clear hcz21_2
      try clear hcz7_0
      try clear hcz7_1
      try clear hcz7_2
      try clear hcz9_0
      try clear hcz9_1
      try clear hcz9_2
      try clear hfz15_0
      try clear hfz15_1
      try clear hfz15_2
      try clear hfz18_0
      try clear hfz18_1
      try clear hfz18_2
      try clear hfz20_0
      try clear hfz20_1
      try clear hfz20_2
      try clear hfz21_0
      try clear hfz21_1
      try clear hfz21_2
      try clear hfz7_0
      try clear hfz7_1
      try clear hfz7_2
      try clear hfz9_0
      try clear hfz9_1
      try clear hfz9_2
      try clear p2
      obtain ⟨kq, x50_13, rfl, HA, HJ13, BK571, HB⟩ := hcut
      cases kq with
      | zero => exact absurd HA.out (by simp [spec_l8Valid.j1])
      | succ kj13 =>
       have H := HA.out
       clear HA
       simp only [spec_l8Valid.j1] at H
       replace H := sb H
       rcases H with ⟨rfl, H⟩ | ⟨rfl, H⟩
       ·
        obtain rfl := Option.some.inj H
        go_wp2
        go_ret
        exact ⟨er, bb⟩
       ·
        have H' := ak H; clear H
        go_wp2
        go_loopg [7] kj13 (fun kq v7 w' => ∃ (x7_3 : Int), v7 = .int .i64 x7_3 ∧ Aside0 (spec_l8Valid.l0 kq a1 t573 x7_3 l0_0 l0_1 l0_2 = some r) ∧ Aside0 (kq ≤ kj13) ∧ Aside0 (w'.heap[gb571]? = some (.cells #[(.slice A0_0 l0_0.length c0_0), (.slice A0_1 l0_1.length c0_1), (.slice A0_2 l0_2.length c0_2)] 28 (0, 0))) ∧ Aside0 (Below w.heap.size w w'))
        case atStart => exact ⟨(0), rs, H', ⟨Nat.le_refl _⟩, ⟨ub BK571.out⟩, ⟨bb⟩⟩
        case round =>
         clear H'
         try clear c1
         try clear c2
         try clear p2
         try clear c6
         try clear c7
         try clear c10
         try clear c11
         try clear c13
         try clear c17
         try clear c17b0
         try clear c17b1
         try clear c19
         try clear c19b0
         try clear c19b1
         try clear c22
         try clear hcz15_0
         try clear hcz15_1
         try clear hcz15_2
         try clear hcz18_0
         try clear hcz18_1
         try clear hcz18_2
         try clear hcz20_0
         try clear hcz20_1
         try clear hcz20_2
         try clear hcz21_0
         try clear hcz21_1
         try clear hcz21_2
         try clear hcz7_0
         try clear hcz7_1
         try clear hcz7_2
         try clear hcz9_0
         try clear hcz9_1
         try clear hcz9_2
         try clear hfz15_0
         try clear hfz15_1
         try clear hfz15_2
         try clear hfz18_0
         try clear hfz18_1
         try clear hfz18_2
         try clear hfz20_0
         try clear hfz20_1
         try clear hfz20_2
         try clear hfz21_0
         try clear hfz21_1
         try clear hfz21_2
         try clear hfz7_0
         try clear hfz7_1
         try clear hfz7_2
         try clear hfz9_0
         try clear hfz9_1
         try clear hfz9_2
         try clear p2
         obtain ⟨x7_3, rfl, HA, HK3, BK571, HB⟩ := hrel
         cases gk with
         | zero => exact absurd HA.out (by simp [spec_l8Valid.l0])
         | succ k3 =>
          have H := HA.out
          clear HA
          simp only [spec_l8Valid.l0] at H
          replace H := sd H
          rcases H with ⟨c23b0, H⟩ | ⟨c23b0, H⟩
          ·
           replace H := nde H; obtain ⟨c24b0, H⟩ := H; replace H := bd H; obtain ⟨t577, A25, H⟩ := H; replace H := sb H
           rcases H with ⟨rfl, H⟩ | ⟨rfl, H⟩
           ·
            replace H := bd H; obtain ⟨t579, A27, H⟩ := H
            have H' := ak H; clear H
            obtain ⟨hcz28_0, hcz28_1, hcz28_2, hfz28_0, hfz28_1, hfz28_2⟩ := cz3 BK571.out
            have p576 := zi x7_3
            have q576 := zj x7_3 l0_2.length
            obtain ⟨ad576, A576_0, c576_0, A576_1, c576_1, A576_2, c576_2, e576, hx576_0, hx576_1, hx576_2, hl576_0, hi576_0, hl576_1, hi576_1, hl576_2, hi576_2⟩ := at_T28 HR0_2.out x7_3 p576 q576
            cases e576
            replace hx576_0 := cl HB.out hx576_0
            replace hx576_1 := cl HB.out hx576_1
            replace hx576_2 := cl HB.out hx576_2
            have HR576_0 := ak hi576_0
            have HC576_0 := ak hl576_0
            clear hi576_0 hl576_0
            have HR576_1 := ak hi576_1
            have HC576_1 := ak hl576_1
            clear hi576_1 hl576_1
            have HR576_2 := ak hi576_2
            have HC576_2 := ak hl576_2
            clear hi576_2 hl576_2
            replace p576 := eq_true p576
            replace q576 := eq_true q576
            go_wp2_with (first | (refine gL 72 65 Tryz.func72 #[.agg #[.slice A576_0 ((rd_T28 l0_2 x7_3).f0).length c576_0, .slice A576_1 ((rd_T28 l0_2 x7_3).f1).length c576_1, .slice A576_2 ((rd_T28 l0_2 x7_3).f2).length c576_2], .int .i64 (wrap64 (a1 - 1))] ?_; (with_reducible refine (ih k3 (by have := HJ2.out; have := HJ13.out; have := HK3.out; omega) _ _ ((rd_T28 l0_2 x7_3).f0) _ _ ((rd_T28 l0_2 x7_3).f1) _ _ ((rd_T28 l0_2 x7_3).f2) (wrap64 (a1 - 1)) true _ (cu (Kd.C_below HR576_0.out HB.out)) HC576_0.out (cu (Kd.C_below HR576_1.out HB.out)) HC576_1.out (cu (Kd.C_below HR576_2.out HB.out)) HC576_2.out A25.out).mono ?_); rintro e w29 ⟨rfl, hb⟩; refine ⟨_, rfl, ?_⟩; replace BK571 := kb BK571 hb; replace HB := ak (below_step bb hb); (try clear hb); obtain ⟨hcz30_0, hcz30_1, hcz30_2, hfz30_0, hfz30_1, hfz30_2⟩ := cz3 BK571.out; have p578 : 0 ≤ (x7_3 : Int) := of_decide_eq_true (by assumption); have q578 : x7_3 < (l0_2.length : Int) := of_decide_eq_true (by assumption); obtain ⟨ad578, A578_0, c578_0, A578_1, c578_1, A578_2, c578_2, e578, hx578_0, hx578_1, hx578_2, hl578_0, hi578_0, hl578_1, hi578_1, hl578_2, hi578_2⟩ := at_T28 HR0_2.out x7_3 p578 q578; obtain rfl : ad576 = ad578 := (by injection e578); replace hx578_0 := (HB.out.cell (World.block_lt_of_cell? w _ hx578_0)).trans hx578_0; replace hx578_1 := (HB.out.cell (World.block_lt_of_cell? w _ hx578_1)).trans hx578_1; replace hx578_2 := (HB.out.cell (World.block_lt_of_cell? w _ hx578_2)).trans hx578_2; have HR578_0 := ak hi578_0; have HC578_0 := ak hl578_0; clear hi578_0 hl578_0; have HR578_1 := ak hi578_1; have HC578_1 := ak hl578_1; clear hi578_1 hl578_1; have HR578_2 := ak hi578_2; have HC578_2 := ak hl578_2; clear hi578_2 hl578_2; replace p578 := eq_true p578; replace q578 := eq_true q578) | (refine gL 67 72 Tryz.func67 #[.agg #[.slice A578_0 ((rd_T28 l0_2 x7_3).f0).length c578_0, .slice A578_1 ((rd_T28 l0_2 x7_3).f1).length c578_1, .slice A578_2 ((rd_T28 l0_2 x7_3).f2).length c578_2]] ?_; (with_reducible refine (spec_l8Format.calls k3 _ _ ((rd_T28 l0_2 x7_3).f0) _ _ ((rd_T28 l0_2 x7_3).f1) _ _ ((rd_T28 l0_2 x7_3).f2) t579 _ (cu (Kd.C_below HR578_0.out HB.out)) HC578_0.out (cu (Kd.C_below HR578_1.out HB.out)) HC578_1.out (cu (Kd.C_below HR578_2.out HB.out)) HC578_2.out A27.out).mono ?_); rintro e w31 ⟨v580, rfl, ho0, hb⟩; refine ⟨_, rfl, ?_⟩; have HO581 := ak (Kd.R_lower ho0 (below_size bb)); replace BK571 := kb BK571 hb; replace HB := ak (below_step bb hb); (try clear hb); (try clear ho0)))
            go_loopg [9] k3 (fun kq v9 w' => ∃ (x9_4 : Int), v9 = .int .i64 x9_4 ∧ Aside0 (spec_l8Valid.l1 kq a1 t573 x7_3 t579 x9_4 l0_0 l0_1 l0_2 = some r) ∧ Aside0 (kq ≤ k3) ∧ Aside0 (Kd.R Kd.string 9 w' w.heap.size (fun _ => True) v580 t579) ∧ Aside0 (w'.heap[gb571]? = some (.cells #[(.slice A0_0 l0_0.length c0_0), (.slice A0_1 l0_1.length c0_1), (.slice (some ad576) l0_2.length c0_2)] 28 (0, 0))) ∧ Aside0 (Below w.heap.size w w'))
            case atStart => exact ⟨(0), rs, H', ⟨Nat.le_refl _⟩, ⟨ur HO581.out⟩, ⟨ub BK571.out⟩, ⟨bb⟩⟩
            case round =>
             clear H'
             try clear c1
             try clear c2
             try clear p2
             try clear c5
             try clear p5
             try clear q5
             try clear hx5
             try clear c6
             try clear p6
             try clear c7
             try clear c10
             try clear c11
             try clear c13
             try clear c17
             try clear c17b0
             try clear c17b1
             try clear c19
             try clear c19b0
             try clear c19b1
             try clear c22
             try clear c23
             try clear c23b0
             try clear c24
             try clear c24b0
             try clear c26
             try clear hcz15_0
             try clear hcz15_1
             try clear hcz15_2
             try clear hcz18_0
             try clear hcz18_1
             try clear hcz18_2
             try clear hcz20_0
             try clear hcz20_1
             try clear hcz20_2
             try clear hcz21_0
             try clear hcz21_1
             try clear hcz21_2
             try clear hcz28_0
             try clear hcz28_1
             try clear hcz28_2
             try clear hcz30_0
             try clear hcz30_1
             try clear hcz30_2
             try clear hcz7_0
             try clear hcz7_1
             try clear hcz7_2
             try clear hcz9_0
             try clear hcz9_1
             try clear hcz9_2
             try clear hfz15_0
             try clear hfz15_1
             try clear hfz15_2
             try clear hfz18_0
             try clear hfz18_1
             try clear hfz18_2
             try clear hfz20_0
             try clear hfz20_1
             try clear hfz20_2
             try clear hfz21_0
             try clear hfz21_1
             try clear hfz21_2
             try clear hfz28_0
             try clear hfz28_1
             try clear hfz28_2
             try clear hfz30_0
             try clear hfz30_1
             try clear hfz30_2
             try clear hfz7_0
             try clear hfz7_1
             try clear hfz7_2
             try clear hfz9_0
             try clear hfz9_1
             try clear hfz9_2
             try clear hx576_0
             try clear hx576_1
             try clear hx576_2
             try clear hx578_0
             try clear hx578_1
             try clear hx578_2
             try clear p2
             try clear p576
             try clear p578
             try clear q576
             try clear q578
             obtain ⟨x9_4, rfl, HA, HK4, HO_8, BK571, HB⟩ := hrel
             cases gk with
             | zero => exact absurd HA.out (by simp [spec_l8Valid.l1])
             | succ k4 =>
              have H := HA.out
              clear HA
              simp only [spec_l8Valid.l1] at H
              replace H := sd H
              rcases H with ⟨c32b0, H⟩ | ⟨c32b0, H⟩
              ·
               replace H := nde H; obtain ⟨c33b0, H⟩ := H; replace H := bd H; obtain ⟨t583, A34, H⟩ := H; replace H := sb H
               rcases H with ⟨rfl, H⟩ | ⟨rfl, H⟩
               ·
                obtain rfl := Option.some.inj H
                obtain ⟨Ao36, co36, eo36⟩ := Kd.R_slice HO_8.out
                subst eo36
                have p582 := zi x9_4
                have q582 := zj x9_4 t579.length
                obtain ⟨ad582, e582, hx582_0⟩ := Kd.at_string (Kd.R_reads' HO_8.out).2.2 x9_4 p582 q582
                cases e582
                replace p582 := eq_true p582
                replace q582 := eq_true q582
                go_wp2_with (first | (refine gL 115 84 Tryz.func115 #[.string (rdOf ByteArray.empty t579 x9_4), .string t573] ?_; (with_reducible refine (spec_l7Looks.calls (rdOf ByteArray.empty t579 x9_4) t573 true _ A34.out).mono ?_); rintro e w' ⟨rfl, ⟨nd, rfl⟩⟩; refine ⟨_, rfl, ?_⟩))
                go_ret
                exact ⟨er, bb⟩
               ·
                have H' := ak H; clear H
                obtain ⟨Ao37, co37, eo37⟩ := Kd.R_slice HO_8.out
                subst eo37
                have p582 := zi x9_4
                have q582 := zj x9_4 t579.length
                obtain ⟨ad582, e582, hx582_0⟩ := Kd.at_string (Kd.R_reads' HO_8.out).2.2 x9_4 p582 q582
                cases e582
                replace p582 := eq_true p582
                replace q582 := eq_true q582
                go_wp2_with (first | (refine gL 115 84 Tryz.func115 #[.string (rdOf ByteArray.empty t579 x9_4), .string t573] ?_; (with_reducible refine (spec_l7Looks.calls (rdOf ByteArray.empty t579 x9_4) t573 false _ A34.out).mono ?_); rintro e w' ⟨rfl, ⟨nd, rfl⟩⟩; refine ⟨_, rfl, ?_⟩))
                go_roundg k4
                case measure => have := HJ2.out; have := HJ13.out; have := HK3.out; have := HK4.out; omega
                case rel => exact ⟨(wrap64 (x9_4 + 1)), rs, H', ⟨by have := HJ2.out; have := HJ13.out; have := HK3.out; have := HK4.out; omega⟩, ⟨ur HO_8.out⟩, ⟨ub BK571.out⟩, ⟨bb⟩⟩
              ·
               have H' := ak H; clear H
               obtain ⟨Ao38, co38, eo38⟩ := Kd.R_slice HO_8.out
               subst eo38
               go_wp2
               go_roundg k4
               case measure => have := HJ2.out; have := HJ13.out; have := HK3.out; have := HK4.out; omega
               case rel => exact ⟨(wrap64 (x7_3 + 1)), rs, H', ⟨by have := HJ2.out; have := HJ13.out; have := HK3.out; have := HK4.out; omega⟩, ⟨ub BK571.out⟩, ⟨bb⟩⟩
           ·
            obtain rfl := Option.some.inj H
            obtain ⟨hcz39_0, hcz39_1, hcz39_2, hfz39_0, hfz39_1, hfz39_2⟩ := cz3 BK571.out
            have p576 := zi x7_3
            have q576 := zj x7_3 l0_2.length
            obtain ⟨ad576, A576_0, c576_0, A576_1, c576_1, A576_2, c576_2, e576, hx576_0, hx576_1, hx576_2, hl576_0, hi576_0, hl576_1, hi576_1, hl576_2, hi576_2⟩ := at_T28 HR0_2.out x7_3 p576 q576
            cases e576
            replace hx576_0 := cl HB.out hx576_0
            replace hx576_1 := cl HB.out hx576_1
            replace hx576_2 := cl HB.out hx576_2
            have HR576_0 := ak hi576_0
            have HC576_0 := ak hl576_0
            clear hi576_0 hl576_0
            have HR576_1 := ak hi576_1
            have HC576_1 := ak hl576_1
            clear hi576_1 hl576_1
            have HR576_2 := ak hi576_2
            have HC576_2 := ak hl576_2
            clear hi576_2 hl576_2
            replace p576 := eq_true p576
            replace q576 := eq_true q576
            go_wp2_with (first | (refine gL 72 65 Tryz.func72 #[.agg #[.slice A576_0 ((rd_T28 l0_2 x7_3).f0).length c576_0, .slice A576_1 ((rd_T28 l0_2 x7_3).f1).length c576_1, .slice A576_2 ((rd_T28 l0_2 x7_3).f2).length c576_2], .int .i64 (wrap64 (a1 - 1))] ?_; (with_reducible refine (ih k3 (by have := HJ2.out; have := HJ13.out; have := HK3.out; omega) _ _ ((rd_T28 l0_2 x7_3).f0) _ _ ((rd_T28 l0_2 x7_3).f1) _ _ ((rd_T28 l0_2 x7_3).f2) (wrap64 (a1 - 1)) false _ (cu (Kd.C_below HR576_0.out HB.out)) HC576_0.out (cu (Kd.C_below HR576_1.out HB.out)) HC576_1.out (cu (Kd.C_below HR576_2.out HB.out)) HC576_2.out A25.out).mono ?_); rintro e w40 ⟨rfl, hb⟩; refine ⟨_, rfl, ?_⟩; replace BK571 := kb BK571 hb; replace HB := ak (below_step bb hb); (try clear hb)))
            go_ret
            exact ⟨er, bb⟩
          ·
           obtain rfl := Option.some.inj H
           obtain ⟨hcz41_0, hcz41_1, hcz41_2, hfz41_0, hfz41_1, hfz41_2⟩ := cz3 BK571.out
           go_wp2
           go_ret
           exact ⟨er, bb⟩
    ·
     replace H := sp H
     rcases H with ⟨c42, H⟩ | ⟨c42, H⟩
     ·
      have c42b0 := beq_iff_eq.mpr c42
      have c42b1 := bne_eq_false_iff_eq.mpr c42
      clear c42
      replace H := bd H; obtain ⟨t575, A43, H⟩ := H
      obtain rfl := Option.some.inj H
      obtain ⟨hcz44_0, hcz44_1, hcz44_2, hfz44_0, hfz44_1, hfz44_2⟩ := cz3 BK571.out
      go_wp2_with (first | (refine gL 108 21 Tryz.func108 #[.slice A0_0 l0_0.length c0_0] ?_; (with_reducible refine (spec_l8Boundary.calls kj2 _ _ l0_0 t573 false _ (cu (Kd.C_below HR0_0.out HB.out)) HC0_0.out A12.out).mono ?_); rintro e w45 ⟨rfl, hb⟩; refine ⟨_, rfl, ?_⟩; replace BK571 := kb BK571 hb; replace HB := ak (below_step bb hb); (try clear hb); obtain ⟨hcz46_0, hcz46_1, hcz46_2, hfz46_0, hfz46_1, hfz46_2⟩ := cz3 BK571.out) | (go_at_call 114; (with_reducible refine (spec_l8Body.calls kj2 _ _ l0_1 t575 _ (cu (Kd.C_below HR0_1.out HB.out)) HC0_1.out A43.out).mono ?_); rintro e w' ⟨rfl, ⟨nd, rfl⟩⟩))
      go_ret
      exact ⟨er, bb⟩
     ·
      have c42b0 := beq_eq_false_iff_ne.mpr c42
      have c42b1 := bne_iff_ne.mpr c42
      have c42b2 : ¬ (l0_2 = []) := fun h_ => c42 (by rw [h_]; rfl)
      obtain rfl := Option.some.inj H
      obtain ⟨hcz47_0, hcz47_1, hcz47_2, hfz47_0, hfz47_1, hfz47_2⟩ := cz3 BK571.out
      go_wp2_with (first | (refine gL 108 21 Tryz.func108 #[.slice A0_0 l0_0.length c0_0] ?_; (with_reducible refine (spec_l8Boundary.calls kj2 _ _ l0_0 t573 false _ (cu (Kd.C_below HR0_0.out HB.out)) HC0_0.out A12.out).mono ?_); rintro e w48 ⟨rfl, hb⟩; refine ⟨_, rfl, ?_⟩; replace BK571 := kb BK571 hb; replace HB := ak (below_step bb hb); (try clear hb); obtain ⟨hcz49_0, hcz49_1, hcz49_2, hfz49_0, hfz49_1, hfz49_2⟩ := cz3 BK571.out))
      go_ret
      exact ⟨er, bb⟩

/-! ### spec_PartValid: function 30 -/
def spec_PartValid.f (k : Nat) (l0_0 : List (S69)) (l0_1 : List ByteArray) (l0_2 : List (S28)) : Option (Bool) := (spec_l8Valid.f k l0_0 l0_1 l0_2 3).bind fun t585 => (some t585)
set_option maxHeartbeats 8000000 in
set_option maxRecDepth 100000 in
theorem spec_PartValid.calls (k : Nat) (A0_0 : Option Addr) (c0_0 : Nat) (l0_0 : List (S69)) (A0_1 : Option Addr) (c0_1 : Nat) (l0_1 : List ByteArray) (A0_2 : Option Addr) (c0_2 : Nat) (l0_2 : List (S28)) (r : Bool) (w : World) (hr0_0 : Kd.C k69 w A0_0 l0_0.length l0_0) (hc0_0 : l0_0.length ≤ c0_0) (hr0_1 : Kd.C Kd.string w A0_1 l0_1.length l0_1) (hc0_1 : l0_1.length ≤ c0_1) (hr0_2 : Kd.C k28 w A0_2 l0_2.length l0_2) (hc0_2 : l0_2.length ≤ c0_2) (h : spec_PartValid.f k l0_0 l0_1 l0_2 = some r) :
  Calls Tryz.prog 30 #[.agg #[.slice A0_0 l0_0.length c0_0, .slice A0_1 l0_1.length c0_1, .slice A0_2 l0_2.length c0_2]] w fun e w' => e = .returned (.bool r) ∧ Below w.heap.size w w' := by
 have hu28 := Tryz.underlying28
 have HR0_0 := ak hr0_0
 have HC0_0 := ak hc0_0
 clear hr0_0 hc0_0
 have HR0_1 := ak hr0_1
 have HC0_1 := ak hc0_1
 clear hr0_1 hc0_1
 have HR0_2 := ak hr0_2
 have HC0_2 := ak hc0_2
 clear hr0_2 hc0_2
 have HB := ak (Below.refl w.heap.size w)
 have H : ((spec_l8Valid.f k l0_0 l0_1 l0_2 3).bind fun t585 => (some t585)) = some r := h
 clear h
 replace H := bd H; obtain ⟨t585, A2, H⟩ := H
 obtain rfl := Option.some.inj H
 go_enter Tryz.func30, Tryz.ntmps30
 go_wp2_with (first | (refine bE 1 #[.slice A0_0 l0_0.length c0_0, .slice A0_1 l0_1.length c0_1, .slice A0_2 l0_2.length c0_2] 28 ?_; intro gb584 hg w3 hbox hb; have BK584 := ak (hbox); have GW584 := ge_ HB hg; have GE584 := ge_ HB hg; replace HB := bs HB hb; clear hb hbox hg; obtain ⟨hcz4_0, hcz4_1, hcz4_2, hfz4_0, hfz4_1, hfz4_2⟩ := cz3 BK584.out) | (refine gL 72 4 Tryz.func72 #[.agg #[.slice A0_0 l0_0.length c0_0, .slice A0_1 l0_1.length c0_1, .slice A0_2 l0_2.length c0_2], .int .i64 3] ?_; (with_reducible refine (spec_l8Valid.calls k _ _ l0_0 _ _ l0_1 _ _ l0_2 3 t585 _ (cu (Kd.C_below HR0_0.out HB.out)) HC0_0.out (cu (Kd.C_below HR0_1.out HB.out)) HC0_1.out (cu (Kd.C_below HR0_2.out HB.out)) HC0_2.out A2.out).mono ?_); rintro e w5 ⟨rfl, hb⟩; refine ⟨_, rfl, ?_⟩; replace BK584 := kb BK584 hb; replace HB := ak (below_step bb hb); (try clear hb)))
 go_ret
 exact ⟨er, bb⟩

/-! ### laws_toStringS: function 53 -/
def laws_toStringS.l0 : Nat → List ByteArray → List ByteArray → Int → Option (List ByteArray)
 | 0, _, _, _ => none
 | k + 1, x0, x3, x4 => if x4 < (x0.length : Int) then (if 0 ≤ x4 then (if x4 < (x3.length : Int) then (laws_toStringS.l0 k x0 (x3.set (x4 : Int).toNat (rdOf ByteArray.empty x0 x4)) (wrap64 (x4 + 1))) else (none)) else (none)) else (some x3)
def laws_toStringS.f (k : Nat) (l0 : List ByteArray) : Option (List ByteArray) := if 0 ≤ (l0.length : Int) then (if ((l0.length : Int) : Int).toNat ≤ 17592186044416 then (laws_toStringS.l0 k l0 (List.replicate ((l0.length : Int) : Int).toNat (⟨#[]⟩ : ByteArray)) 0) else (none)) else (none)
set_option maxHeartbeats 8000000 in
set_option maxRecDepth 100000 in
theorem laws_toStringS.calls (k : Nat) (A0 : Option Addr) (c0 : Nat) (l0 : List ByteArray) (r : List ByteArray) (w : World) (hr0 : Kd.C Kd.string w A0 l0.length l0) (hc0 : l0.length ≤ c0) (h : laws_toStringS.f k l0 = some r) :
  Calls Tryz.prog 53 #[.slice A0 l0.length c0] w fun e w' => ∃ v0_ : Value, e = .returned (v0_) ∧ Kd.R Kd.string 9 w' w.heap.size (fun _ => True) v0_ r ∧ Below w.heap.size w w' := by
 have HR0 := ak hr0
 have HC0 := ak hc0
 clear hr0 hc0
 have HB := ak (Below.refl w.heap.size w)
 have H : (if 0 ≤ (l0.length : Int) then (if ((l0.length : Int) : Int).toNat ≤ 17592186044416 then (laws_toStringS.l0 k l0 (List.replicate ((l0.length : Int) : Int).toNat (⟨#[]⟩ : ByteArray)) 0) else (none)) else (none)) = some r := h
 clear h
 replace H := ne_ H; obtain ⟨c2b0, c2b1, H⟩ := H; replace H := ne_ H; obtain ⟨c3b0, c3b1, H⟩ := H
 obtain ⟨y586, Ny586⟩ := nm (List.replicate ((l0.length : Int) : Int).toNat (⟨#[]⟩ : ByteArray))
 rw [← Ny586.out] at H
 (try rw [Option.bind_some] at H)
 have H' := ak H; clear H
 go_enter Tryz.func53, Tryz.ntmps53
 go_wp2_with (first | ((with_reducible refine gate_dst (N := 7) rfl ?_); refine Kd.R_make Kd.string _ 9 rfl (N := 7) rfl 23 _ _ rfl (l0.length : Int) rfl rfl Tryz.underlying23 (.string ⟨#[]⟩) 16 info9 rfl (by decide) (by omega) (⟨#[]⟩ : ByteArray) (ok := fun _ => True) (okp := fun _ => True) rfl (fun _ hk => hk) trivial (of_decide_eq_true (by assumption)) (Nat.le_trans (Nat.mul_le_mul_right _ (of_decide_eq_true (by assumption) : (l0.length : Int).toNat ≤ 17592186044416)) (by omega)) (Below.refl _ _) (Nat.le_refl _) ?_; intro v587 w4 ho5 hb hg_ hnew_; clear hg_ hnew_; (first | rw [← Ny586.out] at ho5 | (simp only [Int.reduceToNat] at ho5; rw [← Ny586.out] at ho5)); have HO588 := ak (Kd.R_lower ho5 (below_size (ul HB.out))); replace HB := bs HB hb; clear hb ho5))
 go_loopg [4] k (fun kq v4 w' => ∃ (x3_1 : List ByteArray) (x4_1 : Int), v4 = .int .i64 x4_1 ∧ Aside0 (laws_toStringS.l0 kq l0 x3_1 x4_1 = some r) ∧ Aside0 (kq ≤ k) ∧ Aside0 (Kd.R Kd.string 9 w' w.heap.size (fun _ => True) v587 x3_1) ∧ Aside0 (Below w.heap.size w w'))
 case atStart => exact ⟨(y586), (0), rs, H', ⟨Nat.le_refl _⟩, ⟨ur HO588.out⟩, ⟨ul HB.out⟩⟩
 case round =>
  clear H'
  try clear c2
  try clear c2b0
  try clear c2b1
  try clear p2
  try clear c3
  try clear c3b0
  try clear c3b1
  try clear c5
  obtain ⟨x3_1, x4_1, rfl, HA, HK1, HO_3, HB⟩ := hrel
  cases gk with
  | zero => exact absurd HA.out (by simp [laws_toStringS.l0])
  | succ k1 =>
   have H := HA.out
   clear HA
   simp only [laws_toStringS.l0] at H
   replace H := sd H
   rcases H with ⟨c6b0, H⟩ | ⟨c6b0, H⟩
   ·
    replace H := nde H; obtain ⟨c7b0, H⟩ := H; replace H := nde H; obtain ⟨c8b0, H⟩ := H
    obtain ⟨y590, Ny590⟩ := nm (x3_1.set (x4_1 : Int).toNat (rdOf ByteArray.empty l0 x4_1))
    rw [← Ny590.out] at H
    (try rw [Option.bind_some] at H)
    have H' := ak H; clear H
    have p589 := zi x4_1
    have q589 := zj x4_1 l0.length
    obtain ⟨ad589, e589, hx589_0⟩ := Kd.at_string HR0.out x4_1 p589 q589
    cases e589
    replace hx589_0 := cl HB.out hx589_0
    replace p589 := eq_true p589
    replace q589 := eq_true q589
    have p9 := zi x4_1
    have q9 := zj x4_1 (x3_1.length : Int)
    obtain ⟨go9, co9, eo9, gb9, gl9, cl9, HG9⟩ := Kd.R_form HO_3.out (by omega)
    (first | cases eo9 | (injection eo9 with ea_ en_ ec_; (first | subst ea_ | (injection ea_ with ea_; subst ea_)); subst ec_; clear en_))
    have GB9 := ak gb9
    have GG9 := ak HG9
    clear gb9 gl9 HG9
    obtain ⟨hx9_0, hf9_0⟩ := Kd.R_celln (⟨#[]⟩ : ByteArray) HO_3.out (x4_1 : Int) p9 q9
    replace p9 := eq_true p9
    replace q9 := eq_true q9
    have HP10 := Kd.R_putg HO_3.out (x4_1 : Int) (rdOf ByteArray.empty l0 x4_1)
    go_wp2_with (first | ((with_reducible refine gate_store (t := 9) (p := 20) rfl ?_); refine store_event (t := 9) (p := 20) (v := ?vo_w11) (w1 := (wr.setCell ⟨go9, (x4_1 : Int).toNat, none⟩ (.string (rdOf ByteArray.empty l0 x4_1)))) ?hg ?ho ?hn ?hr ?_; (case ho => rfl); (case hg => rfl); (case hn => rfl); (case hr => first | (go_simp; done) | (go_simp; rfl)); intro w11 hw; have hg : wr.grownBy w11 (some go9) := (by rw [hw]; exact HP10.2); have hp_ : Kd.R Kd.string 9 w11 w.heap.size (fun _ => True) (.slice (some ⟨go9, 0, none⟩) x3_1.length co9) y590 := (by rw [hw, Ny590.out]; exact HP10.1); clear HP10; replace HO_3 := ak (hp_); replace HB := ak ((by rw [hw]; exact below_set (HB.out) GB9.out : Below w.heap.size w w11)); clear hg hw hp_))
    go_roundg k1
    case measure => have := HK1.out; omega
    case rel => exact ⟨(y590), (wrap64 (x4_1 + 1)), rs, H', ⟨by have := HK1.out; omega⟩, ⟨ur HO_3.out⟩, ⟨ul HB.out⟩⟩
   ·
    obtain rfl := Option.some.inj H
    go_wp2
    go_ret
    exact ⟨_, er, ur HO_3.out, ul HB.out⟩

/-! ### laws_toField: function 116 -/
def laws_toField.f (a0_0 : ByteArray) (a0_1 : ByteArray) : Option (ByteArray × ByteArray) := some (a0_0, a0_1)
set_option maxHeartbeats 8000000 in
set_option maxRecDepth 100000 in
theorem laws_toField.calls (a0_0 : ByteArray) (a0_1 : ByteArray) (r1 : ByteArray) (r2 : ByteArray) (w : World) (h : laws_toField.f a0_0 a0_1 = some (r1, r2)) :
  Calls Tryz.prog 116 #[.agg #[.string a0_0, .string a0_1]] w fun e w' => e = .returned (.agg #[.string r1, .string r2]) ∧ Below w.heap.size w w' := by
 have hu120 := Tryz.underlying120
 have hu69 := Tryz.underlying69
 have HB := ak (Below.refl w.heap.size w)
 have H : (some (a0_0, a0_1)) = some (r1, r2) := h
 clear h
 simp only [Option.some.injEq, Prod.mk.injEq] at H
 obtain ⟨rfl, rfl⟩ := H
 go_enter Tryz.func116, Tryz.ntmps116
 go_wp2_with (first | (refine bE 1 #[.string a0_0, .string a0_1] 120 ?_; intro gb591 hg w2 hbox hb; have BK591 := ak (hbox); have GW591 := ge_ HB hg; have GE591 := ge_ HB hg; replace HB := bs HB hb; clear hb hbox hg) | (refine bE 2 #[.string (⟨#[]⟩ : ByteArray), .string (⟨#[]⟩ : ByteArray)] 69 ?_; intro gb592 hg w3 hbox hb; have BK592 := ak (hbox); have GW592 := ak ((by rw [hg]; exact (below_size bb) : w.heap.size ≤ gb592)); have GE592 := ak ((by rw [hg]; exact (below_size bb) : w.heap.size ≤ gb592)); have NB591_592 := ak ((by rw [hg]; exact Nat.ne_of_lt (blk_lt (ub BK591.out)) : gb591 ≠ gb592)); have NB592_591 := ak ((by rw [hg]; exact Nat.ne_of_gt (blk_lt (ub BK591.out)) : gb592 ≠ gb591)); replace BK591 := kb BK591 hb; replace HB := ak (below_step bb hb); clear hb hbox hg) | (refine bE 3 #[.string (⟨#[]⟩ : ByteArray), .string (⟨#[]⟩ : ByteArray)] 69 ?_; intro gb593 hg w4 hbox hb; have BK593 := ak (hbox); have GW593 := ak ((by rw [hg]; exact (below_size bb) : w.heap.size ≤ gb593)); have GE593 := ak ((by rw [hg]; exact (below_size bb) : w.heap.size ≤ gb593)); have NB591_593 := ak ((by rw [hg]; exact Nat.ne_of_lt (blk_lt (ub BK591.out)) : gb591 ≠ gb593)); have NB593_591 := ak ((by rw [hg]; exact Nat.ne_of_gt (blk_lt (ub BK591.out)) : gb593 ≠ gb591)); have NB592_593 := ak ((by rw [hg]; exact Nat.ne_of_lt (blk_lt (ub BK592.out)) : gb592 ≠ gb593)); have NB593_592 := ak ((by rw [hg]; exact Nat.ne_of_gt (blk_lt (ub BK592.out)) : gb593 ≠ gb592)); replace BK591 := kb BK591 hb; replace BK592 := kb BK592 hb; replace HB := ak (below_step bb hb); clear hb hbox hg; have hnb5 := NB591_592.out; have hnc5 := NB592_591.out; have hnb6 := NB591_593.out; have hnc6 := NB593_591.out; obtain ⟨hcz7_0, hcz7_1, hfz7_0, hfz7_1⟩ := cz2 BK591.out; have hnb8 := NB593_592.out; have hnc8 := NB592_593.out; obtain ⟨hcz9_0, hcz9_1, hfz9_0, hfz9_1⟩ := cz2 BK593.out; obtain ⟨hcz10_0, hcz10_1, hfz10_0, hfz10_1⟩ := cz2 BK592.out))
 refine bodyPost_ret (results_cell_row rfl _ _ gb592 69 #[.string a0_0, .string a0_1] (0, 0) _ rfl (by (with_reducible repeat (first | refine blk_drewN ?_ _ | refine blk_drew ?_ | refine blk_alloc ?_ _)); refine blk_put (cs := #[.string a0_0, .string (⟨#[]⟩ : ByteArray)]) ?_ 1 _ rfl; (with_reducible repeat (first | refine blk_drewN ?_ _ | refine blk_drew ?_ | refine blk_alloc ?_ _)); refine blk_put (cs := #[.string (⟨#[]⟩ : ByteArray), .string (⟨#[]⟩ : ByteArray)]) ?_ 0 _ rfl; (with_reducible repeat (first | refine blk_drewN ?_ _ | refine blk_drew ?_ | refine blk_alloc ?_ _)); refine blk_far ?_ NB592_593.out _; (with_reducible repeat (first | refine blk_drewN ?_ _ | refine blk_drew ?_ | refine blk_alloc ?_ _)); refine blk_far ?_ NB592_593.out _; (with_reducible repeat (first | refine blk_drewN ?_ _ | refine blk_drew ?_ | refine blk_alloc ?_ _)); exact BK592.out) Tryz.underlying69 rfl (by kernel_rfl)) rfl ?_
 exact ⟨er, bb⟩

end Go.Proofs.YtncdadcmghglkaaGreatDoor.PFnExactPartValid
