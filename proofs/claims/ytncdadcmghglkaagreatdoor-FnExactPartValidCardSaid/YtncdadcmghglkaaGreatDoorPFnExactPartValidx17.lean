/- Written by a program of this session out of the translation: each Go function named below as a Lean function, and the proof that the call answers as that function does; conditions: those in each statement. -/
import Derived.Test.YtncdadcmghglkaaGreatDoorVFnExactPartValidQt
import Derived.Test.YtncdadcmghglkaaGreatDoorVFnExactPartValidYt
import Derived.Test.YtncdadcmghglkaaGreatDoorPFnExactPartValidx0
import Derived.Test.YtncdadcmghglkaaGreatDoorPFnExactPartValidx11
import Derived.Test.YtncdadcmghglkaaGreatDoorPFnExactPartValidx13
import Derived.Test.YtncdadcmghglkaaGreatDoorPFnExactPartValidx14
import Derived.Test.YtncdadcmghglkaaGreatDoorPFnExactPartValidx16
-- short
-- dense
-- sq
namespace Go.Proofs.YtncdadcmghglkaaGreatDoor.PFnExactPartValid
open Go.RowKit Go.Proofs.YtncdadcmghglkaaGreatDoor.X Go.Proofs.YtncdadcmghglkaaGreatDoorW.PrintWords Go.Proofs.YtncdadcmghglkaaGreatDoorW.PrintLast Go.Proofs.YtncdadcmghglkaaGreatDoorW.PrintMore
attribute [local go_sem] max2_int min2_int max_two min_two max_three min_three max_four min_four   -- for this text's walks alone
set_option linter.unusedVariables false
set_option linter.unusedSimpArgs false

/-! ### spec_ParseKind: function 155 -/
mutual
def spec_ParseKind.l0 : Nat → ByteArray → Bool → Bool → ByteArray → ByteArray → List (S69) → Option (ByteArray × ByteArray × (List (S69)) × Bool)
 | 0, _, _, _, _, _, _ => none
 | k + 1, x5, x6, x9, x481000, x481001, x481002 => if x6 = true then ((spec_l2Cut.f k x5 59).bind fun bt482 => ((spec_l2Trim.f k bt482.1).bind fun t485 => ((spec_l2Cut.f k t485 61).bind fun bt486 => ((spec_l2Trim.f k bt486.2.1).bind fun t489 => ((spec_l1Words.f k t489).bind fun bt490 => (if bt486.2.2 = true then (if bt490.2 = true then (spec_ParseKind.j1 k bt482.2.1 bt482.2.2 x9 bt486.1 bt490.1 ((bt490.1.length : Int) != 1) x481000 x481001 x481002) else (spec_ParseKind.j1 k bt482.2.1 bt482.2.2 x9 bt486.1 bt490.1 true x481000 x481001 x481002)) else (spec_ParseKind.j1 k bt482.2.1 bt482.2.2 x9 bt486.1 bt490.1 true x481000 x481001 x481002))))))) else (if x9 = true then ((spec_KindValid.f k x481000 x481001 x481002).bind fun t481 => (if t481 = true then (some (x481000, x481001, x481002, true)) else (some ((⟨#[]⟩ : ByteArray), (⟨#[]⟩ : ByteArray), ([] : List (S69)), false)))) else (some ((⟨#[]⟩ : ByteArray), (⟨#[]⟩ : ByteArray), ([] : List (S69)), false)))
def spec_ParseKind.j1 : Nat → ByteArray → Bool → Bool → ByteArray → List ByteArray → Bool → ByteArray → ByteArray → List (S69) → Option (ByteArray × ByteArray × (List (S69)) × Bool)
 | 0, _, _, _, _, _, _, _, _, _ => none
 | k + 1, x5, x6, x9, x12, x15, x69, x481000, x481001, x481002 => if x69 = true then (some ((⟨#[]⟩ : ByteArray), (⟨#[]⟩ : ByteArray), ([] : List (S69)), false)) else ((spec_l2Trim.f k x12).bind fun t494 => ((spec_LowerText.f t494).bind fun t495 => (if 0 < (x15.length : Int) then (if x481002.length < 4398046511104 then (spec_ParseKind.l0 k x5 x6 x9 x481000 x481001 (x481002 ++ [(⟨t495, rdOf ByteArray.empty x15 0⟩ : S69)])) else (none)) else (none))))
end
def spec_ParseKind.f (k : Nat) (a0 : ByteArray) : Option (ByteArray × ByteArray × (List (S69)) × Bool) := (spec_TextValid.f k a0).bind fun t470 => (if t470 = true then ((spec_l2Cut.f k a0 59).bind fun bt471 => ((spec_l2Trim.f k bt471.1).bind fun t474 => ((spec_l2Cut.f k t474 47).bind fun bt475 => ((spec_LowerText.f bt475.1).bind fun t478 => ((spec_LowerText.f bt475.2.1).bind fun t479 => (spec_ParseKind.l0 k bt471.2.1 bt471.2.2 bt475.2.2 t478 t479 ([] : List (S69)))))))) else (some ((⟨#[]⟩ : ByteArray), (⟨#[]⟩ : ByteArray), ([] : List (S69)), false)))
def spec_ParseKind.T13 : Bool × List (List Nat × List Nat) := (true, [([], []), ([0], [0]), ([], []), ([2], [2]), ([3, 3], [3]), ([], []), ([5], [5]), ([6], [6]), ([4, 7], [4, 7]), ([8], [8]), ([1, 9, 4], [1, 9]), ([0, 1, 2, 3, 4, 5, 6, 7, 8, 9, 10], []), ([11, 10, 10, 0, 1, 2, 3, 4, 5, 6, 7, 8, 9, 10], [10, 11])])
def spec_ParseKind.B13 : List Nat := [0, 1, 0, 4, 12, 0, 32, 96, 252, 508, 1023, 2047, 4095]
theorem spec_ParseKind.tab13 : rtab .any (opsOf Tryz.f155 13) = spec_ParseKind.T13 := by kernel_rfl
theorem spec_ParseKind.bits13 : waitsOk spec_ParseKind.T13.2 spec_ParseKind.B13 = true := by kernel_rfl
set_option maxHeartbeats 8000000 in
set_option maxRecDepth 100000 in
theorem spec_ParseKind.calls (k : Nat) (a0 : ByteArray) (r1 : ByteArray) (r2 : ByteArray) (r3 : List (S69)) (r4 : Bool) (w : World) (h : spec_ParseKind.f k a0 = some (r1, r2, r3, r4)) :
  Calls Tryz.prog 155 #[.string a0] w fun e w' => ∃ v2_ : Value, e = .returned (.tuple #[.agg #[.string r1, .string r2, v2_], .bool r4]) ∧ Kd.R k69 69 w' w.heap.size (fun _ => True) v2_ r3 ∧ Below w.heap.size w w' := by
 have hu61 := Tryz.underlying61
 have hu69 := Tryz.underlying69
 have HB := ak (Below.refl w.heap.size w)
 have H : ((spec_TextValid.f k a0).bind fun t470 => (if t470 = true then ((spec_l2Cut.f k a0 59).bind fun bt471 => ((spec_l2Trim.f k bt471.1).bind fun t474 => ((spec_l2Cut.f k t474 47).bind fun bt475 => ((spec_LowerText.f bt475.1).bind fun t478 => ((spec_LowerText.f bt475.2.1).bind fun t479 => (spec_ParseKind.l0 k bt471.2.1 bt471.2.2 bt475.2.2 t478 t479 ([] : List (S69)))))))) else (some ((⟨#[]⟩ : ByteArray), (⟨#[]⟩ : ByteArray), ([] : List (S69)), false)))) = some (r1, r2, r3, r4) := h
 clear h
 replace H := bd H; obtain ⟨t470, A2, H⟩ := H; replace H := sb H
 rcases H with ⟨rfl, H⟩ | ⟨rfl, H⟩
 ·
  replace H := bd H
  obtain ⟨⟨t471, t472, t473⟩, A4, H⟩ := H
  (try dsimp only at H)
  replace H := bd H; obtain ⟨t474, A5, H⟩ := H; replace H := bd H
  obtain ⟨⟨t475, t476, t477⟩, A6, H⟩ := H
  (try dsimp only at H)
  replace H := bd H; obtain ⟨t478, A7, H⟩ := H; replace H := bd H; obtain ⟨t479, A8, H⟩ := H
  have H' := ak H; clear H
  go_enter Tryz.func155, Tryz.ntmps155
  go_wp2_with (first | (refine gate_dst (N := 2) rfl ?_; (try (refine gate_guard (by rfl) ?_; dsimp only)); refine bE 2 #[.string (⟨#[]⟩ : ByteArray), .string (⟨#[]⟩ : ByteArray), .slice none 0 0] 61 ?_; intro gb469 hg w9 hbox hb; have BK469 := ak (hbox); have GW469 := ge_ HB hg; have GE469 := ge_ HB hg; replace HB := bs HB hb; clear hb hbox hg) | (refine gL 159 18 Tryz.func159 #[.string a0] ?_; (with_reducible refine (spec_TextValid.calls k a0 true _ A2.out).mono ?_); rintro e w' ⟨rfl, ⟨nd, rfl⟩⟩; refine ⟨_, rfl, ?_⟩; (try (rw [drewN_self w9]; generalize hq_ : World.drewN w9 _ = w9; have n0_ : Aside0 (w9.heap[gb469]? = some (.cells #[.string (⟨#[]⟩ : ByteArray), .string (⟨#[]⟩ : ByteArray), .slice none 0 0] 61 (0, 0))) := ⟨by rw [← hq_]; exact (ub BK469.out)⟩; have n1_ : Aside0 (Below w.heap.size w w9) := ⟨by rw [← hq_]; exact bb⟩; clear BK469 HB hq_; have BK469 := n0_; have HB := n1_; clear n0_ n1_))) | (refine gL 178 23 Tryz.func178 #[.string a0, .int .u8 59] ?_; (with_reducible refine (spec_l2Cut.calls k a0 59 t471 t472 t473 _ A4.out).mono ?_); rintro e w' ⟨rfl, ⟨nd, rfl⟩⟩; refine ⟨_, rfl, ?_⟩; (try (rw [drewN_self w9]; generalize hq_ : World.drewN w9 _ = w9; have n0_ : Aside0 (w9.heap[gb469]? = some (.cells #[.string (⟨#[]⟩ : ByteArray), .string (⟨#[]⟩ : ByteArray), .slice none 0 0] 61 (0, 0))) := ⟨by rw [← hq_]; exact (ub BK469.out)⟩; have n1_ : Aside0 (Below w.heap.size w w9) := ⟨by rw [← hq_]; exact bb⟩; clear BK469 HB hq_; have BK469 := n0_; have HB := n1_; clear n0_ n1_))) | (refine gL 179 29 Tryz.func179 #[.string t471] ?_; (with_reducible refine (spec_l2Trim.calls k t471 t474 _ A5.out).mono ?_); rintro e w' ⟨rfl, ⟨nd, rfl⟩⟩; refine ⟨_, rfl, ?_⟩; (try (rw [drewN_self w9]; generalize hq_ : World.drewN w9 _ = w9; have n0_ : Aside0 (w9.heap[gb469]? = some (.cells #[.string (⟨#[]⟩ : ByteArray), .string (⟨#[]⟩ : ByteArray), .slice none 0 0] 61 (0, 0))) := ⟨by rw [← hq_]; exact (ub BK469.out)⟩; have n1_ : Aside0 (Below w.heap.size w w9) := ⟨by rw [← hq_]; exact bb⟩; clear BK469 HB hq_; have BK469 := n0_; have HB := n1_; clear n0_ n1_))) | (refine gL 178 30 Tryz.func178 #[.string t474, .int .u8 47] ?_; (with_reducible refine (spec_l2Cut.calls k t474 47 t475 t476 t477 _ A6.out).mono ?_); rintro e w' ⟨rfl, ⟨nd, rfl⟩⟩; refine ⟨_, rfl, ?_⟩; (try (rw [drewN_self w9]; generalize hq_ : World.drewN w9 _ = w9; have n0_ : Aside0 (w9.heap[gb469]? = some (.cells #[.string (⟨#[]⟩ : ByteArray), .string (⟨#[]⟩ : ByteArray), .slice none 0 0] 61 (0, 0))) := ⟨by rw [← hq_]; exact (ub BK469.out)⟩; have n1_ : Aside0 (Below w.heap.size w w9) := ⟨by rw [← hq_]; exact bb⟩; clear BK469 HB hq_; have BK469 := n0_; have HB := n1_; clear n0_ n1_))) | (refine gL 180 35 Tryz.func180 #[.string t475] ?_; (with_reducible refine (spec_LowerText.calls t475 t478 _ A7.out).mono ?_); rintro e w10 ⟨rfl, hb⟩; refine ⟨_, rfl, ?_⟩; replace BK469 := kb BK469 hb; replace HB := ak (below_step bb hb); (try clear hb)) | (refine gL 180 37 Tryz.func180 #[.string t476] ?_; (with_reducible refine (spec_LowerText.calls t476 t479 _ A8.out).mono ?_); rintro e w11 ⟨rfl, hb⟩; refine ⟨_, rfl, ?_⟩; replace BK469 := kb BK469 hb; replace HB := ak (below_step bb hb); (try clear hb)) | (refine gate_dst (N := 10) rfl ?_; (try (refine gate_guard (by rfl) ?_; dsimp only)); refine bE 10 #[.string (⟨#[]⟩ : ByteArray), .string (⟨#[]⟩ : ByteArray), .slice none 0 0] 61 ?_; intro gb480 hg w12 hbox hb; have BK480 := ak (hbox); have GW480 := ak ((by rw [hg]; exact (below_size bb) : w.heap.size ≤ gb480)); have GE480 := ak ((by rw [hg]; exact (below_size bb) : w.heap.size ≤ gb480)); have NB469_480 := ak ((by rw [hg]; exact Nat.ne_of_lt (blk_lt (ub BK469.out)) : gb469 ≠ gb480)); have NB480_469 := ak ((by rw [hg]; exact Nat.ne_of_gt (blk_lt (ub BK469.out)) : gb480 ≠ gb469)); replace BK469 := kb BK469 hb; replace HB := ak (below_step bb hb); clear hb hbox hg; have hnb13 := NB480_469.out; have hnc13 := NB469_480.out; obtain ⟨hcz14_0, hcz14_1, hcz14_2, hfz14_0, hfz14_1, hfz14_2⟩ := cz3 BK480.out))
  go_loopg [5, 6] k (fun kq v5 v6 w' => ∃ (x5_1 : ByteArray) (x6_1 : Bool) (x470000_1 : ByteArray) (x470001_1 : ByteArray) (x481002_1 : List (S69)) (u481002 : Value), v5 = .string x5_1 ∧ v6 = .bool x6_1 ∧ Aside0 (spec_ParseKind.l0 kq x5_1 x6_1 t477 t478 t479 x481002_1 = some (r1, r2, r3, r4)) ∧ Aside0 (kq ≤ k) ∧ Aside0 (Kd.R k69 69 w' w.heap.size (fun _ => True) u481002 x481002_1) ∧ Aside0 (w'.heap[gb469]? = some (.cells #[.string x470000_1, .string x470001_1, (.slice none 0 0)] 61 (0, 0))) ∧ Aside0 (w'.heap[gb480]? = some (.cells #[.string t478, .string t479, u481002] 61 (0, 0))) ∧ Aside0 (Below w.heap.size w w'))
  case atStart => exact ⟨(t472), (t473), ((⟨#[]⟩ : ByteArray)), ((⟨#[]⟩ : ByteArray)), (([] : List (S69))), (.slice none 0 0), rs, rs, H', ⟨Nat.le_refl _⟩, ⟨nx⟩, ⟨by (with_reducible repeat (first | refine blk_drewN ?_ _ | refine blk_drew ?_ | refine blk_alloc ?_ _)); refine blk_far ?_ NB469_480.out _; (with_reducible repeat (first | refine blk_drewN ?_ _ | refine blk_drew ?_ | refine blk_alloc ?_ _)); refine blk_far ?_ NB469_480.out _; (with_reducible repeat (first | refine blk_drewN ?_ _ | refine blk_drew ?_ | refine blk_alloc ?_ _)); refine blk_far ?_ NB469_480.out _; (with_reducible repeat (first | refine blk_drewN ?_ _ | refine blk_drew ?_ | refine blk_alloc ?_ _)); exact BK469.out⟩, ⟨by (with_reducible repeat (first | refine blk_drewN ?_ _ | refine blk_drew ?_ | refine blk_alloc ?_ _)); refine blk_put (cs := #[.string t478, .string t479, .slice none 0 0]) ?_ 2 _ rfl; (with_reducible repeat (first | refine blk_drewN ?_ _ | refine blk_drew ?_ | refine blk_alloc ?_ _)); refine blk_put (cs := #[.string t478, .string (⟨#[]⟩ : ByteArray), .slice none 0 0]) ?_ 1 _ rfl; (with_reducible repeat (first | refine blk_drewN ?_ _ | refine blk_drew ?_ | refine blk_alloc ?_ _)); refine blk_put (cs := #[.string (⟨#[]⟩ : ByteArray), .string (⟨#[]⟩ : ByteArray), .slice none 0 0]) ?_ 0 _ rfl; (with_reducible repeat (first | refine blk_drewN ?_ _ | refine blk_drew ?_ | refine blk_alloc ?_ _)); exact BK480.out⟩, ⟨bb⟩⟩
  case round =>
   clear H'
   try clear c1
   try clear p2
   try clear c3
   try clear c13
   try clear hcz14_0
   try clear hcz14_1
   try clear hcz14_2
   try clear hfz14_0
   try clear hfz14_1
   try clear hfz14_2
   obtain ⟨x5_1, x6_1, x470000_1, x470001_1, x481002_1, u481002, rfl, rfl, HA, HK1, HO_481002, BK469, BK480, HB⟩ := hrel
   cases gk with
   | zero => exact absurd HA.out (by simp [spec_ParseKind.l0])
   | succ k1 =>
    have H := HA.out
    clear HA
    simp only [spec_ParseKind.l0] at H
    replace H := sb H
    rcases H with ⟨rfl, H⟩ | ⟨rfl, H⟩
    ·
     replace H := bd H
     obtain ⟨⟨t482, t483, t484⟩, A16, H⟩ := H
     (try dsimp only at H)
     replace H := bd H; obtain ⟨t485, A17, H⟩ := H; replace H := bd H
     obtain ⟨⟨t486, t487, t488⟩, A18, H⟩ := H
     (try dsimp only at H)
     replace H := bd H; obtain ⟨t489, A19, H⟩ := H; replace H := bd H
     obtain ⟨⟨t490, t491⟩, A20, H⟩ := H
     (try dsimp only at H)
     have HC21 := ak H
     clear H
     go_upto_region 11 with (first | (refine gL 178 42 Tryz.func178 #[.string x5_1, .int .u8 59] ?_; (with_reducible refine (spec_l2Cut.calls k1 x5_1 59 t482 t483 t484 _ A16.out).mono ?_); rintro e w' ⟨rfl, ⟨nd, rfl⟩⟩; refine ⟨_, rfl, ?_⟩) | (refine gL 179 48 Tryz.func179 #[.string t482] ?_; (with_reducible refine (spec_l2Trim.calls k1 t482 t485 _ A17.out).mono ?_); rintro e w' ⟨rfl, ⟨nd, rfl⟩⟩; refine ⟨_, rfl, ?_⟩) | (refine gL 178 49 Tryz.func178 #[.string t485, .int .u8 61] ?_; (with_reducible refine (spec_l2Cut.calls k1 t485 61 t486 t487 t488 _ A18.out).mono ?_); rintro e w' ⟨rfl, ⟨nd, rfl⟩⟩; refine ⟨_, rfl, ?_⟩) | (refine gL 179 55 Tryz.func179 #[.string t487] ?_; (with_reducible refine (spec_l2Trim.calls k1 t487 t489 _ A19.out).mono ?_); rintro e w' ⟨rfl, ⟨nd, rfl⟩⟩; refine ⟨_, rfl, ?_⟩) | (refine gL 181 56 Tryz.func181 #[.string t489] ?_; (with_reducible refine (spec_l1Words.calls k1 t489 t490 t491 _ A20.out).mono ?_); rintro e w22 ⟨v492, rfl, ho0, hb⟩; refine ⟨_, rfl, ?_⟩; have HO493 := ak (Kd.R_lower ho0 (below_size bb)); replace HO_481002 := rb HO_481002 hb; replace BK469 := kb BK469 hb; replace BK480 := kb BK480 hb; replace HB := ak (below_step bb hb); (try clear hb); (try clear ho0)))
     (try simp only [Act.put, l_a, l_b, l_c])
     go_cut [69] (fun v69 wc => ∃ (kq : Nat) (x69_20 : Bool), v69 = .bool x69_20 ∧ Aside0 (spec_ParseKind.j1 kq t483 t484 t477 t486 t490 x69_20 t478 t479 x481002_1 = some (r1, r2, r3, r4)) ∧ Aside0 (kq ≤ k1) ∧ Aside0 (Kd.R Kd.string 9 wc w.heap.size (fun _ => True) v492 t490) ∧ Aside0 (Kd.R k69 69 wc w.heap.size (fun _ => True) u481002 x481002_1) ∧ Aside0 (wc.heap[gb469]? = some (.cells #[.string x470000_1, .string x470001_1, (.slice none 0 0)] 61 (0, 0))) ∧ Aside0 (wc.heap[gb480]? = some (.cells #[.string t478, .string t479, u481002] 61 (0, 0))) ∧ Aside0 (Below w.heap.size w wc))
     case first =>
      have H := HC21.out
      clear HC21
      replace H := sb H
      rcases H with ⟨rfl, H⟩ | ⟨rfl, H⟩
      ·
       replace H := sb H
       rcases H with ⟨rfl, H⟩ | ⟨rfl, H⟩
       ·
        have H' := ak H; clear H
        obtain ⟨Ao25, co25, eo25⟩ := Kd.R_slice HO493.out
        subst eo25
        go_wp2
        go_meet
        case rel => exact ⟨_, (((t490.length : Int) != 1)), rs, H', ⟨by have := HK1.out; first | omega | exact Nat.le_refl _⟩, ⟨ur HO493.out⟩, ⟨ur HO_481002.out⟩, ⟨ub BK469.out⟩, ⟨ub BK480.out⟩, ⟨bb⟩⟩
       ·
        have H' := ak H; clear H
        go_wp2
        go_meet
        case rel => exact ⟨_, (true), rs, H', ⟨by have := HK1.out; first | omega | exact Nat.le_refl _⟩, ⟨ur HO493.out⟩, ⟨ur HO_481002.out⟩, ⟨ub BK469.out⟩, ⟨ub BK480.out⟩, ⟨bb⟩⟩
      ·
       have H' := ak H; clear H
       go_wp2
       go_meet
       case rel => exact ⟨_, (true), rs, H', ⟨by have := HK1.out; first | omega | exact Nat.le_refl _⟩, ⟨ur HO493.out⟩, ⟨ur HO_481002.out⟩, ⟨ub BK469.out⟩, ⟨ub BK480.out⟩, ⟨bb⟩⟩
     case rest =>
      clear HC21
      try clear c1
      try clear c2
      try clear p2
      try clear c3
      try clear c13
      try clear c15
      try clear c17
      try clear c18
      try clear c23
      try clear c24
      try clear hcz14_0
      try clear hcz14_1
      try clear hcz14_2
      try clear hfz14_0
      try clear hfz14_1
      try clear hfz14_2
      try clear p2
      obtain ⟨kq, x69_20, rfl, HA, HJ20, HO_15, HO_481002, BK469, BK480, HB⟩ := hcut
      cases kq with
      | zero => exact absurd HA.out (by simp [spec_ParseKind.j1])
      | succ kj20 =>
       have H := HA.out
       clear HA
       simp only [spec_ParseKind.j1] at H
       replace H := sb H
       rcases H with ⟨rfl, H⟩ | ⟨rfl, H⟩
       ·
        simp only [Option.some.injEq, Prod.mk.injEq] at H
        obtain ⟨rfl, rfl, rfl, rfl⟩ := H
        have hnb27 := NB469_480.out
        have hnc27 := NB480_469.out
        obtain ⟨hcz28_0, hcz28_1, hcz28_2, hfz28_0, hfz28_1, hfz28_2⟩ := cz3 BK469.out
        go_wp2
        refine bodyPost_ret (results_ct rfl _ _ gb469 61 #[.string (⟨#[]⟩ : ByteArray), .string (⟨#[]⟩ : ByteArray), .slice none 0 0] (0, 0) _ rfl (by (with_reducible repeat (first | refine blk_drewN ?_ _ | refine blk_drew ?_ | refine blk_alloc ?_ _)); refine blk_put (cs := #[.string (⟨#[]⟩ : ByteArray), .string (⟨#[]⟩ : ByteArray), .slice none 0 0]) ?_ 2 _ rfl; (with_reducible repeat (first | refine blk_drewN ?_ _ | refine blk_drew ?_ | refine blk_alloc ?_ _)); refine blk_put (cs := #[.string (⟨#[]⟩ : ByteArray), .string x470001_1, .slice none 0 0]) ?_ 1 _ rfl; (with_reducible repeat (first | refine blk_drewN ?_ _ | refine blk_drew ?_ | refine blk_alloc ?_ _)); refine blk_put (cs := #[.string x470000_1, .string x470001_1, .slice none 0 0]) ?_ 0 _ rfl; (with_reducible repeat (first | refine blk_drewN ?_ _ | refine blk_drew ?_ | refine blk_alloc ?_ _)); exact BK469.out) Tryz.underlying61 rfl (by kernel_rfl)) rfl ?_
        exact ⟨_, er, nx, bb⟩
       ·
        replace H := bd H; obtain ⟨t494, A29, H⟩ := H; replace H := bd H; obtain ⟨t495, A30, H⟩ := H; replace H := nn H; obtain ⟨c31, H⟩ := H
        have c31b0 := decide_eq_true c31
        have c31b1 : decide (0 < t490.length) = true := decide_eq_true (by omega)
        clear c31
        replace H := nl H; obtain ⟨LMc32, H⟩ := H
        obtain ⟨y497, Ny497⟩ := nm (x481002_1 ++ [(⟨t495, rdOf ByteArray.empty t490 0⟩ : S69)])
        rw [← Ny497.out] at H
        (try rw [Option.bind_some] at H)
        have H' := ak H; clear H
        try go_wp2
        replace HO_15 := ak (Kd.R_drew HO_15.out)
        replace HO_481002 := ak (Kd.R_drew HO_481002.out)
        replace BK469 := ak (blk_drew BK469.out)
        replace BK480 := ak (blk_drew BK480.out)
        replace HB := ak (below_drew1 HB.out)
        obtain ⟨Ao34, co34, eo34⟩ := Kd.R_slice HO_15.out
        (first | subst eo34 | (injection eo34 with f1_ f2_ f3_; have f4_ := f1_.symm; have f5_ := f3_.symm; clear f1_ f2_ f3_; subst f4_; subst f5_))
        have p496 : 0 ≤ (0 : Int) := (by omega)
        have q496 : 0 < (t490.length : Int) := of_decide_eq_true (by assumption)
        obtain ⟨ad496, e496, hx496_0⟩ := Kd.at_string (Kd.R_reads' HO_15.out).2.2 0 p496 q496
        cases e496
        have qi496 : (0 < t490.length) = True := eq_true (by omega)
        (try rw [show ((0 : Int)).toNat = 0 from rfl] at hx496_0)
        (try rw [Addr.add_zero'] at hx496_0)
        replace p496 := eq_true p496
        replace q496 := eq_true q496
        refine start_ (n := 13) (S := fun w' => w'.cell? ⟨gb480, 0, none⟩ = some (.string t478) ∧ w'.cell? ⟨gb480, 1, none⟩ = some (.string t479) ∧ w'.cell? ⟨gb480, 2, none⟩ = some (u481002) ∧ w'.cell? ad496 = some (.string (rdOf ByteArray.empty t490 0))) (ds := [10, 12]) #[false, false, false, false, false, false, false, false, false, false, false, false, false] (by kernel_rfl) rfl rfl ⟨(blk_cell BK480.out 0).trans rfl, (blk_cell BK480.out 1).trans rfl, (blk_cell BK480.out 2).trans rfl, hx496_0⟩ (fun hHeld => ?_); refine with_tabW spec_ParseKind.tab13 spec_ParseKind.bits13 (fun HT_ HW_ => ?_)
        generalize wc.drew = w33 at HO_15 HO_481002 BK469 BK480 HB hx496_0 hHeld ⊢
        refine pure_ (i := 0) (N := some 71) (v := ?_) (a' := ?_) #[true, false, false, false, false, false, false, false, false, false, false, false, false] rfl rfl (any_of HT_.out (by kernel_rfl)) (fun _ _ _ h => h) (Or.inl ⟨by rfl, ?_⟩) ?_ ?_
        rotate_left
        ·
         intro w'
         go_simp
         with_reducible rfl
        rotate_left
        ·
         simp only [Act.put, l_a, l_b, l_c, i64_w, i32_w]
         rfl
        refine pure_ (i := 2) (N := some 73) (v := ?_) (a' := ?_) #[true, false, true, false, false, false, false, false, false, false, false, false, false] rfl rfl (any_of HT_.out (by kernel_rfl)) (fun _ _ _ h => h) (Or.inl ⟨by rfl, ?_⟩) ?_ ?_
        rotate_left
        ·
         intro w'
         go_simp
         with_reducible rfl
        rotate_left
        ·
         simp only [Act.put, l_a, l_b, l_c, i64_w, i32_w]
         rfl
        refine pure_ (i := 5) (N := some 76) (v := ?_) (a' := ?_) #[true, false, true, false, false, true, false, false, false, false, false, false, false] rfl rfl (any_of HT_.out (by kernel_rfl)) (fun _ _ _ h => h) (Or.inl ⟨by rfl, ?_⟩) ?_ ?_
        rotate_left
        ·
         intro w'
         go_simp
         with_reducible rfl
        rotate_left
        ·
         simp only [Act.put, l_a, l_b, l_c, i64_w, i32_w]
         rfl
        refine pure_ (i := 6) (N := some 77) (v := ?_) (a' := ?_) #[true, false, true, false, false, true, true, false, false, false, false, false, false] rfl rfl (any_of HT_.out (by kernel_rfl)) (fun _ _ _ h => h) (Or.inl ⟨by rfl, ?_⟩) ?_ ?_
        rotate_left
        ·
         intro w'
         go_simp
         with_reducible rfl
        rotate_left
        ·
         simp only [Act.put, l_a, l_b, l_c, i64_w, i32_w]
         rfl
        refine take_ (i := 1) (N := some 72) (v := ?_) (a' := ?_) #[true, true, true, false, false, true, true, false, false, false, false, false, false] rfl rfl (take_ofW HT_.out HW_.out (by kernel_rfl)) (fun _ _ _ h => h) (Or.inl ⟨by rfl, ?_⟩) hHeld ?_ ?_
        rotate_left
        ·
         rintro w' ⟨s0, s1, s2, s3⟩
         go_simp
         with_reducible rfl
        rotate_left
        ·
         simp only [Act.put, l_a, l_b, l_c, i64_w, i32_w]
         rfl
        refine take_ (i := 7) (N := some 78) (v := ?_) (a' := ?_) #[true, true, true, false, false, true, true, true, false, false, false, false, false] rfl rfl (take_ofW HT_.out HW_.out (by kernel_rfl)) (fun _ _ _ h => h) (Or.inl ⟨by rfl, ?_⟩) hHeld ?_ ?_
        rotate_left
        ·
         rintro w' ⟨s0, s1, s2, s3⟩
         go_simp
         with_reducible rfl
        rotate_left
        ·
         simp only [Act.put, l_a, l_b, l_c, i64_w, i32_w]
         rfl
        refine one_ (i := 3) (N := some 74) #[true, true, true, true, false, true, true, true, false, false, false, false, false] rfl rfl (one_of HT_.out (by kernel_rfl)) (by decide) (fun K hK => ?_)
        refine goes_ Tryz.func179 (by kernel_rfl) rfl #[.string t486] (by rfl) rfl rfl ma ?_
        with_reducible refine (spec_l2Trim.calls kj20 t486 t494 _ A29.out).mono ?_
        rintro e w' ⟨rfl, ⟨nd, rfl⟩⟩
        refine ⟨_, rfl, ?_⟩
        refine hK.out _ _ ⟨(blk_cell BK480.out 0).trans rfl, (blk_cell BK480.out 1).trans rfl, (blk_cell BK480.out 2).trans rfl, hHeld.2.2.2⟩ (fun hHeld => ?_)
        clear hK K
        refine norm_ (a' := ?_) ?_ ?_
        rotate_left
        ·
         show Act.put _ (some 74) _ = _
         simp only [Act.put, l_a, l_b, l_c, i64_w, i32_w]
         rfl
        refine one_ (i := 4) (N := some 75) #[true, true, true, true, true, true, true, true, false, false, false, false, false] rfl rfl (one_of HT_.out (by kernel_rfl)) (by decide) (fun K hK => ?_)
        refine goes_ Tryz.func180 (by kernel_rfl) rfl #[.string t494] (by rfl) rfl rfl ma ?_
        with_reducible refine (spec_LowerText.calls t494 t495 _ A30.out).mono ?_
        rintro e w35 ⟨rfl, hb⟩
        have HS3_ := (hb.cell (World.block_lt_of_cell? _ _ (hHeld.2.2.2))).trans (hHeld.2.2.2)
        refine ⟨_, rfl, ?_⟩
        replace HO_15 := rb HO_15 hb
        replace HO_481002 := rb HO_481002 hb
        replace BK469 := kb BK469 hb
        replace BK480 := kb BK480 hb
        replace HB := ak (below_step bb hb)
        (try clear hb)
        refine hK.out _ _ ⟨(blk_cell BK480.out 0).trans rfl, (blk_cell BK480.out 1).trans rfl, (blk_cell BK480.out 2).trans rfl, HS3_⟩ (fun hHeld => ?_)
        clear hK K
        refine norm_ (a' := ?_) ?_ ?_
        rotate_left
        ·
         show Act.put _ (some 75) _ = _
         simp only [Act.put, l_a, l_b, l_c, i64_w, i32_w]
         rfl
        refine pure_ (i := 8) (N := some 79) (v := ?_) (a' := ?_) #[true, true, true, true, true, true, true, true, true, false, false, false, false] rfl rfl (any_of HT_.out (by kernel_rfl)) (fun _ _ _ h => h) (Or.inl ⟨by rfl, ?_⟩) ?_ ?_
        rotate_left
        ·
         intro w'
         go_simp
         with_reducible rfl
        rotate_left
        ·
         simp only [Act.put, l_a, l_b, l_c, i64_w, i32_w]
         rfl
        refine one_ (i := 9) (N := some 80) #[true, true, true, true, true, true, true, true, true, true, false, false, false] rfl rfl (one_of HT_.out (by kernel_rfl)) (by decide) (fun K hK => ?_)
        refine value_ (w1 := ?_) (v := ?_) (by rfl) rfl ?_ ?_
        rotate_left 2
        ·
         go_simp
         constructor
         ·
          rfl
         ·
          rfl
        refine hK.out _ _ ⟨(blk_cell (blk_alloc BK480.out _) 0).trans rfl, (blk_cell (blk_alloc BK480.out _) 1).trans rfl, (blk_cell (blk_alloc BK480.out _) 2).trans rfl, (World.cell?_alloc_lt _ _ _ (World.block_lt_of_cell? _ _ (hHeld.2.2.2))).trans (hHeld.2.2.2)⟩ (fun hHeld => ?_)
        clear hK K
        refine norm_ (a' := ?_) ?_ ?_
        rotate_left
        ·
         show Act.put _ (some 80) _ = _
         simp only [Act.put, l_a, l_b, l_c, i64_w, i32_w]
         rfl
        refine last_ (i := 10) (N := some 81) #[true, true, true, true, true, true, true, true, true, true, true, false, false] rfl rfl (one_of HT_.out (by kernel_rfl)) (by decide) (fun K hK => ?_)
        refine Kd.R_append_step k69 (w0 := w) w.heap.size (by rfl) (.tmp 72) (.tmp 80) 25 69 (.agg #[(.string ⟨#[]⟩), (.string ⟨#[]⟩)]) 32 rfl Tryz.underlying25 info69 rfl (by decide) (by omega) u481002 x481002_1 (⟨t495, rdOf ByteArray.empty t490 0⟩ : S69) [.string t495, .string (rdOf ByteArray.empty t490 0)] (fun _ => True) (fun _ => False) rfl rfl ?aP (fun _ hk => hk.elim) ?aF ?aO ?aB ?aS ?aL ?_
        (case aP => exact k69_mkM _ _ _ (⟨t495, rdOf ByteArray.empty t490 0⟩ : S69))
        (case aB => exact bb)
        (case aF => exact (fun _ _ => trivial))
        (case aO => exact (ur HO_481002.out))
        (case aS => exact (below_size bb))
        (case aL => have := LMc32.out; omega)
        intro v498 w36 ho hb hg hat
        rw [← Ny497.out] at ho
        have n0_ := ak (Kd.R_over' (ur HO_15.out) (Kd.R_typed (ur HO_481002.out)) (by decide) hg)
        have n1_ := ak (blk_grown (g := gb469) (o := .cells #[.string x470000_1, .string x470001_1, .slice none 0 0] 61 (0, 0)) (ub BK469.out) hg (Kd.R_ne HO_481002.out BK469.out (by decide)))
        have n2_ := ak (blk_grown (g := gb480) (o := .cells #[.string t478, .string t479, u481002] 61 (0, 0)) (ub BK480.out) hg (Kd.R_ne HO_481002.out BK480.out (by decide)))
        have n3_ := ak (hb)
        have n4_ := ak (ho)
        clear HO_15 BK469 BK480 HB HO_481002
        have HO_15 := n0_
        have BK469 := n1_
        have BK480 := n2_
        have HB := n3_
        have HO499 := n4_
        clear n0_ n1_ n2_ n3_ n4_ ho hb hg hat
        obtain ⟨Ao37, co37, eo37⟩ := Kd.R_slice HO499.out
        (first | subst eo37 | (injection eo37 with f1_ f2_ f3_; have f4_ := f1_.symm; have f5_ := f3_.symm; clear f1_ f2_ f3_; subst f4_; subst f5_))
        refine hK.out _ _ ?_
        clear hK K
        refine norm_ (a' := ?_) ?_ ?_
        rotate_left
        ·
         show Act.put _ (some 81) _ = _
         simp only [Act.put, l_a, l_b, l_c, i64_w, i32_w]
         rfl
        refine pure_ (i := 11) (N := some 82) (v := ?_) (a' := ?_) #[true, true, true, true, true, true, true, true, true, true, true, true, false] rfl rfl (any_of HT_.out (by kernel_rfl)) (fun _ _ _ h => h) (Or.inl ⟨by rfl, ?_⟩) ?_ ?_
        rotate_left
        ·
         intro w'
         go_simp
         with_reducible rfl
        rotate_left
        ·
         simp only [Act.put, l_a, l_b, l_c, i64_w, i32_w]
         rfl
        refine last_ (i := 12) (N := none) #[true, true, true, true, true, true, true, true, true, true, true, true, true] rfl rfl (one_of HT_.out (by kernel_rfl)) (by decide) (fun K hK => ?_)
        have hs38 : w36.cell? ⟨gb480, 2, none⟩ = some (u481002) := (blk_cell BK480.out 2).trans rfl
        have hfs38 := blk_frozen BK480.out 2
        have hns38_0 := NB469_480.out
        have hms38_0 := NB480_469.out
        refine skip_ (w1 := ?_) (by rfl) rfl ?_ ?_
        rotate_left
        ·
         go_simp
         rfl
        refine hK.out _ _ ?_
        clear hK K
        refine done_ (done_of HT_.out (by kernel_rfl)) ?_
        try go_wp2
        go_roundg kj20
        case measure => have := HK1.out; have := HJ20.out; omega
        case rel => exact ⟨(t483), (t484), (x470000_1), (x470001_1), (y497), (.slice Ao37 y497.length co37), rs, rs, H', ⟨by have := HK1.out; have := HJ20.out; omega⟩, ⟨ur (Kd.R_mono (Kd.R_far (p := ⟨gb480, 2, none⟩) (Kd.R_types HO499.out BK480.out (by decide)) (fun _ hk => hk.2) (.slice Ao37 y497.length co37)) (fun _ hk => trivial))⟩, ⟨by (with_reducible repeat (first | refine blk_drewN ?_ _ | refine blk_drew ?_ | refine blk_alloc ?_ _)); refine blk_far ?_ NB469_480.out _; (with_reducible repeat (first | refine blk_drewN ?_ _ | refine blk_drew ?_ | refine blk_alloc ?_ _)); exact BK469.out⟩, ⟨by (with_reducible repeat (first | refine blk_drewN ?_ _ | refine blk_drew ?_ | refine blk_alloc ?_ _)); refine blk_put (cs := #[.string t478, .string t479, u481002]) ?_ 2 _ rfl; (with_reducible repeat (first | refine blk_drewN ?_ _ | refine blk_drew ?_ | refine blk_alloc ?_ _)); exact BK480.out⟩, ⟨bb⟩⟩
    ·
     replace H := sb H
     rcases H with ⟨rfl, H⟩ | ⟨rfl, H⟩
     ·
      replace H := bd H; obtain ⟨t481, A40, H⟩ := H; replace H := sb H
      rcases H with ⟨rfl, H⟩ | ⟨rfl, H⟩
      ·
       simp only [Option.some.injEq, Prod.mk.injEq] at H
       obtain ⟨rfl, rfl, rfl, rfl⟩ := H
       have hnb42 := NB480_469.out
       have hnc42 := NB469_480.out
       obtain ⟨hcz43_0, hcz43_1, hcz43_2, hfz43_0, hfz43_1, hfz43_2⟩ := cz3 BK480.out
       obtain ⟨Ao44, co44, eo44⟩ := Kd.R_slice HO_481002.out
       subst eo44
       go_wp2_with (first | (go_at_call 182; (with_reducible refine (spec_KindValid.calls k1 t478 t479 _ _ x481002_1 true _ (cu ((Kd.R_reads' HO_481002.out).2.2)) ((Kd.R_reads' HO_481002.out).2.1) A40.out).mono ?_); rintro e w45 ⟨rfl, hb⟩; replace HO_481002 := rb HO_481002 hb; replace BK469 := kb BK469 hb; replace BK480 := kb BK480 hb; replace HB := ak (below_step bb hb); (try clear hb); obtain ⟨hcz46_0, hcz46_1, hcz46_2, hfz46_0, hfz46_1, hfz46_2⟩ := cz3 BK480.out; obtain ⟨hcz47_0, hcz47_1, hcz47_2, hfz47_0, hfz47_1, hfz47_2⟩ := cz3 BK469.out))
       refine bodyPost_ret (results_ct rfl _ _ gb469 61 #[.string t478, .string t479, .slice Ao44 x481002_1.length co44] (0, 0) _ rfl (by (with_reducible repeat (first | refine blk_drewN ?_ _ | refine blk_drew ?_ | refine blk_alloc ?_ _)); refine blk_put (cs := #[.string t478, .string t479, .slice none 0 0]) ?_ 2 _ rfl; (with_reducible repeat (first | refine blk_drewN ?_ _ | refine blk_drew ?_ | refine blk_alloc ?_ _)); refine blk_put (cs := #[.string t478, .string x470001_1, .slice none 0 0]) ?_ 1 _ rfl; (with_reducible repeat (first | refine blk_drewN ?_ _ | refine blk_drew ?_ | refine blk_alloc ?_ _)); refine blk_put (cs := #[.string x470000_1, .string x470001_1, .slice none 0 0]) ?_ 0 _ rfl; (with_reducible repeat (first | refine blk_drewN ?_ _ | refine blk_drew ?_ | refine blk_alloc ?_ _)); exact BK469.out) Tryz.underlying61 rfl (by kernel_rfl)) rfl ?_
       exact ⟨_, er, ur (Kd.R_mono (Kd.R_far (p := ⟨gb469, 2, none⟩) (Kd.R_far (p := ⟨gb469, 1, none⟩) (Kd.R_far (p := ⟨gb469, 0, none⟩) (Kd.R_types HO_481002.out BK469.out (by decide)) (fun _ hk => hk.2) (.string t478)) (fun _ hk => hk.2) (.string t479)) (fun _ hk => hk.2) (.slice Ao44 x481002_1.length co44)) (fun _ hk => trivial)), bb⟩
      ·
       simp only [Option.some.injEq, Prod.mk.injEq] at H
       obtain ⟨rfl, rfl, rfl, rfl⟩ := H
       have hnb48 := NB480_469.out
       have hnc48 := NB469_480.out
       obtain ⟨hcz49_0, hcz49_1, hcz49_2, hfz49_0, hfz49_1, hfz49_2⟩ := cz3 BK480.out
       obtain ⟨Ao50, co50, eo50⟩ := Kd.R_slice HO_481002.out
       subst eo50
       go_wp2_with (first | (go_at_call 182; (with_reducible refine (spec_KindValid.calls k1 t478 t479 _ _ x481002_1 false _ (cu ((Kd.R_reads' HO_481002.out).2.2)) ((Kd.R_reads' HO_481002.out).2.1) A40.out).mono ?_); rintro e w51 ⟨rfl, hb⟩; replace HO_481002 := rb HO_481002 hb; replace BK469 := kb BK469 hb; replace BK480 := kb BK480 hb; replace HB := ak (below_step bb hb); (try clear hb); obtain ⟨hcz52_0, hcz52_1, hcz52_2, hfz52_0, hfz52_1, hfz52_2⟩ := cz3 BK469.out))
       refine bodyPost_ret (results_ct rfl _ _ gb469 61 #[.string (⟨#[]⟩ : ByteArray), .string (⟨#[]⟩ : ByteArray), .slice none 0 0] (0, 0) _ rfl (by (with_reducible repeat (first | refine blk_drewN ?_ _ | refine blk_drew ?_ | refine blk_alloc ?_ _)); refine blk_put (cs := #[.string (⟨#[]⟩ : ByteArray), .string (⟨#[]⟩ : ByteArray), .slice none 0 0]) ?_ 2 _ rfl; (with_reducible repeat (first | refine blk_drewN ?_ _ | refine blk_drew ?_ | refine blk_alloc ?_ _)); refine blk_put (cs := #[.string (⟨#[]⟩ : ByteArray), .string x470001_1, .slice none 0 0]) ?_ 1 _ rfl; (with_reducible repeat (first | refine blk_drewN ?_ _ | refine blk_drew ?_ | refine blk_alloc ?_ _)); refine blk_put (cs := #[.string x470000_1, .string x470001_1, .slice none 0 0]) ?_ 0 _ rfl; (with_reducible repeat (first | refine blk_drewN ?_ _ | refine blk_drew ?_ | refine blk_alloc ?_ _)); exact BK469.out) Tryz.underlying61 rfl (by kernel_rfl)) rfl ?_
       exact ⟨_, er, nx, bb⟩
     ·
      simp only [Option.some.injEq, Prod.mk.injEq] at H
      obtain ⟨rfl, rfl, rfl, rfl⟩ := H
      have hnb53 := NB469_480.out
      have hnc53 := NB480_469.out
      obtain ⟨hcz54_0, hcz54_1, hcz54_2, hfz54_0, hfz54_1, hfz54_2⟩ := cz3 BK469.out
      go_wp2
      refine bodyPost_ret (results_ct rfl _ _ gb469 61 #[.string (⟨#[]⟩ : ByteArray), .string (⟨#[]⟩ : ByteArray), .slice none 0 0] (0, 0) _ rfl (by (with_reducible repeat (first | refine blk_drewN ?_ _ | refine blk_drew ?_ | refine blk_alloc ?_ _)); refine blk_put (cs := #[.string (⟨#[]⟩ : ByteArray), .string (⟨#[]⟩ : ByteArray), .slice none 0 0]) ?_ 2 _ rfl; (with_reducible repeat (first | refine blk_drewN ?_ _ | refine blk_drew ?_ | refine blk_alloc ?_ _)); refine blk_put (cs := #[.string (⟨#[]⟩ : ByteArray), .string x470001_1, .slice none 0 0]) ?_ 1 _ rfl; (with_reducible repeat (first | refine blk_drewN ?_ _ | refine blk_drew ?_ | refine blk_alloc ?_ _)); refine blk_put (cs := #[.string x470000_1, .string x470001_1, .slice none 0 0]) ?_ 0 _ rfl; (with_reducible repeat (first | refine blk_drewN ?_ _ | refine blk_drew ?_ | refine blk_alloc ?_ _)); exact BK469.out) Tryz.underlying61 rfl (by kernel_rfl)) rfl ?_
      exact ⟨_, er, nx, bb⟩
 ·
  simp only [Option.some.injEq, Prod.mk.injEq] at H
  obtain ⟨rfl, rfl, rfl, rfl⟩ := H
  go_enter Tryz.func155, Tryz.ntmps155
  go_wp2_with (first | (refine gate_dst (N := 2) rfl ?_; (try (refine gate_guard (by rfl) ?_; dsimp only)); refine bE 2 #[.string (⟨#[]⟩ : ByteArray), .string (⟨#[]⟩ : ByteArray), .slice none 0 0] 61 ?_; intro gb469 hg w55 hbox hb; have BK469 := ak (hbox); have GW469 := ge_ HB hg; have GE469 := ge_ HB hg; replace HB := bs HB hb; clear hb hbox hg) | (refine gL 159 18 Tryz.func159 #[.string a0] ?_; (with_reducible refine (spec_TextValid.calls k a0 false _ A2.out).mono ?_); rintro e w' ⟨rfl, ⟨nd, rfl⟩⟩; refine ⟨_, rfl, ?_⟩; (try (rw [drewN_self w55]; generalize hq_ : World.drewN w55 _ = w55; have n0_ : Aside0 (w55.heap[gb469]? = some (.cells #[.string (⟨#[]⟩ : ByteArray), .string (⟨#[]⟩ : ByteArray), .slice none 0 0] 61 (0, 0))) := ⟨by rw [← hq_]; exact (ub BK469.out)⟩; have n1_ : Aside0 (Below w.heap.size w w55) := ⟨by rw [← hq_]; exact bb⟩; clear BK469 HB hq_; have BK469 := n0_; have HB := n1_; clear n0_ n1_)); obtain ⟨hcz56_0, hcz56_1, hcz56_2, hfz56_0, hfz56_1, hfz56_2⟩ := cz3 BK469.out))
  refine bodyPost_ret (results_ct rfl _ _ gb469 61 #[.string (⟨#[]⟩ : ByteArray), .string (⟨#[]⟩ : ByteArray), .slice none 0 0] (0, 0) _ rfl (by (with_reducible repeat (first | refine blk_drewN ?_ _ | refine blk_drew ?_ | refine blk_alloc ?_ _)); refine blk_put (cs := #[.string (⟨#[]⟩ : ByteArray), .string (⟨#[]⟩ : ByteArray), .slice none 0 0]) ?_ 2 _ rfl; (with_reducible repeat (first | refine blk_drewN ?_ _ | refine blk_drew ?_ | refine blk_alloc ?_ _)); refine blk_put (cs := #[.string (⟨#[]⟩ : ByteArray), .string (⟨#[]⟩ : ByteArray), .slice none 0 0]) ?_ 1 _ rfl; (with_reducible repeat (first | refine blk_drewN ?_ _ | refine blk_drew ?_ | refine blk_alloc ?_ _)); refine blk_put (cs := #[.string (⟨#[]⟩ : ByteArray), .string (⟨#[]⟩ : ByteArray), .slice none 0 0]) ?_ 0 _ rfl; (with_reducible repeat (first | refine blk_drewN ?_ _ | refine blk_drew ?_ | refine blk_alloc ?_ _)); exact BK469.out) Tryz.underlying61 rfl (by kernel_rfl)) rfl ?_
  exact ⟨_, er, nx, bb⟩

/-! ### spec_l7Boundary: function 157 -/
mutual
def spec_l7Boundary.l0 : Nat → ByteArray → Int → Option (Bool)
 | 0, _, _ => none
 | k + 1, x0, x3 => if x3 < (x0.size : Int) then (spec_l7Boundary.j1 k x0 x3 (decide (x3 ≤ 20))) else (spec_l7Boundary.j1 k x0 x3 false)
def spec_l7Boundary.j1 : Nat → ByteArray → Int → Bool → Option (Bool)
 | 0, _, _, _ => none
 | k + 1, x0, x3, x11 => if x11 = true then (if 0 ≤ x3 then (if x3 < (x0.size : Int) then ((spec_l1Letter.f (bt x0 x3)).bind fun t500 => (if t500 = true then (spec_l7Boundary.l0 k x0 (wrap64 (x3 + 1))) else (some false))) else (none)) else (none)) else (if (x0.size : Int) ≥ 1 then (some (decide ((x0.size : Int) ≤ 20))) else (some false))
end
def spec_l7Boundary.f (k : Nat) (a0 : ByteArray) : Option (Bool) := spec_l7Boundary.l0 k a0 0
set_option maxHeartbeats 8000000 in
set_option maxRecDepth 100000 in
theorem spec_l7Boundary.calls (k : Nat) (a0 : ByteArray) (r : Bool) (w : World) (h : spec_l7Boundary.f k a0 = some r) :
  Calls Tryz.prog 157 #[.string a0] w fun e w' => e = .returned (.bool r) ∧ Drawn0 w w' := by
 have H : (spec_l7Boundary.l0 k a0 0) = some r := h
 clear h
 have H' := ak H; clear H
 go_enter Tryz.func157, Tryz.ntmps157
 go_wp2
 go_loopg [3] k (fun kq v3 w' => ∃ (x3_1 : Int), v3 = .int .i64 x3_1 ∧ Aside0 (spec_l7Boundary.l0 kq a0 x3_1 = some r) ∧ Aside0 (kq ≤ k) ∧ Drawn0 w w')
 case atStart => exact ⟨(0), rs, H', ⟨Nat.le_refl _⟩, dn⟩
 case round =>
  clear H'
  try clear c1
  obtain ⟨x3_1, rfl, HA, HK1, ⟨m1, rfl⟩⟩ := hrel
  cases gk with
  | zero => exact absurd HA.out (by simp [spec_l7Boundary.l0])
  | succ k1 =>
   have H := HA.out
   clear HA
   simp only [spec_l7Boundary.l0] at H
   have HC2 := ak H
   clear H
   go_upto_region 2 with (fail)
   go_cut [11] (fun v11 wc => ∃ (kq : Nat) (x11_1 : Bool), v11 = .bool x11_1 ∧ Aside0 (spec_l7Boundary.j1 kq a0 x3_1 x11_1 = some r) ∧ Aside0 (kq ≤ k1) ∧ Drawn0 w wc)
   case first =>
    have H := HC2.out
    clear HC2
    replace H := sd H
    rcases H with ⟨c3b0, H⟩ | ⟨c3b0, H⟩
    ·
     (first | rw [c3b0] | (simp only [i64_w, i32_w]; rw [c3b0]) | skip)
     have H' := ak H; clear H
     go_wp2
     go_meet
     case rel => exact ⟨_, (decide (x3_1 ≤ 20)), rs, H', ⟨by have := HK1.out; first | omega | exact Nat.le_refl _⟩, dn⟩
    ·
     (first | rw [c3b0] | (simp only [i64_w, i32_w]; rw [c3b0]) | skip)
     have H' := ak H; clear H
     go_wp2
     go_meet
     case rel => exact ⟨_, (false), rs, H', ⟨by have := HK1.out; first | omega | exact Nat.le_refl _⟩, dn⟩
   case rest =>
    clear HC2
    try clear c1
    try clear p2
    try clear c3
    try clear c3b0
    obtain ⟨kq, x11_1, rfl, HA, HJ1, ⟨mc1, rfl⟩⟩ := hcut
    cases kq with
    | zero => exact absurd HA.out (by simp [spec_l7Boundary.j1])
    | succ kj1 =>
     have H := HA.out
     clear HA
     simp only [spec_l7Boundary.j1] at H
     replace H := sb H
     rcases H with ⟨rfl, H⟩ | ⟨rfl, H⟩
     ·
      replace H := nde H; obtain ⟨c5b0, H⟩ := H; replace H := nde H; obtain ⟨c6b0, H⟩ := H; replace H := bd H; obtain ⟨t500, A8, H⟩ := H; replace H := sb H
      rcases H with ⟨rfl, H⟩ | ⟨rfl, H⟩
      ·
       have H' := ak H; clear H
       obtain ⟨p7, q7, hx7⟩ := bx a0 x3_1
       go_wp2_with (first | (refine gL 183 17 Tryz.func183 #[.int .u8 (bt a0 x3_1)] ?_; (with_reducible refine (spec_l1Letter.calls (bt a0 x3_1) true _ A8.out).mono ?_); rintro e w' ⟨rfl, ⟨nd, rfl⟩⟩; refine ⟨_, rfl, ?_⟩))
       go_roundg kj1
       case measure => have := HK1.out; have := HJ1.out; omega
       case rel => exact ⟨(wrap64 (x3_1 + 1)), rs, H', ⟨by have := HK1.out; have := HJ1.out; omega⟩, dn⟩
      ·
       obtain rfl := Option.some.inj H
       obtain ⟨p7, q7, hx7⟩ := bx a0 x3_1
       go_wp2_with (first | (refine gL 183 17 Tryz.func183 #[.int .u8 (bt a0 x3_1)] ?_; (with_reducible refine (spec_l1Letter.calls (bt a0 x3_1) false _ A8.out).mono ?_); rintro e w' ⟨rfl, ⟨nd, rfl⟩⟩; refine ⟨_, rfl, ?_⟩))
       go_ret
       exact ⟨rs, dn⟩
     ·
      replace H := sp H
      rcases H with ⟨c10, H⟩ | ⟨c10, H⟩
      ·
       have c10b0 : decide (1 ≤ (a0.size : Int)) = true := decide_eq_true c10
       have c10b1 : decide (1 ≤ a0.size) = true := decide_eq_true (by omega)
       clear c10
       obtain rfl := Option.some.inj H
       go_wp2
       go_ret
       exact ⟨rs, dn⟩
      ·
       have c10b0 : decide (1 ≤ (a0.size : Int)) = false := decide_eq_false c10
       have c10b1 : decide (1 ≤ a0.size) = false := decide_eq_false (by omega)
       clear c10
       obtain rfl := Option.some.inj H
       go_wp2
       go_ret
       exact ⟨rs, dn⟩

/-! ### spec_BoundaryOf: function 156 -/
def spec_BoundaryOf.f (k : Nat) (a0_0 : ByteArray) (a0_1 : ByteArray) (l0_2 : List (S69)) : Option (ByteArray × Bool) := (spec_GetField.f k l0_2 (⟨#[98, 111, 117, 110, 100, 97, 114, 121]⟩ : ByteArray)).bind fun bt502 => ((spec_KindValid.f k a0_0 a0_1 l0_2).bind fun t504 => (if t504 = true then (if a0_0.toList = ([109, 117, 108, 116, 105, 112, 97, 114, 116] : List UInt8) then (if bt502.2 = true then ((spec_l7Boundary.f k bt502.1).bind fun t505 => (if t505 = true then (some (bt502.1, true)) else (some ((⟨#[]⟩ : ByteArray), false)))) else (some ((⟨#[]⟩ : ByteArray), false))) else (some ((⟨#[]⟩ : ByteArray), false))) else (some ((⟨#[]⟩ : ByteArray), false))))
set_option maxHeartbeats 8000000 in
set_option maxRecDepth 100000 in
theorem spec_BoundaryOf.calls (k : Nat) (a0_0 : ByteArray) (a0_1 : ByteArray) (A0_2 : Option Addr) (c0_2 : Nat) (l0_2 : List (S69)) (r1 : ByteArray) (r2 : Bool) (w : World) (hr0_2 : Kd.C k69 w A0_2 l0_2.length l0_2) (hc0_2 : l0_2.length ≤ c0_2) (h : spec_BoundaryOf.f k a0_0 a0_1 l0_2 = some (r1, r2)) :
  Calls Tryz.prog 156 #[.agg #[.string a0_0, .string a0_1, .slice A0_2 l0_2.length c0_2]] w fun e w' => e = .returned (.tuple #[.string r1, .bool r2]) ∧ Below w.heap.size w w' := by
 have hu61 := Tryz.underlying61
 have HR0_2 := ak hr0_2
 have HC0_2 := ak hc0_2
 clear hr0_2 hc0_2
 have HB := ak (Below.refl w.heap.size w)
 have H : ((spec_GetField.f k l0_2 (⟨#[98, 111, 117, 110, 100, 97, 114, 121]⟩ : ByteArray)).bind fun bt502 => ((spec_KindValid.f k a0_0 a0_1 l0_2).bind fun t504 => (if t504 = true then (if a0_0.toList = ([109, 117, 108, 116, 105, 112, 97, 114, 116] : List UInt8) then (if bt502.2 = true then ((spec_l7Boundary.f k bt502.1).bind fun t505 => (if t505 = true then (some (bt502.1, true)) else (some ((⟨#[]⟩ : ByteArray), false)))) else (some ((⟨#[]⟩ : ByteArray), false))) else (some ((⟨#[]⟩ : ByteArray), false))) else (some ((⟨#[]⟩ : ByteArray), false))))) = some (r1, r2) := h
 clear h
 replace H := bd H
 obtain ⟨⟨t502, t503⟩, A2, H⟩ := H
 (try dsimp only at H)
 replace H := bd H; obtain ⟨t504, A3, H⟩ := H; replace H := sb H
 rcases H with ⟨rfl, H⟩ | ⟨rfl, H⟩
 ·
  replace H := sq H
  rcases H with ⟨c5b0, c5b1, H⟩ | ⟨c5, c5b0, c5b1, H⟩
  ·
   replace H := sb H
   rcases H with ⟨rfl, H⟩ | ⟨rfl, H⟩
   ·
    replace H := bd H; obtain ⟨t505, A7, H⟩ := H; replace H := sb H
    rcases H with ⟨rfl, H⟩ | ⟨rfl, H⟩
    ·
     simp only [Option.some.injEq, Prod.mk.injEq] at H
     obtain ⟨rfl, rfl⟩ := H
     go_enter Tryz.func156, Tryz.ntmps156
     go_wp2_with (first | (refine bE 1 #[.string a0_0, .string a0_1, .slice A0_2 l0_2.length c0_2] 61 ?_; intro gb501 hg w9 hbox hb; have BK501 := ak (hbox); have GW501 := ge_ HB hg; have GE501 := ge_ HB hg; replace HB := bs HB hb; clear hb hbox hg; obtain ⟨hcz10_0, hcz10_1, hcz10_2, hfz10_0, hfz10_1, hfz10_2⟩ := cz3 BK501.out) | (refine gL 154 9 Tryz.func154 #[.slice A0_2 l0_2.length c0_2, .string (⟨#[98, 111, 117, 110, 100, 97, 114, 121]⟩ : ByteArray)] ?_; (with_reducible refine (spec_GetField.calls k _ _ l0_2 (⟨#[98, 111, 117, 110, 100, 97, 114, 121]⟩ : ByteArray) t502 true _ (cu (Kd.C_below HR0_2.out HB.out)) HC0_2.out A2.out).mono ?_); rintro e w11 ⟨rfl, hb⟩; refine ⟨_, rfl, ?_⟩; replace BK501 := kb BK501 hb; replace HB := ak (below_step bb hb); (try clear hb); obtain ⟨hcz12_0, hcz12_1, hcz12_2, hfz12_0, hfz12_1, hfz12_2⟩ := cz3 BK501.out) | (refine gL 182 13 Tryz.func182 #[.agg #[.string a0_0, .string a0_1, .slice A0_2 l0_2.length c0_2]] ?_; (with_reducible refine (spec_KindValid.calls k a0_0 a0_1 _ _ l0_2 true _ (cu (Kd.C_below HR0_2.out HB.out)) HC0_2.out A3.out).mono ?_); rintro e w13 ⟨rfl, hb⟩; refine ⟨_, rfl, ?_⟩; replace BK501 := kb BK501 hb; replace HB := ak (below_step bb hb); (try clear hb); obtain ⟨hcz14_0, hcz14_1, hcz14_2, hfz14_0, hfz14_1, hfz14_2⟩ := cz3 BK501.out) | (go_at_call 157; (with_reducible refine (spec_l7Boundary.calls k t502 true _ A7.out).mono ?_); rintro e w' ⟨rfl, ⟨nd, rfl⟩⟩))
     go_ret2
     exact ⟨er, bb⟩
    ·
     simp only [Option.some.injEq, Prod.mk.injEq] at H
     obtain ⟨rfl, rfl⟩ := H
     go_enter Tryz.func156, Tryz.ntmps156
     go_wp2_with (first | (refine bE 1 #[.string a0_0, .string a0_1, .slice A0_2 l0_2.length c0_2] 61 ?_; intro gb501 hg w15 hbox hb; have BK501 := ak (hbox); have GW501 := ge_ HB hg; have GE501 := ge_ HB hg; replace HB := bs HB hb; clear hb hbox hg; obtain ⟨hcz16_0, hcz16_1, hcz16_2, hfz16_0, hfz16_1, hfz16_2⟩ := cz3 BK501.out) | (refine gL 154 9 Tryz.func154 #[.slice A0_2 l0_2.length c0_2, .string (⟨#[98, 111, 117, 110, 100, 97, 114, 121]⟩ : ByteArray)] ?_; (with_reducible refine (spec_GetField.calls k _ _ l0_2 (⟨#[98, 111, 117, 110, 100, 97, 114, 121]⟩ : ByteArray) t502 true _ (cu (Kd.C_below HR0_2.out HB.out)) HC0_2.out A2.out).mono ?_); rintro e w17 ⟨rfl, hb⟩; refine ⟨_, rfl, ?_⟩; replace BK501 := kb BK501 hb; replace HB := ak (below_step bb hb); (try clear hb); obtain ⟨hcz18_0, hcz18_1, hcz18_2, hfz18_0, hfz18_1, hfz18_2⟩ := cz3 BK501.out) | (refine gL 182 13 Tryz.func182 #[.agg #[.string a0_0, .string a0_1, .slice A0_2 l0_2.length c0_2]] ?_; (with_reducible refine (spec_KindValid.calls k a0_0 a0_1 _ _ l0_2 true _ (cu (Kd.C_below HR0_2.out HB.out)) HC0_2.out A3.out).mono ?_); rintro e w19 ⟨rfl, hb⟩; refine ⟨_, rfl, ?_⟩; replace BK501 := kb BK501 hb; replace HB := ak (below_step bb hb); (try clear hb); obtain ⟨hcz20_0, hcz20_1, hcz20_2, hfz20_0, hfz20_1, hfz20_2⟩ := cz3 BK501.out) | (go_at_call 157; (with_reducible refine (spec_l7Boundary.calls k t502 false _ A7.out).mono ?_); rintro e w' ⟨rfl, ⟨nd, rfl⟩⟩))
     go_ret2
     exact ⟨er, bb⟩
   ·
    simp only [Option.some.injEq, Prod.mk.injEq] at H
    obtain ⟨rfl, rfl⟩ := H
    go_enter Tryz.func156, Tryz.ntmps156
    go_wp2_with (first | (refine bE 1 #[.string a0_0, .string a0_1, .slice A0_2 l0_2.length c0_2] 61 ?_; intro gb501 hg w21 hbox hb; have BK501 := ak (hbox); have GW501 := ge_ HB hg; have GE501 := ge_ HB hg; replace HB := bs HB hb; clear hb hbox hg; obtain ⟨hcz22_0, hcz22_1, hcz22_2, hfz22_0, hfz22_1, hfz22_2⟩ := cz3 BK501.out) | (refine gL 154 9 Tryz.func154 #[.slice A0_2 l0_2.length c0_2, .string (⟨#[98, 111, 117, 110, 100, 97, 114, 121]⟩ : ByteArray)] ?_; (with_reducible refine (spec_GetField.calls k _ _ l0_2 (⟨#[98, 111, 117, 110, 100, 97, 114, 121]⟩ : ByteArray) t502 false _ (cu (Kd.C_below HR0_2.out HB.out)) HC0_2.out A2.out).mono ?_); rintro e w23 ⟨rfl, hb⟩; refine ⟨_, rfl, ?_⟩; replace BK501 := kb BK501 hb; replace HB := ak (below_step bb hb); (try clear hb); obtain ⟨hcz24_0, hcz24_1, hcz24_2, hfz24_0, hfz24_1, hfz24_2⟩ := cz3 BK501.out) | (refine gL 182 13 Tryz.func182 #[.agg #[.string a0_0, .string a0_1, .slice A0_2 l0_2.length c0_2]] ?_; (with_reducible refine (spec_KindValid.calls k a0_0 a0_1 _ _ l0_2 true _ (cu (Kd.C_below HR0_2.out HB.out)) HC0_2.out A3.out).mono ?_); rintro e w25 ⟨rfl, hb⟩; refine ⟨_, rfl, ?_⟩; replace BK501 := kb BK501 hb; replace HB := ak (below_step bb hb); (try clear hb); obtain ⟨hcz26_0, hcz26_1, hcz26_2, hfz26_0, hfz26_1, hfz26_2⟩ := cz3 BK501.out))
    go_ret2
    exact ⟨er, bb⟩
  ·
   simp only [Option.some.injEq, Prod.mk.injEq] at H
   obtain ⟨rfl, rfl⟩ := H
   go_enter Tryz.func156, Tryz.ntmps156
   go_wp2_with (first | (refine bE 1 #[.string a0_0, .string a0_1, .slice A0_2 l0_2.length c0_2] 61 ?_; intro gb501 hg w27 hbox hb; have BK501 := ak (hbox); have GW501 := ge_ HB hg; have GE501 := ge_ HB hg; replace HB := bs HB hb; clear hb hbox hg; obtain ⟨hcz28_0, hcz28_1, hcz28_2, hfz28_0, hfz28_1, hfz28_2⟩ := cz3 BK501.out) | (refine gL 154 9 Tryz.func154 #[.slice A0_2 l0_2.length c0_2, .string (⟨#[98, 111, 117, 110, 100, 97, 114, 121]⟩ : ByteArray)] ?_; (with_reducible refine (spec_GetField.calls k _ _ l0_2 (⟨#[98, 111, 117, 110, 100, 97, 114, 121]⟩ : ByteArray) t502 t503 _ (cu (Kd.C_below HR0_2.out HB.out)) HC0_2.out A2.out).mono ?_); rintro e w29 ⟨rfl, hb⟩; refine ⟨_, rfl, ?_⟩; replace BK501 := kb BK501 hb; replace HB := ak (below_step bb hb); (try clear hb); obtain ⟨hcz30_0, hcz30_1, hcz30_2, hfz30_0, hfz30_1, hfz30_2⟩ := cz3 BK501.out) | (refine gL 182 13 Tryz.func182 #[.agg #[.string a0_0, .string a0_1, .slice A0_2 l0_2.length c0_2]] ?_; (with_reducible refine (spec_KindValid.calls k a0_0 a0_1 _ _ l0_2 true _ (cu (Kd.C_below HR0_2.out HB.out)) HC0_2.out A3.out).mono ?_); rintro e w31 ⟨rfl, hb⟩; refine ⟨_, rfl, ?_⟩; replace BK501 := kb BK501 hb; replace HB := ak (below_step bb hb); (try clear hb); obtain ⟨hcz32_0, hcz32_1, hcz32_2, hfz32_0, hfz32_1, hfz32_2⟩ := cz3 BK501.out))
   go_ret2
   exact ⟨er, bb⟩
 ·
  simp only [Option.some.injEq, Prod.mk.injEq] at H
  obtain ⟨rfl, rfl⟩ := H
  go_enter Tryz.func156, Tryz.ntmps156
  go_wp2_with (first | (refine bE 1 #[.string a0_0, .string a0_1, .slice A0_2 l0_2.length c0_2] 61 ?_; intro gb501 hg w33 hbox hb; have BK501 := ak (hbox); have GW501 := ge_ HB hg; have GE501 := ge_ HB hg; replace HB := bs HB hb; clear hb hbox hg; obtain ⟨hcz34_0, hcz34_1, hcz34_2, hfz34_0, hfz34_1, hfz34_2⟩ := cz3 BK501.out) | (refine gL 154 9 Tryz.func154 #[.slice A0_2 l0_2.length c0_2, .string (⟨#[98, 111, 117, 110, 100, 97, 114, 121]⟩ : ByteArray)] ?_; (with_reducible refine (spec_GetField.calls k _ _ l0_2 (⟨#[98, 111, 117, 110, 100, 97, 114, 121]⟩ : ByteArray) t502 t503 _ (cu (Kd.C_below HR0_2.out HB.out)) HC0_2.out A2.out).mono ?_); rintro e w35 ⟨rfl, hb⟩; refine ⟨_, rfl, ?_⟩; replace BK501 := kb BK501 hb; replace HB := ak (below_step bb hb); (try clear hb); obtain ⟨hcz36_0, hcz36_1, hcz36_2, hfz36_0, hfz36_1, hfz36_2⟩ := cz3 BK501.out) | (refine gL 182 13 Tryz.func182 #[.agg #[.string a0_0, .string a0_1, .slice A0_2 l0_2.length c0_2]] ?_; (with_reducible refine (spec_KindValid.calls k a0_0 a0_1 _ _ l0_2 false _ (cu (Kd.C_below HR0_2.out HB.out)) HC0_2.out A3.out).mono ?_); rintro e w37 ⟨rfl, hb⟩; refine ⟨_, rfl, ?_⟩; replace BK501 := kb BK501 hb; replace HB := ak (below_step bb hb); (try clear hb)))
  go_ret2
  exact ⟨er, bb⟩

/-! ### spec_l8Boundary: function 108 -/
def spec_l8Boundary.f (k : Nat) (l0 : List (S69)) : Option (ByteArray × Bool) := (spec_GetField.f k l0 (⟨#[67, 111, 110, 116, 101, 110, 116, 45, 84, 121, 112, 101]⟩ : ByteArray)).bind fun bt506 => ((spec_ParseKind.f k bt506.1).bind fun bt508 => ((spec_BoundaryOf.f k bt508.1 bt508.2.1 bt508.2.2.1).bind fun bt515 => (if bt506.2 = true then (if bt508.2.2.2 = true then (some (bt515.1, bt515.2)) else (some (bt515.1, false))) else (some (bt515.1, false)))))
set_option maxHeartbeats 8000000 in
set_option maxRecDepth 100000 in
theorem spec_l8Boundary.calls (k : Nat) (A0 : Option Addr) (c0 : Nat) (l0 : List (S69)) (r1 : ByteArray) (r2 : Bool) (w : World) (hr0 : Kd.C k69 w A0 l0.length l0) (hc0 : l0.length ≤ c0) (h : spec_l8Boundary.f k l0 = some (r1, r2)) :
  Calls Tryz.prog 108 #[.slice A0 l0.length c0] w fun e w' => e = .returned (.tuple #[.string r1, .bool r2]) ∧ Below w.heap.size w w' := by
 have hu61 := Tryz.underlying61
 have HR0 := ak hr0
 have HC0 := ak hc0
 clear hr0 hc0
 have HB := ak (Below.refl w.heap.size w)
 have H : ((spec_GetField.f k l0 (⟨#[67, 111, 110, 116, 101, 110, 116, 45, 84, 121, 112, 101]⟩ : ByteArray)).bind fun bt506 => ((spec_ParseKind.f k bt506.1).bind fun bt508 => ((spec_BoundaryOf.f k bt508.1 bt508.2.1 bt508.2.2.1).bind fun bt515 => (if bt506.2 = true then (if bt508.2.2.2 = true then (some (bt515.1, bt515.2)) else (some (bt515.1, false))) else (some (bt515.1, false)))))) = some (r1, r2) := h
 clear h
 replace H := bd H
 obtain ⟨⟨t506, t507⟩, A2, H⟩ := H
 (try dsimp only at H)
 replace H := bd H
 obtain ⟨⟨t508, t509, t510, t513⟩, A3, H⟩ := H
 (try dsimp only at H)
 replace H := bd H
 obtain ⟨⟨t515, t516⟩, A4, H⟩ := H
 (try dsimp only at H)
 replace H := sb H
 rcases H with ⟨rfl, H⟩ | ⟨rfl, H⟩
 ·
  replace H := sb H
  rcases H with ⟨rfl, H⟩ | ⟨rfl, H⟩
  ·
   simp only [Option.some.injEq, Prod.mk.injEq] at H
   obtain ⟨rfl, rfl⟩ := H
   go_enter Tryz.func108, Tryz.ntmps108
   go_wp2_with (first | (refine gL 154 12 Tryz.func154 #[.slice A0 l0.length c0, .string (⟨#[67, 111, 110, 116, 101, 110, 116, 45, 84, 121, 112, 101]⟩ : ByteArray)] ?_; (with_reducible refine (spec_GetField.calls k _ _ l0 (⟨#[67, 111, 110, 116, 101, 110, 116, 45, 84, 121, 112, 101]⟩ : ByteArray) t506 true _ (cu HR0.out) HC0.out A2.out).mono ?_); rintro e w7 ⟨rfl, hb⟩; refine ⟨_, rfl, ?_⟩; replace HB := bs HB hb; (try clear hb)) | (refine gL 155 17 Tryz.func155 #[.string t506] ?_; (with_reducible refine (spec_ParseKind.calls k t506 t508 t509 t510 true _ A3.out).mono ?_); rintro e w8 ⟨v511, rfl, ho0, hb⟩; refine ⟨_, rfl, ?_⟩; have HO512 := ak (Kd.R_lower ho0 (below_size (ul HB.out))); replace HB := bs HB hb; (try clear hb); (try clear ho0)) | (refine bE 6 #[.string (⟨#[]⟩ : ByteArray), .string (⟨#[]⟩ : ByteArray), .slice none 0 0] 61 ?_; intro gb514 hg w9 hbox hb; have BK514 := ak (hbox); have GW514 := ge_ HB hg; have GE514 := ge_ HB hg; replace HO512 := rb HO512 hb; replace HB := bs HB hb; clear hb hbox hg; obtain ⟨hcz10_0, hcz10_1, hcz10_2, hfz10_0, hfz10_1, hfz10_2⟩ := cz3 BK514.out; obtain ⟨Ao11, co11, eo11⟩ := Kd.R_slice HO512.out; subst eo11) | (refine gL 156 22 Tryz.func156 #[.agg #[.string t508, .string t509, .slice Ao11 t510.length co11]] ?_; (with_reducible refine (spec_BoundaryOf.calls k t508 t509 _ _ t510 t515 t516 _ ?side1 ?side2 A4.out).mono ?_); (case side1 => refine (Kd.R_reads' (e := 69) (base := w.heap.size) (ok := fun k_ => True) (n := t510.length) (c := co11) ?_).2.2; exact (ur (Kd.R_mono (Kd.R_far (p := ⟨gb514, 2, none⟩) (Kd.R_far (p := ⟨gb514, 1, none⟩) (Kd.R_far (p := ⟨gb514, 0, none⟩) (Kd.R_types HO512.out BK514.out (by decide)) (fun _ hk => hk.2) (.string t508)) (fun _ hk => hk.2) (.string t509)) (fun _ hk => hk.2) (.slice Ao11 t510.length co11)) (fun _ h_ => h_.1)))); (case side2 => exact (Kd.R_reads' HO512.out).2.1); rintro e w12 ⟨rfl, hb⟩; refine ⟨_, rfl, ?_⟩; replace HO512 := ak (Kd.R_below (ur (Kd.R_mono (Kd.R_far (p := ⟨gb514, 2, none⟩) (Kd.R_far (p := ⟨gb514, 1, none⟩) (Kd.R_far (p := ⟨gb514, 0, none⟩) (Kd.R_types HO512.out BK514.out (by decide)) (fun _ hk => hk.2) (.string t508)) (fun _ hk => hk.2) (.string t509)) (fun _ hk => hk.2) (.slice Ao11 t510.length co11)) (fun _ h_ => h_.1))) hb); replace BK514 := ak (blk_below (g := gb514) (o := .cells #[.string t508, .string t509, .slice Ao11 t510.length co11] 61 (0, 0)) (by (with_reducible repeat (first | refine blk_drewN ?_ _ | refine blk_drew ?_ | refine blk_alloc ?_ _)); refine blk_put (cs := #[.string t508, .string t509, .slice none 0 0]) ?_ 2 _ rfl; (with_reducible repeat (first | refine blk_drewN ?_ _ | refine blk_drew ?_ | refine blk_alloc ?_ _)); refine blk_put (cs := #[.string t508, .string (⟨#[]⟩ : ByteArray), .slice none 0 0]) ?_ 1 _ rfl; (with_reducible repeat (first | refine blk_drewN ?_ _ | refine blk_drew ?_ | refine blk_alloc ?_ _)); refine blk_put (cs := #[.string (⟨#[]⟩ : ByteArray), .string (⟨#[]⟩ : ByteArray), .slice none 0 0]) ?_ 0 _ rfl; (with_reducible repeat (first | refine blk_drewN ?_ _ | refine blk_drew ?_ | refine blk_alloc ?_ _)); exact BK514.out) hb); replace HB := ak (below_step bb hb); (try clear hb)))
   go_ret2
   exact ⟨er, bb⟩
  ·
   simp only [Option.some.injEq, Prod.mk.injEq] at H
   obtain ⟨rfl, rfl⟩ := H
   go_enter Tryz.func108, Tryz.ntmps108
   go_wp2_with (first | (refine gL 154 12 Tryz.func154 #[.slice A0 l0.length c0, .string (⟨#[67, 111, 110, 116, 101, 110, 116, 45, 84, 121, 112, 101]⟩ : ByteArray)] ?_; (with_reducible refine (spec_GetField.calls k _ _ l0 (⟨#[67, 111, 110, 116, 101, 110, 116, 45, 84, 121, 112, 101]⟩ : ByteArray) t506 true _ (cu HR0.out) HC0.out A2.out).mono ?_); rintro e w13 ⟨rfl, hb⟩; refine ⟨_, rfl, ?_⟩; replace HB := bs HB hb; (try clear hb)) | (refine gL 155 17 Tryz.func155 #[.string t506] ?_; (with_reducible refine (spec_ParseKind.calls k t506 t508 t509 t510 false _ A3.out).mono ?_); rintro e w14 ⟨v511, rfl, ho0, hb⟩; refine ⟨_, rfl, ?_⟩; have HO512 := ak (Kd.R_lower ho0 (below_size (ul HB.out))); replace HB := bs HB hb; (try clear hb); (try clear ho0)) | (refine bE 6 #[.string (⟨#[]⟩ : ByteArray), .string (⟨#[]⟩ : ByteArray), .slice none 0 0] 61 ?_; intro gb514 hg w15 hbox hb; have BK514 := ak (hbox); have GW514 := ge_ HB hg; have GE514 := ge_ HB hg; replace HO512 := rb HO512 hb; replace HB := bs HB hb; clear hb hbox hg; obtain ⟨hcz16_0, hcz16_1, hcz16_2, hfz16_0, hfz16_1, hfz16_2⟩ := cz3 BK514.out; obtain ⟨Ao17, co17, eo17⟩ := Kd.R_slice HO512.out; subst eo17) | (refine gL 156 22 Tryz.func156 #[.agg #[.string t508, .string t509, .slice Ao17 t510.length co17]] ?_; (with_reducible refine (spec_BoundaryOf.calls k t508 t509 _ _ t510 t515 t516 _ ?side1 ?side2 A4.out).mono ?_); (case side1 => refine (Kd.R_reads' (e := 69) (base := w.heap.size) (ok := fun k_ => True) (n := t510.length) (c := co17) ?_).2.2; exact (ur (Kd.R_mono (Kd.R_far (p := ⟨gb514, 2, none⟩) (Kd.R_far (p := ⟨gb514, 1, none⟩) (Kd.R_far (p := ⟨gb514, 0, none⟩) (Kd.R_types HO512.out BK514.out (by decide)) (fun _ hk => hk.2) (.string t508)) (fun _ hk => hk.2) (.string t509)) (fun _ hk => hk.2) (.slice Ao17 t510.length co17)) (fun _ h_ => h_.1)))); (case side2 => exact (Kd.R_reads' HO512.out).2.1); rintro e w18 ⟨rfl, hb⟩; refine ⟨_, rfl, ?_⟩; replace HO512 := ak (Kd.R_below (ur (Kd.R_mono (Kd.R_far (p := ⟨gb514, 2, none⟩) (Kd.R_far (p := ⟨gb514, 1, none⟩) (Kd.R_far (p := ⟨gb514, 0, none⟩) (Kd.R_types HO512.out BK514.out (by decide)) (fun _ hk => hk.2) (.string t508)) (fun _ hk => hk.2) (.string t509)) (fun _ hk => hk.2) (.slice Ao17 t510.length co17)) (fun _ h_ => h_.1))) hb); replace BK514 := ak (blk_below (g := gb514) (o := .cells #[.string t508, .string t509, .slice Ao17 t510.length co17] 61 (0, 0)) (by (with_reducible repeat (first | refine blk_drewN ?_ _ | refine blk_drew ?_ | refine blk_alloc ?_ _)); refine blk_put (cs := #[.string t508, .string t509, .slice none 0 0]) ?_ 2 _ rfl; (with_reducible repeat (first | refine blk_drewN ?_ _ | refine blk_drew ?_ | refine blk_alloc ?_ _)); refine blk_put (cs := #[.string t508, .string (⟨#[]⟩ : ByteArray), .slice none 0 0]) ?_ 1 _ rfl; (with_reducible repeat (first | refine blk_drewN ?_ _ | refine blk_drew ?_ | refine blk_alloc ?_ _)); refine blk_put (cs := #[.string (⟨#[]⟩ : ByteArray), .string (⟨#[]⟩ : ByteArray), .slice none 0 0]) ?_ 0 _ rfl; (with_reducible repeat (first | refine blk_drewN ?_ _ | refine blk_drew ?_ | refine blk_alloc ?_ _)); exact BK514.out) hb); replace HB := ak (below_step bb hb); (try clear hb)))
   go_ret2
   exact ⟨er, bb⟩
 ·
  simp only [Option.some.injEq, Prod.mk.injEq] at H
  obtain ⟨rfl, rfl⟩ := H
  go_enter Tryz.func108, Tryz.ntmps108
  go_wp2_with (first | (refine gL 154 12 Tryz.func154 #[.slice A0 l0.length c0, .string (⟨#[67, 111, 110, 116, 101, 110, 116, 45, 84, 121, 112, 101]⟩ : ByteArray)] ?_; (with_reducible refine (spec_GetField.calls k _ _ l0 (⟨#[67, 111, 110, 116, 101, 110, 116, 45, 84, 121, 112, 101]⟩ : ByteArray) t506 false _ (cu HR0.out) HC0.out A2.out).mono ?_); rintro e w19 ⟨rfl, hb⟩; refine ⟨_, rfl, ?_⟩; replace HB := bs HB hb; (try clear hb)) | (refine gL 155 17 Tryz.func155 #[.string t506] ?_; (with_reducible refine (spec_ParseKind.calls k t506 t508 t509 t510 t513 _ A3.out).mono ?_); rintro e w20 ⟨v511, rfl, ho0, hb⟩; refine ⟨_, rfl, ?_⟩; have HO512 := ak (Kd.R_lower ho0 (below_size (ul HB.out))); replace HB := bs HB hb; (try clear hb); (try clear ho0)) | (refine bE 6 #[.string (⟨#[]⟩ : ByteArray), .string (⟨#[]⟩ : ByteArray), .slice none 0 0] 61 ?_; intro gb514 hg w21 hbox hb; have BK514 := ak (hbox); have GW514 := ge_ HB hg; have GE514 := ge_ HB hg; replace HO512 := rb HO512 hb; replace HB := bs HB hb; clear hb hbox hg; obtain ⟨hcz22_0, hcz22_1, hcz22_2, hfz22_0, hfz22_1, hfz22_2⟩ := cz3 BK514.out; obtain ⟨Ao23, co23, eo23⟩ := Kd.R_slice HO512.out; subst eo23) | (refine gL 156 22 Tryz.func156 #[.agg #[.string t508, .string t509, .slice Ao23 t510.length co23]] ?_; (with_reducible refine (spec_BoundaryOf.calls k t508 t509 _ _ t510 t515 t516 _ ?side1 ?side2 A4.out).mono ?_); (case side1 => refine (Kd.R_reads' (e := 69) (base := w.heap.size) (ok := fun k_ => True) (n := t510.length) (c := co23) ?_).2.2; exact (ur (Kd.R_mono (Kd.R_far (p := ⟨gb514, 2, none⟩) (Kd.R_far (p := ⟨gb514, 1, none⟩) (Kd.R_far (p := ⟨gb514, 0, none⟩) (Kd.R_types HO512.out BK514.out (by decide)) (fun _ hk => hk.2) (.string t508)) (fun _ hk => hk.2) (.string t509)) (fun _ hk => hk.2) (.slice Ao23 t510.length co23)) (fun _ h_ => h_.1)))); (case side2 => exact (Kd.R_reads' HO512.out).2.1); rintro e w24 ⟨rfl, hb⟩; refine ⟨_, rfl, ?_⟩; replace HO512 := ak (Kd.R_below (ur (Kd.R_mono (Kd.R_far (p := ⟨gb514, 2, none⟩) (Kd.R_far (p := ⟨gb514, 1, none⟩) (Kd.R_far (p := ⟨gb514, 0, none⟩) (Kd.R_types HO512.out BK514.out (by decide)) (fun _ hk => hk.2) (.string t508)) (fun _ hk => hk.2) (.string t509)) (fun _ hk => hk.2) (.slice Ao23 t510.length co23)) (fun _ h_ => h_.1))) hb); replace BK514 := ak (blk_below (g := gb514) (o := .cells #[.string t508, .string t509, .slice Ao23 t510.length co23] 61 (0, 0)) (by (with_reducible repeat (first | refine blk_drewN ?_ _ | refine blk_drew ?_ | refine blk_alloc ?_ _)); refine blk_put (cs := #[.string t508, .string t509, .slice none 0 0]) ?_ 2 _ rfl; (with_reducible repeat (first | refine blk_drewN ?_ _ | refine blk_drew ?_ | refine blk_alloc ?_ _)); refine blk_put (cs := #[.string t508, .string (⟨#[]⟩ : ByteArray), .slice none 0 0]) ?_ 1 _ rfl; (with_reducible repeat (first | refine blk_drewN ?_ _ | refine blk_drew ?_ | refine blk_alloc ?_ _)); refine blk_put (cs := #[.string (⟨#[]⟩ : ByteArray), .string (⟨#[]⟩ : ByteArray), .slice none 0 0]) ?_ 0 _ rfl; (with_reducible repeat (first | refine blk_drewN ?_ _ | refine blk_drew ?_ | refine blk_alloc ?_ _)); exact BK514.out) hb); replace HB := ak (below_step bb hb); (try clear hb)))
  go_ret2
  exact ⟨er, bb⟩

end Go.Proofs.YtncdadcmghglkaaGreatDoor.PFnExactPartValid
