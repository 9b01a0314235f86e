/- Printed walks; conditions: those in each statement. -/
import Derived.Test.YtncdadcmghglkaaGreatDoorVFnExactCountPartsQt
import Derived.Test.YtncdadcmghglkaaGreatDoorVFnExactCountPartsYt
import Derived.Test.YtncdadcmghglkaaGreatDoorPFnExactCountPartsx0
import Derived.Test.YtncdadcmghglkaaGreatDoorPFnExactCountPartsx2
import Derived.Test.YtncdadcmghglkaaGreatDoorPFnExactCountPartsx4
import Derived.Test.YtncdadcmghglkaaGreatDoorPFnExactCountPartsx5
import Derived.Test.YtncdadcmghglkaaGreatDoorPFnExactCountPartsx7
-- short
-- dense
-- sq
namespace Go.Proofs.YtncdadcmghglkaaGreatDoor.PFnExactCountParts
open Go.RowKit Go.Proofs.YtncdadcmghglkaaGreatDoor.X Go.Proofs.YtncdadcmghglkaaGreatDoorW.PrintWords Go.Proofs.YtncdadcmghglkaaGreatDoorW.PrintLast Go.Proofs.YtncdadcmghglkaaGreatDoorW.PrintMore
attribute [local go_sem] max2_int min2_int max_two min_two max_three min_three max_four min_four   -- for this text's walks alone
set_option linter.unusedVariables false
set_option linter.unusedSimpArgs false
mutual
def spec_ParseKind.l0 : Nat → ByteArray → Bool → Bool → ByteArray → ByteArray → List (S69) → Option (ByteArray × ByteArray × (List (S69)) × Bool)
 | 0, _, _, _, _, _, _ => none
 | k + 1, x5, x6, x9, x266000, x266001, x266002 => if x6 = true then ((spec_l2Cut.f k x5 59).bind fun bt267 => ((spec_l2Trim.f k bt267.1).bind fun t270 => ((spec_l2Cut.f k t270 61).bind fun bt271 => ((spec_l2Trim.f k bt271.2.1).bind fun t274 => ((spec_l1Words.f k t274).bind fun bt275 => (if bt271.2.2 = true then (if bt275.2 = true then (spec_ParseKind.j1 k bt267.2.1 bt267.2.2 x9 bt271.1 bt275.1 ((bt275.1.length : Int) != 1) x266000 x266001 x266002) else (spec_ParseKind.j1 k bt267.2.1 bt267.2.2 x9 bt271.1 bt275.1 true x266000 x266001 x266002)) else (spec_ParseKind.j1 k bt267.2.1 bt267.2.2 x9 bt271.1 bt275.1 true x266000 x266001 x266002))))))) else (if x9 = true then ((spec_KindValid.f k x266000 x266001 x266002).bind fun t266 => (if t266 = true then (some (x266000, x266001, x266002, true)) else (some ((⟨#[]⟩ : ByteArray), (⟨#[]⟩ : ByteArray), ([] : List (S69)), false)))) else (some ((⟨#[]⟩ : ByteArray), (⟨#[]⟩ : ByteArray), ([] : List (S69)), false)))
def spec_ParseKind.j1 : Nat → ByteArray → Bool → Bool → ByteArray → List ByteArray → Bool → ByteArray → ByteArray → List (S69) → Option (ByteArray × ByteArray × (List (S69)) × Bool)
 | 0, _, _, _, _, _, _, _, _, _ => none
 | k + 1, x5, x6, x9, x12, x15, x69, x266000, x266001, x266002 => if x69 = true then (some ((⟨#[]⟩ : ByteArray), (⟨#[]⟩ : ByteArray), ([] : List (S69)), false)) else ((spec_l2Trim.f k x12).bind fun t279 => ((spec_LowerText.f t279).bind fun t280 => (if 0 < (x15.length : Int) then (if x266002.length < 4398046511104 then (spec_ParseKind.l0 k x5 x6 x9 x266000 x266001 (x266002 ++ [(⟨t280, rdOf ByteArray.empty x15 0⟩ : S69)])) else (none)) else (none))))
end
def spec_ParseKind.f (k : Nat) (a0 : ByteArray) : Option (ByteArray × ByteArray × (List (S69)) × Bool) := (spec_TextValid.f k a0).bind fun t255 => (if t255 = true then ((spec_l2Cut.f k a0 59).bind fun bt256 => ((spec_l2Trim.f k bt256.1).bind fun t259 => ((spec_l2Cut.f k t259 47).bind fun bt260 => ((spec_LowerText.f bt260.1).bind fun t263 => ((spec_LowerText.f bt260.2.1).bind fun t264 => (spec_ParseKind.l0 k bt256.2.1 bt256.2.2 bt260.2.2 t263 t264 ([] : List (S69)))))))) else (some ((⟨#[]⟩ : ByteArray), (⟨#[]⟩ : ByteArray), ([] : List (S69)), false)))
def spec_ParseKind.T13 : Bool × List (List Nat × List Nat) := (true, [([], []), ([0], [0]), ([], []), ([2], [2]), ([3, 3], [3]), ([], []), ([5], [5]), ([6], [6]), ([4, 7], [4, 7]), ([8], [8]), ([1, 9, 4], [1, 9]), ([0, 1, 2, 3, 4, 5, 6, 7, 8, 9, 10], []), ([11, 10, 10, 0, 1, 2, 3, 4, 5, 6, 7, 8, 9, 10], [10, 11])])
def spec_ParseKind.B13 : List Nat := [0, 1, 0, 4, 12, 0, 32, 96, 252, 508, 1023, 2047, 4095]
theorem spec_ParseKind.tab13 : rtab .any (opsOf Tryz.f155 13) = spec_ParseKind.T13 := by kernel_rfl
theorem spec_ParseKind.bits13 : waitsOk spec_ParseKind.T13.2 spec_ParseKind.B13 = true := by kernel_rfl
set_option maxHeartbeats 8000000 in
set_option maxRecDepth 100000 in
theorem spec_ParseKind.calls (k : Nat) (a0 : ByteArray) (r1 : ByteArray) (r2 : ByteArray) (r3 : List (S69)) (r4 : Bool) (w : World) (h : spec_ParseKind.f k a0 = some (r1, r2, r3, r4)) :
  Calls Tryz.prog 155 #[.string a0] w fun e w' => ∃ v2_ : Value, e = .returned (.tuple #[.agg #[.string r1, .string r2, v2_], .bool r4]) ∧ Kd.R k69 69 w' w.heap.size (fun _ => True) v2_ r3 ∧ Below w.heap.size w w' := by
 have hu61 := Tryz.underlying61
 have hu69 := Tryz.underlying69
 have HB := ak (Below.refl w.heap.size w)
 have H : ((spec_TextValid.f k a0).bind fun t255 => (if t255 = true then ((spec_l2Cut.f k a0 59).bind fun bt256 => ((spec_l2Trim.f k bt256.1).bind fun t259 => ((spec_l2Cut.f k t259 47).bind fun bt260 => ((spec_LowerText.f bt260.1).bind fun t263 => ((spec_LowerText.f bt260.2.1).bind fun t264 => (spec_ParseKind.l0 k bt256.2.1 bt256.2.2 bt260.2.2 t263 t264 ([] : List (S69)))))))) else (some ((⟨#[]⟩ : ByteArray), (⟨#[]⟩ : ByteArray), ([] : List (S69)), false)))) = some (r1, r2, r3, r4) := h
 clear h
 replace H := bd H; obtain ⟨t255, A2, H⟩ := H; replace H := sb H
 rcases H with ⟨rfl, H⟩ | ⟨rfl, H⟩
 ·
  replace H := bd H
  obtain ⟨⟨t256, t257, t258⟩, A4, H⟩ := H
  (try dsimp only at H)
  replace H := bd H; obtain ⟨t259, A5, H⟩ := H; replace H := bd H
  obtain ⟨⟨t260, t261, t262⟩, A6, H⟩ := H
  (try dsimp only at H)
  replace H := bd H; obtain ⟨t263, A7, H⟩ := H; replace H := bd H; obtain ⟨t264, A8, H⟩ := H
  have H' := ak H; clear H
  go_enter Tryz.func155, Tryz.ntmps155
  go_wp2_with (first | (refine gate_dst (N := 2) rfl ?_; (try (refine gate_guard (by rfl) ?_; dsimp only)); refine bE 2 #[.string (⟨#[]⟩ : ByteArray), .string (⟨#[]⟩ : ByteArray), .slice none 0 0] 61 ?_; intro gb254 hg w9 hbox hb; have BK254 := ak (hbox); have GW254 := ge_ HB hg; have GE254 := ge_ HB hg; replace HB := bs HB hb; clear hb hbox hg) | (refine gL 159 18 Tryz.func159 #[.string a0] ?_; (with_reducible refine (spec_TextValid.calls k a0 true _ A2.out).mono ?_); rintro e w' ⟨rfl, ⟨nd, rfl⟩⟩; refine ⟨_, rfl, ?_⟩; (try (rw [drewN_self w9]; generalize hq_ : World.drewN w9 _ = w9; have n0_ : Aside0 (w9.heap[gb254]? = some (.cells #[.string (⟨#[]⟩ : ByteArray), .string (⟨#[]⟩ : ByteArray), .slice none 0 0] 61 (0, 0))) := ⟨by rw [← hq_]; exact (ub BK254.out)⟩; have n1_ : Aside0 (Below w.heap.size w w9) := ⟨by rw [← hq_]; exact bb⟩; clear BK254 HB hq_; have BK254 := n0_; have HB := n1_; clear n0_ n1_))) | (refine gL 178 23 Tryz.func178 #[.string a0, .int .u8 59] ?_; (with_reducible refine (spec_l2Cut.calls k a0 59 t256 t257 t258 _ A4.out).mono ?_); rintro e w' ⟨rfl, ⟨nd, rfl⟩⟩; refine ⟨_, rfl, ?_⟩; (try (rw [drewN_self w9]; generalize hq_ : World.drewN w9 _ = w9; have n0_ : Aside0 (w9.heap[gb254]? = some (.cells #[.string (⟨#[]⟩ : ByteArray), .string (⟨#[]⟩ : ByteArray), .slice none 0 0] 61 (0, 0))) := ⟨by rw [← hq_]; exact (ub BK254.out)⟩; have n1_ : Aside0 (Below w.heap.size w w9) := ⟨by rw [← hq_]; exact bb⟩; clear BK254 HB hq_; have BK254 := n0_; have HB := n1_; clear n0_ n1_))) | (refine gL 179 29 Tryz.func179 #[.string t256] ?_; (with_reducible refine (spec_l2Trim.calls k t256 t259 _ A5.out).mono ?_); rintro e w' ⟨rfl, ⟨nd, rfl⟩⟩; refine ⟨_, rfl, ?_⟩; (try (rw [drewN_self w9]; generalize hq_ : World.drewN w9 _ = w9; have n0_ : Aside0 (w9.heap[gb254]? = some (.cells #[.string (⟨#[]⟩ : ByteArray), .string (⟨#[]⟩ : ByteArray), .slice none 0 0] 61 (0, 0))) := ⟨by rw [← hq_]; exact (ub BK254.out)⟩; have n1_ : Aside0 (Below w.heap.size w w9) := ⟨by rw [← hq_]; exact bb⟩; clear BK254 HB hq_; have BK254 := n0_; have HB := n1_; clear n0_ n1_))) | (refine gL 178 30 Tryz.func178 #[.string t259, .int .u8 47] ?_; (with_reducible refine (spec_l2Cut.calls k t259 47 t260 t261 t262 _ A6.out).mono ?_); rintro e w' ⟨rfl, ⟨nd, rfl⟩⟩; refine ⟨_, rfl, ?_⟩; (try (rw [drewN_self w9]; generalize hq_ : World.drewN w9 _ = w9; have n0_ : Aside0 (w9.heap[gb254]? = some (.cells #[.string (⟨#[]⟩ : ByteArray), .string (⟨#[]⟩ : ByteArray), .slice none 0 0] 61 (0, 0))) := ⟨by rw [← hq_]; exact (ub BK254.out)⟩; have n1_ : Aside0 (Below w.heap.size w w9) := ⟨by rw [← hq_]; exact bb⟩; clear BK254 HB hq_; have BK254 := n0_; have HB := n1_; clear n0_ n1_))) | (refine gL 180 35 Tryz.func180 #[.string t260] ?_; (with_reducible refine (spec_LowerText.calls t260 t263 _ A7.out).mono ?_); rintro e w10 ⟨rfl, hb⟩; refine ⟨_, rfl, ?_⟩; replace BK254 := kb BK254 hb; replace HB := ak (below_step bb hb); (try clear hb)) | (refine gL 180 37 Tryz.func180 #[.string t261] ?_; (with_reducible refine (spec_LowerText.calls t261 t264 _ A8.out).mono ?_); rintro e w11 ⟨rfl, hb⟩; refine ⟨_, rfl, ?_⟩; replace BK254 := kb BK254 hb; replace HB := ak (below_step bb hb); (try clear hb)) | (refine gate_dst (N := 10) rfl ?_; (try (refine gate_guard (by rfl) ?_; dsimp only)); refine bE 10 #[.string (⟨#[]⟩ : ByteArray), .string (⟨#[]⟩ : ByteArray), .slice none 0 0] 61 ?_; intro gb265 hg w12 hbox hb; have BK265 := ak (hbox); have GW265 := ak ((by rw [hg]; exact (below_size bb) : w.heap.size ≤ gb265)); have GE265 := ak ((by rw [hg]; exact (below_size bb) : w.heap.size ≤ gb265)); have NB254_265 := ak ((by rw [hg]; exact Nat.ne_of_lt (blk_lt (ub BK254.out)) : gb254 ≠ gb265)); have NB265_254 := ak ((by rw [hg]; exact Nat.ne_of_gt (blk_lt (ub BK254.out)) : gb265 ≠ gb254)); replace BK254 := kb BK254 hb; replace HB := ak (below_step bb hb); clear hb hbox hg; have hnb13 := NB265_254.out; have hnc13 := NB254_265.out; obtain ⟨hcz14_0, hcz14_1, hcz14_2, hfz14_0, hfz14_1, hfz14_2⟩ := cz3 BK265.out))
  go_loopg [5, 6] k (fun kq v5 v6 w' => ∃ (x5_1 : ByteArray) (x6_1 : Bool) (x255000_1 : ByteArray) (x255001_1 : ByteArray) (x266002_1 : List (S69)) (u266002 : Value), v5 = .string x5_1 ∧ v6 = .bool x6_1 ∧ Aside0 (spec_ParseKind.l0 kq x5_1 x6_1 t262 t263 t264 x266002_1 = some (r1, r2, r3, r4)) ∧ Aside0 (kq ≤ k) ∧ Aside0 (Kd.R k69 69 w' w.heap.size (fun _ => True) u266002 x266002_1) ∧ Aside0 (w'.heap[gb254]? = some (.cells #[.string x255000_1, .string x255001_1, (.slice none 0 0)] 61 (0, 0))) ∧ Aside0 (w'.heap[gb265]? = some (.cells #[.string t263, .string t264, u266002] 61 (0, 0))) ∧ Aside0 (Below w.heap.size w w'))
  case atStart => exact ⟨(t257), (t258), ((⟨#[]⟩ : ByteArray)), ((⟨#[]⟩ : ByteArray)), (([] : List (S69))), (.slice none 0 0), rs, rs, H', ⟨Nat.le_refl _⟩, ⟨nx⟩, ⟨by (with_reducible repeat (first | refine blk_drewN ?_ _ | refine blk_drew ?_ | refine blk_alloc ?_ _)); refine blk_far ?_ NB254_265.out _; (with_reducible repeat (first | refine blk_drewN ?_ _ | refine blk_drew ?_ | refine blk_alloc ?_ _)); refine blk_far ?_ NB254_265.out _; (with_reducible repeat (first | refine blk_drewN ?_ _ | refine blk_drew ?_ | refine blk_alloc ?_ _)); refine blk_far ?_ NB254_265.out _; (with_reducible repeat (first | refine blk_drewN ?_ _ | refine blk_drew ?_ | refine blk_alloc ?_ _)); exact BK254.out⟩, ⟨by (with_reducible repeat (first | refine blk_drewN ?_ _ | refine blk_drew ?_ | refine blk_alloc ?_ _)); refine blk_put (cs := #[.string t263, .string t264, .slice none 0 0]) ?_ 2 _ rfl; (with_reducible repeat (first | refine blk_drewN ?_ _ | refine blk_drew ?_ | refine blk_alloc ?_ _)); refine blk_put (cs := #[.string t263, .string (⟨#[]⟩ : ByteArray), .slice none 0 0]) ?_ 1 _ rfl; (with_reducible repeat (first | refine blk_drewN ?_ _ | refine blk_drew ?_ | refine blk_alloc ?_ _)); refine blk_put (cs := #[.string (⟨#[]⟩ : ByteArray), .string (⟨#[]⟩ : ByteArray), .slice none 0 0]) ?_ 0 _ rfl; (with_reducible repeat (first | refine blk_drewN ?_ _ | refine blk_drew ?_ | refine blk_alloc ?_ _)); exact BK265.out⟩, ⟨bb⟩⟩
  case round =>
   clear H'
   try clear c1
   try clear p2
   try clear c3
   try clear c13
   try clear hcz14_0
   try clear hcz14_1
   try clear hcz14_2
   try clear hfz14_0
   try clear hfz14_1
   try clear hfz14_2
   obtain ⟨x5_1, x6_1, x255000_1, x255001_1, x266002_1, u266002, rfl, rfl, HA, HK1, HO_266002, BK254, BK265, HB⟩ := hrel
   cases gk with
   | zero => exact absurd HA.out (by simp [spec_ParseKind.l0])
   | succ k1 =>
    have H := HA.out
    clear HA
    simp only [spec_ParseKind.l0] at H
    replace H := sb H
    rcases H with ⟨rfl, H⟩ | ⟨rfl, H⟩
    ·
     replace H := bd H
     obtain ⟨⟨t267, t268, t269⟩, A16, H⟩ := H
     (try dsimp only at H)
     replace H := bd H; obtain ⟨t270, A17, H⟩ := H; replace H := bd H
     obtain ⟨⟨t271, t272, t273⟩, A18, H⟩ := H
     (try dsimp only at H)
     replace H := bd H; obtain ⟨t274, A19, H⟩ := H; replace H := bd H
     obtain ⟨⟨t275, t276⟩, A20, H⟩ := H
     (try dsimp only at H)
     have HC21 := ak H
     clear H
     go_upto_region 11 with (first | (refine gL 178 42 Tryz.func178 #[.string x5_1, .int .u8 59] ?_; (with_reducible refine (spec_l2Cut.calls k1 x5_1 59 t267 t268 t269 _ A16.out).mono ?_); rintro e w' ⟨rfl, ⟨nd, rfl⟩⟩; refine ⟨_, rfl, ?_⟩) | (refine gL 179 48 Tryz.func179 #[.string t267] ?_; (with_reducible refine (spec_l2Trim.calls k1 t267 t270 _ A17.out).mono ?_); rintro e w' ⟨rfl, ⟨nd, rfl⟩⟩; refine ⟨_, rfl, ?_⟩) | (refine gL 178 49 Tryz.func178 #[.string t270, .int .u8 61] ?_; (with_reducible refine (spec_l2Cut.calls k1 t270 61 t271 t272 t273 _ A18.out).mono ?_); rintro e w' ⟨rfl, ⟨nd, rfl⟩⟩; refine ⟨_, rfl, ?_⟩) | (refine gL 179 55 Tryz.func179 #[.string t272] ?_; (with_reducible refine (spec_l2Trim.calls k1 t272 t274 _ A19.out).mono ?_); rintro e w' ⟨rfl, ⟨nd, rfl⟩⟩; refine ⟨_, rfl, ?_⟩) | (refine gL 181 56 Tryz.func181 #[.string t274] ?_; (with_reducible refine (spec_l1Words.calls k1 t274 t275 t276 _ A20.out).mono ?_); rintro e w22 ⟨v277, rfl, ho0, hb⟩; refine ⟨_, rfl, ?_⟩; have HO278 := ak (Kd.R_lower ho0 (below_size bb)); replace HO_266002 := rb HO_266002 hb; replace BK254 := kb BK254 hb; replace BK265 := kb BK265 hb; replace HB := ak (below_step bb hb); (try clear hb); (try clear ho0)))
     (try simp only [Act.put, l_a, l_b, l_c])
     go_cut [69] (fun v69 wc => ∃ (kq : Nat) (x69_20 : Bool), v69 = .bool x69_20 ∧ Aside0 (spec_ParseKind.j1 kq t268 t269 t262 t271 t275 x69_20 t263 t264 x266002_1 = some (r1, r2, r3, r4)) ∧ Aside0 (kq ≤ k1) ∧ Aside0 (Kd.R Kd.string 9 wc w.heap.size (fun _ => True) v277 t275) ∧ Aside0 (Kd.R k69 69 wc w.heap.size (fun _ => True) u266002 x266002_1) ∧ Aside0 (wc.heap[gb254]? = some (.cells #[.string x255000_1, .string x255001_1, (.slice none 0 0)] 61 (0, 0))) ∧ Aside0 (wc.heap[gb265]? = some (.cells #[.string t263, .string t264, u266002] 61 (0, 0))) ∧ Aside0 (Below w.heap.size w wc))
     case first =>
      have H := HC21.out
      clear HC21
      replace H := sb H
      rcases H with ⟨rfl, H⟩ | ⟨rfl, H⟩
      ·
       replace H := sb H
       rcases H with ⟨rfl, H⟩ | ⟨rfl, H⟩
       ·
        have H' := ak H; clear H
        obtain ⟨Ao25, co25, eo25⟩ := Kd.R_slice HO278.out
        subst eo25
        go_wp2
        go_meet
        case rel => exact ⟨_, (((t275.length : Int) != 1)), rs, H', ⟨by have := HK1.out; first | omega | exact Nat.le_refl _⟩, ⟨ur HO278.out⟩, ⟨ur HO_266002.out⟩, ⟨ub BK254.out⟩, ⟨ub BK265.out⟩, ⟨bb⟩⟩
       ·
        have H' := ak H; clear H
        go_wp2
        go_meet
        case rel => exact ⟨_, (true), rs, H', ⟨by have := HK1.out; first | omega | exact Nat.le_refl _⟩, ⟨ur HO278.out⟩, ⟨ur HO_266002.out⟩, ⟨ub BK254.out⟩, ⟨ub BK265.out⟩, ⟨bb⟩⟩
      ·
       have H' := ak H; clear H
       go_wp2
       go_meet
       case rel => exact ⟨_, (true), rs, H', ⟨by have := HK1.out; first | omega | exact Nat.le_refl _⟩, ⟨ur HO278.out⟩, ⟨ur HO_266002.out⟩, ⟨ub BK254.out⟩, ⟨ub BK265.out⟩, ⟨bb⟩⟩
     case rest =>
      clear HC21
      try clear c1
      try clear c2
      try clear p2
      try clear c3
      try clear c13
      try clear c15
      try clear c17
      try clear c18
      try clear c23
      try clear c24
      try clear hcz14_0
      try clear hcz14_1
      try clear hcz14_2
      try clear hfz14_0
      try clear hfz14_1
      try clear hfz14_2
      try clear p2
      obtain ⟨kq, x69_20, rfl, HA, HJ20, HO_15, HO_266002, BK254, BK265, HB⟩ := hcut
      cases kq with
      | zero => exact absurd HA.out (by simp [spec_ParseKind.j1])
      | succ kj20 =>
       have H := HA.out
       clear HA
       simp only [spec_ParseKind.j1] at H
       replace H := sb H
       rcases H with ⟨rfl, H⟩ | ⟨rfl, H⟩
       ·
        simp only [Option.some.injEq, Prod.mk.injEq] at H
        obtain ⟨rfl, rfl, rfl, rfl⟩ := H
        have hnb27 := NB254_265.out
        have hnc27 := NB265_254.out
        obtain ⟨hcz28_0, hcz28_1, hcz28_2, hfz28_0, hfz28_1, hfz28_2⟩ := cz3 BK254.out
        go_wp2
        refine bodyPost_ret (results_ct rfl _ _ gb254 61 #[.string (⟨#[]⟩ : ByteArray), .string (⟨#[]⟩ : ByteArray), .slice none 0 0] (0, 0) _ rfl (by (with_reducible repeat (first | refine blk_drewN ?_ _ | refine blk_drew ?_ | refine blk_alloc ?_ _)); refine blk_put (cs := #[.string (⟨#[]⟩ : ByteArray), .string (⟨#[]⟩ : ByteArray), .slice none 0 0]) ?_ 2 _ rfl; (with_reducible repeat (first | refine blk_drewN ?_ _ | refine blk_drew ?_ | refine blk_alloc ?_ _)); refine blk_put (cs := #[.string (⟨#[]⟩ : ByteArray), .string x255001_1, .slice none 0 0]) ?_ 1 _ rfl; (with_reducible repeat (first | refine blk_drewN ?_ _ | refine blk_drew ?_ | refine blk_alloc ?_ _)); refine blk_put (cs := #[.string x255000_1, .string x255001_1, .slice none 0 0]) ?_ 0 _ rfl; (with_reducible repeat (first | refine blk_drewN ?_ _ | refine blk_drew ?_ | refine blk_alloc ?_ _)); exact BK254.out) Tryz.underlying61 rfl (by kernel_rfl)) rfl ?_
        exact ⟨_, er, nx, bb⟩
       ·
        replace H := bd H; obtain ⟨t279, A29, H⟩ := H; replace H := bd H; obtain ⟨t280, A30, H⟩ := H; replace H := nn H; obtain ⟨c31, H⟩ := H
        have c31b0 := decide_eq_true c31
        have c31b1 : decide (0 < t275.length) = true := decide_eq_true (by omega)
        clear c31
        replace H := nl H; obtain ⟨LMc32, H⟩ := H
        obtain ⟨y282, Ny282⟩ := nm (x266002_1 ++ [(⟨t280, rdOf ByteArray.empty t275 0⟩ : S69)])
        rw [← Ny282.out] at H
        (try rw [Option.bind_some] at H)
        have H' := ak H; clear H
        try go_wp2
        replace HO_15 := ak (Kd.R_drew HO_15.out)
        replace HO_266002 := ak (Kd.R_drew HO_266002.out)
        replace BK254 := ak (blk_drew BK254.out)
        replace BK265 := ak (blk_drew BK265.out)
        replace HB := ak (below_drew1 HB.out)
        obtain ⟨Ao34, co34, eo34⟩ := Kd.R_slice HO_15.out
        (first | subst eo34 | (injection eo34 with f1_ f2_ f3_; have f4_ := f1_.symm; have f5_ := f3_.symm; clear f1_ f2_ f3_; subst f4_; subst f5_))
        have p281 : 0 ≤ (0 : Int) := (by omega)
        have q281 : 0 < (t275.length : Int) := of_decide_eq_true (by assumption)
        obtain ⟨ad281, e281, hx281_0⟩ := Kd.at_string (Kd.R_reads' HO_15.out).2.2 0 p281 q281
        cases e281
        have qi281 : (0 < t275.length) = True := eq_true (by omega)
        (try rw [show ((0 : Int)).toNat = 0 from rfl] at hx281_0)
        (try rw [Addr.add_zero'] at hx281_0)
        replace p281 := eq_true p281
        replace q281 := eq_true q281
        refine start_ (n := 13) (S := fun w' => w'.cell? ⟨gb265, 0, none⟩ = some (.string t263) ∧ w'.cell? ⟨gb265, 1, none⟩ = some (.string t264) ∧ w'.cell? ⟨gb265, 2, none⟩ = some (u266002) ∧ w'.cell? ad281 = some (.string (rdOf ByteArray.empty t275 0))) (ds := [10, 12]) #[false, false, false, false, false, false, false, false, false, false, false, false, false] (by kernel_rfl) rfl rfl ⟨(blk_cell BK265.out 0).trans rfl, (blk_cell BK265.out 1).trans rfl, (blk_cell BK265.out 2).trans rfl, hx281_0⟩ (fun hHeld => ?_); refine with_tabW spec_ParseKind.tab13 spec_ParseKind.bits13 (fun HT_ HW_ => ?_)
        generalize wc.drew = w33 at HO_15 HO_266002 BK254 BK265 HB hx281_0 hHeld ⊢
        refine pure_ (i := 0) (N := some 71) (v := ?_) (a' := ?_) #[true, false, false, false, false, false, false, false, false, false, false, false, false] rfl rfl (any_of HT_.out (by kernel_rfl)) (fun _ _ _ h => h) (Or.inl ⟨by rfl, ?_⟩) ?_ ?_
        rotate_left
        ·
         intro w'
         go_simp
         with_reducible rfl
        rotate_left
        ·
         simp only [Act.put, l_a, l_b, l_c, i64_w, i32_w]
         rfl
        refine pure_ (i := 2) (N := some 73) (v := ?_) (a' := ?_) #[true, false, true, false, false, false, false, false, false, false, false, false, false] rfl rfl (any_of HT_.out (by kernel_rfl)) (fun _ _ _ h => h) (Or.inl ⟨by rfl, ?_⟩) ?_ ?_
        rotate_left
        ·
         intro w'
         go_simp
         with_reducible rfl
        rotate_left
        ·
         simp only [Act.put, l_a, l_b, l_c, i64_w, i32_w]
         rfl
        refine pure_ (i := 5) (N := some 76) (v := ?_) (a' := ?_) #[true, false, true, false, false, true, false, false, false, false, false, false, false] rfl rfl (any_of HT_.out (by kernel_rfl)) (fun _ _ _ h => h) (Or.inl ⟨by rfl, ?_⟩) ?_ ?_
        rotate_left
        ·
         intro w'
         go_simp
         with_reducible rfl
        rotate_left
        ·
         simp only [Act.put, l_a, l_b, l_c, i64_w, i32_w]
         rfl
        refine pure_ (i := 6) (N := some 77) (v := ?_) (a' := ?_) #[true, false, true, false, false, true, true, false, false, false, false, false, false] rfl rfl (any_of HT_.out (by kernel_rfl)) (fun _ _ _ h => h) (Or.inl ⟨by rfl, ?_⟩) ?_ ?_
        rotate_left
        ·
         intro w'
         go_simp
         with_reducible rfl
        rotate_left
        ·
         simp only [Act.put, l_a, l_b, l_c, i64_w, i32_w]
         rfl
        refine take_ (i := 1) (N := some 72) (v := ?_) (a' := ?_) #[true, true, true, false, false, true, true, false, false, false, false, false, false] rfl rfl (take_ofW HT_.out HW_.out (by kernel_rfl)) (fun _ _ _ h => h) (Or.inl ⟨by rfl, ?_⟩) hHeld ?_ ?_
        rotate_left
        ·
         rintro w' ⟨s0, s1, s2, s3⟩
         go_simp
         with_reducible rfl
        rotate_left
        ·
         simp only [Act.put, l_a, l_b, l_c, i64_w, i32_w]
         rfl
        refine take_ (i := 7) (N := some 78) (v := ?_) (a' := ?_) #[true, true, true, false, false, true, true, true, false, false, false, false, false] rfl rfl (take_ofW HT_.out HW_.out (by kernel_rfl)) (fun _ _ _ h => h) (Or.inl ⟨by rfl, ?_⟩) hHeld ?_ ?_
        rotate_left
        ·
         rintro w' ⟨s0, s1, s2, s3⟩
         go_simp
         with_reducible rfl
        rotate_left
        ·
         simp only [Act.put, l_a, l_b, l_c, i64_w, i32_w]
         rfl
        refine one_ (i := 3) (N := some 74) #[true, true, true, true, false, true, true, true, false, false, false, false, false] rfl rfl (one_of HT_.out (by kernel_rfl)) (by decide) (fun K hK => ?_)
        refine goes_ Tryz.func179 (by kernel_rfl) rfl #[.string t271] (by rfl) rfl rfl ma ?_
        with_reducible refine (spec_l2Trim.calls kj20 t271 t279 _ A29.out).mono ?_
        rintro e w' ⟨rfl, ⟨nd, rfl⟩⟩
        refine ⟨_, rfl, ?_⟩
        refine hK.out _ _ ⟨(blk_cell BK265.out 0).trans rfl, (blk_cell BK265.out 1).trans rfl, (blk_cell BK265.out 2).trans rfl, hHeld.2.2.2⟩ (fun hHeld => ?_)
        clear hK K
        refine norm_ (a' := ?_) ?_ ?_
        rotate_left
        ·
         show Act.put _ (some 74) _ = _
         simp only [Act.put, l_a, l_b, l_c, i64_w, i32_w]
         rfl
        refine one_ (i := 4) (N := some 75) #[true, true, true, true, true, true, true, true, false, false, false, false, false] rfl rfl (one_of HT_.out (by kernel_rfl)) (by decide) (fun K hK => ?_)
        refine goes_ Tryz.func180 (by kernel_rfl) rfl #[.string t279] (by rfl) rfl rfl ma ?_
        with_reducible refine (spec_LowerText.calls t279 t280 _ A30.out).mono ?_
        rintro e w35 ⟨rfl, hb⟩
        have HS3_ := (hb.cell (World.block_lt_of_cell? _ _ (hHeld.2.2.2))).trans (hHeld.2.2.2)
        refine ⟨_, rfl, ?_⟩
        replace HO_15 := rb HO_15 hb
        replace HO_266002 := rb HO_266002 hb
        replace BK254 := kb BK254 hb
        replace BK265 := kb BK265 hb
        replace HB := ak (below_step bb hb)
        (try clear hb)
        refine hK.out _ _ ⟨(blk_cell BK265.out 0).trans rfl, (blk_cell BK265.out 1).trans rfl, (blk_cell BK265.out 2).trans rfl, HS3_⟩ (fun hHeld => ?_)
        clear hK K
        refine norm_ (a' := ?_) ?_ ?_
        rotate_left
        ·
         show Act.put _ (some 75) _ = _
         simp only [Act.put, l_a, l_b, l_c, i64_w, i32_w]
         rfl
        refine pure_ (i := 8) (N := some 79) (v := ?_) (a' := ?_) #[true, true, true, true, true, true, true, true, true, false, false, false, false] rfl rfl (any_of HT_.out (by kernel_rfl)) (fun _ _ _ h => h) (Or.inl ⟨by rfl, ?_⟩) ?_ ?_
        rotate_left
        ·
         intro w'
         go_simp
         with_reducible rfl
        rotate_left
        ·
         simp only [Act.put, l_a, l_b, l_c, i64_w, i32_w]
         rfl
        refine one_ (i := 9) (N := some 80) #[true, true, true, true, true, true, true, true, true, true, false, false, false] rfl rfl (one_of HT_.out (by kernel_rfl)) (by decide) (fun K hK => ?_)
        refine value_ (w1 := ?_) (v := ?_) (by rfl) rfl ?_ ?_
        rotate_left 2
        ·
         go_simp
         constructor
         ·
          rfl
         ·
          rfl
        refine hK.out _ _ ⟨(blk_cell (blk_alloc BK265.out _) 0).trans rfl, (blk_cell (blk_alloc BK265.out _) 1).trans rfl, (blk_cell (blk_alloc BK265.out _) 2).trans rfl, (World.cell?_alloc_lt _ _ _ (World.block_lt_of_cell? _ _ (hHeld.2.2.2))).trans (hHeld.2.2.2)⟩ (fun hHeld => ?_)
        clear hK K
        refine norm_ (a' := ?_) ?_ ?_
        rotate_left
        ·
         show Act.put _ (some 80) _ = _
         simp only [Act.put, l_a, l_b, l_c, i64_w, i32_w]
         rfl
        refine last_ (i := 10) (N := some 81) #[true, true, true, true, true, true, true, true, true, true, true, false, false] rfl rfl (one_of HT_.out (by kernel_rfl)) (by decide) (fun K hK => ?_)
        refine Kd.R_append_step k69 (w0 := w) w.heap.size (by rfl) (.tmp 72) (.tmp 80) 25 69 (.agg #[(.string ⟨#[]⟩), (.string ⟨#[]⟩)]) 32 rfl Tryz.underlying25 info69 rfl (by decide) (by omega) u266002 x266002_1 (⟨t280, rdOf ByteArray.empty t275 0⟩ : S69) [.string t280, .string (rdOf ByteArray.empty t275 0)] (fun _ => True) (fun _ => False) rfl rfl ?aP (fun _ hk => hk.elim) ?aF ?aO ?aB ?aS ?aL ?_
        (case aP => exact k69_mkM _ _ _ (⟨t280, rdOf ByteArray.empty t275 0⟩ : S69))
        (case aB => exact bb)
        (case aF => exact (fun _ _ => trivial))
        (case aO => exact (ur HO_266002.out))
        (case aS => exact (below_size bb))
        (case aL => have := LMc32.out; omega)
        intro v283 w36 ho hb hg hat
        rw [← Ny282.out] at ho
        have n0_ := ak (Kd.R_over' (ur HO_15.out) (Kd.R_typed (ur HO_266002.out)) (by decide) hg)
        have n1_ := ak (blk_grown (g := gb254) (o := .cells #[.string x255000_1, .string x255001_1, .slice none 0 0] 61 (0, 0)) (ub BK254.out) hg (Kd.R_ne HO_266002.out BK254.out (by decide)))
        have n2_ := ak (blk_grown (g := gb265) (o := .cells #[.string t263, .string t264, u266002] 61 (0, 0)) (ub BK265.out) hg (Kd.R_ne HO_266002.out BK265.out (by decide)))
        have n3_ := ak (hb)
        have n4_ := ak (ho)
        clear HO_15 BK254 BK265 HB HO_266002
        have HO_15 := n0_
        have BK254 := n1_
        have BK265 := n2_
        have HB := n3_
        have HO284 := n4_
        clear n0_ n1_ n2_ n3_ n4_ ho hb hg hat
        obtain ⟨Ao37, co37, eo37⟩ := Kd.R_slice HO284.out
        (first | subst eo37 | (injection eo37 with f1_ f2_ f3_; have f4_ := f1_.symm; have f5_ := f3_.symm; clear f1_ f2_ f3_; subst f4_; subst f5_))
        refine hK.out _ _ ?_
        clear hK K
        refine norm_ (a' := ?_) ?_ ?_
        rotate_left
        ·
         show Act.put _ (some 81) _ = _
         simp only [Act.put, l_a, l_b, l_c, i64_w, i32_w]
         rfl
        refine pure_ (i := 11) (N := some 82) (v := ?_) (a' := ?_) #[true, true, true, true, true, true, true, true, true, true, true, true, false] rfl rfl (any_of HT_.out (by kernel_rfl)) (fun _ _ _ h => h) (Or.inl ⟨by rfl, ?_⟩) ?_ ?_
        rotate_left
        ·
         intro w'
         go_simp
         with_reducible rfl
        rotate_left
        ·
         simp only [Act.put, l_a, l_b, l_c, i64_w, i32_w]
         rfl
        refine last_ (i := 12) (N := none) #[true, true, true, true, true, true, true, true, true, true, true, true, true] rfl rfl (one_of HT_.out (by kernel_rfl)) (by decide) (fun K hK => ?_)
        have hs38 : w36.cell? ⟨gb265, 2, none⟩ = some (u266002) := (blk_cell BK265.out 2).trans rfl
        have hfs38 := blk_frozen BK265.out 2
        have hns38_0 := NB254_265.out
        have hms38_0 := NB265_254.out
        refine skip_ (w1 := ?_) (by rfl) rfl ?_ ?_
        rotate_left
        ·
         go_simp
         rfl
        refine hK.out _ _ ?_
        clear hK K
        refine done_ (done_of HT_.out (by kernel_rfl)) ?_
        try go_wp2
        go_roundg kj20
        case measure => have := HK1.out; have := HJ20.out; omega
        case rel => exact ⟨(t268), (t269), (x255000_1), (x255001_1), (y282), (.slice Ao37 y282.length co37), rs, rs, H', ⟨by have := HK1.out; have := HJ20.out; omega⟩, ⟨ur (Kd.R_mono (Kd.R_far (p := ⟨gb265, 2, none⟩) (Kd.R_types HO284.out BK265.out (by decide)) (fun _ hk => hk.2) (.slice Ao37 y282.length co37)) (fun _ hk => trivial))⟩, ⟨by (with_reducible repeat (first | refine blk_drewN ?_ _ | refine blk_drew ?_ | refine blk_alloc ?_ _)); refine blk_far ?_ NB254_265.out _; (with_reducible repeat (first | refine blk_drewN ?_ _ | refine blk_drew ?_ | refine blk_alloc ?_ _)); exact BK254.out⟩, ⟨by (with_reducible repeat (first | refine blk_drewN ?_ _ | refine blk_drew ?_ | refine blk_alloc ?_ _)); refine blk_put (cs := #[.string t263, .string t264, u266002]) ?_ 2 _ rfl; (with_reducible repeat (first | refine blk_drewN ?_ _ | refine blk_drew ?_ | refine blk_alloc ?_ _)); exact BK265.out⟩, ⟨bb⟩⟩
    ·
     replace H := sb H
     rcases H with ⟨rfl, H⟩ | ⟨rfl, H⟩
     ·
      replace H := bd H; obtain ⟨t266, A40, H⟩ := H; replace H := sb H
      rcases H with ⟨rfl, H⟩ | ⟨rfl, H⟩
      ·
       simp only [Option.some.injEq, Prod.mk.injEq] at H
       obtain ⟨rfl, rfl, rfl, rfl⟩ := H
       have hnb42 := NB265_254.out
       have hnc42 := NB254_265.out
       obtain ⟨hcz43_0, hcz43_1, hcz43_2, hfz43_0, hfz43_1, hfz43_2⟩ := cz3 BK265.out
       obtain ⟨Ao44, co44, eo44⟩ := Kd.R_slice HO_266002.out
       subst eo44
       go_wp2_with (first | (go_at_call 182; (with_reducible refine (spec_KindValid.calls k1 t263 t264 _ _ x266002_1 true _ (cu ((Kd.R_reads' HO_266002.out).2.2)) ((Kd.R_reads' HO_266002.out).2.1) A40.out).mono ?_); rintro e w45 ⟨rfl, hb⟩; replace HO_266002 := rb HO_266002 hb; replace BK254 := kb BK254 hb; replace BK265 := kb BK265 hb; replace HB := ak (below_step bb hb); (try clear hb); obtain ⟨hcz46_0, hcz46_1, hcz46_2, hfz46_0, hfz46_1, hfz46_2⟩ := cz3 BK265.out; obtain ⟨hcz47_0, hcz47_1, hcz47_2, hfz47_0, hfz47_1, hfz47_2⟩ := cz3 BK254.out))
       refine bodyPost_ret (results_ct rfl _ _ gb254 61 #[.string t263, .string t264, .slice Ao44 x266002_1.length co44] (0, 0) _ rfl (by (with_reducible repeat (first | refine blk_drewN ?_ _ | refine blk_drew ?_ | refine blk_alloc ?_ _)); refine blk_put (cs := #[.string t263, .string t264, .slice none 0 0]) ?_ 2 _ rfl; (with_reducible repeat (first | refine blk_drewN ?_ _ | refine blk_drew ?_ | refine blk_alloc ?_ _)); refine blk_put (cs := #[.string t263, .string x255001_1, .slice none 0 0]) ?_ 1 _ rfl; (with_reducible repeat (first | refine blk_drewN ?_ _ | refine blk_drew ?_ | refine blk_alloc ?_ _)); refine blk_put (cs := #[.string x255000_1, .string x255001_1, .slice none 0 0]) ?_ 0 _ rfl; (with_reducible repeat (first | refine blk_drewN ?_ _ | refine blk_drew ?_ | refine blk_alloc ?_ _)); exact BK254.out) Tryz.underlying61 rfl (by kernel_rfl)) rfl ?_
       exact ⟨_, er, ur (Kd.R_mono (Kd.R_far (p := ⟨gb254, 2, none⟩) (Kd.R_far (p := ⟨gb254, 1, none⟩) (Kd.R_far (p := ⟨gb254, 0, none⟩) (Kd.R_types HO_266002.out BK254.out (by decide)) (fun _ hk => hk.2) (.string t263)) (fun _ hk => hk.2) (.string t264)) (fun _ hk => hk.2) (.slice Ao44 x266002_1.length co44)) (fun _ hk => trivial)), bb⟩
      ·
       simp only [Option.some.injEq, Prod.mk.injEq] at H
       obtain ⟨rfl, rfl, rfl, rfl⟩ := H
       have hnb48 := NB265_254.out
       have hnc48 := NB254_265.out
       obtain ⟨hcz49_0, hcz49_1, hcz49_2, hfz49_0, hfz49_1, hfz49_2⟩ := cz3 BK265.out
       obtain ⟨Ao50, co50, eo50⟩ := Kd.R_slice HO_266002.out
       subst eo50
       go_wp2_with (first | (go_at_call 182; (with_reducible refine (spec_KindValid.calls k1 t263 t264 _ _ x266002_1 false _ (cu ((Kd.R_reads' HO_266002.out).2.2)) ((Kd.R_reads' HO_266002.out).2.1) A40.out).mono ?_); rintro e w51 ⟨rfl, hb⟩; replace HO_266002 := rb HO_266002 hb; replace BK254 := kb BK254 hb; replace BK265 := kb BK265 hb; replace HB := ak (below_step bb hb); (try clear hb); obtain ⟨hcz52_0, hcz52_1, hcz52_2, hfz52_0, hfz52_1, hfz52_2⟩ := cz3 BK254.out))
       refine bodyPost_ret (results_ct rfl _ _ gb254 61 #[.string (⟨#[]⟩ : ByteArray), .string (⟨#[]⟩ : ByteArray), .slice none 0 0] (0, 0) _ rfl (by (with_reducible repeat (first | refine blk_drewN ?_ _ | refine blk_drew ?_ | refine blk_alloc ?_ _)); refine blk_put (cs := #[.string (⟨#[]⟩ : ByteArray), .string (⟨#[]⟩ : ByteArray), .slice none 0 0]) ?_ 2 _ rfl; (with_reducible repeat (first | refine blk_drewN ?_ _ | refine blk_drew ?_ | refine blk_alloc ?_ _)); refine blk_put (cs := #[.string (⟨#[]⟩ : ByteArray), .string x255001_1, .slice none 0 0]) ?_ 1 _ rfl; (with_reducible repeat (first | refine blk_drewN ?_ _ | refine blk_drew ?_ | refine blk_alloc ?_ _)); refine blk_put (cs := #[.string x255000_1, .string x255001_1, .slice none 0 0]) ?_ 0 _ rfl; (with_reducible repeat (first | refine blk_drewN ?_ _ | refine blk_drew ?_ | refine blk_alloc ?_ _)); exact BK254.out) Tryz.underlying61 rfl (by kernel_rfl)) rfl ?_
       exact ⟨_, er, nx, bb⟩
     ·
      simp only [Option.some.injEq, Prod.mk.injEq] at H
      obtain ⟨rfl, rfl, rfl, rfl⟩ := H
      have hnb53 := NB254_265.out
      have hnc53 := NB265_254.out
      obtain ⟨hcz54_0, hcz54_1, hcz54_2, hfz54_0, hfz54_1, hfz54_2⟩ := cz3 BK254.out
      go_wp2
      refine bodyPost_ret (results_ct rfl _ _ gb254 61 #[.string (⟨#[]⟩ : ByteArray), .string (⟨#[]⟩ : ByteArray), .slice none 0 0] (0, 0) _ rfl (by (with_reducible repeat (first | refine blk_drewN ?_ _ | refine blk_drew ?_ | refine blk_alloc ?_ _)); refine blk_put (cs := #[.string (⟨#[]⟩ : ByteArray), .string (⟨#[]⟩ : ByteArray), .slice none 0 0]) ?_ 2 _ rfl; (with_reducible repeat (first | refine blk_drewN ?_ _ | refine blk_drew ?_ | refine blk_alloc ?_ _)); refine blk_put (cs := #[.string (⟨#[]⟩ : ByteArray), .string x255001_1, .slice none 0 0]) ?_ 1 _ rfl; (with_reducible repeat (first | refine blk_drewN ?_ _ | refine blk_drew ?_ | refine blk_alloc ?_ _)); refine blk_put (cs := #[.string x255000_1, .string x255001_1, .slice none 0 0]) ?_ 0 _ rfl; (with_reducible repeat (first | refine blk_drewN ?_ _ | refine blk_drew ?_ | refine blk_alloc ?_ _)); exact BK254.out) Tryz.underlying61 rfl (by kernel_rfl)) rfl ?_
      exact ⟨_, er, nx, bb⟩
 ·
  simp only [Option.some.injEq, Prod.mk.injEq] at H
  obtain ⟨rfl, rfl, rfl, rfl⟩ := H
  go_enter Tryz.func155, Tryz.ntmps155
  go_wp2_with (first | (refine gate_dst (N := 2) rfl ?_; (try (refine gate_guard (by rfl) ?_; dsimp only)); refine bE 2 #[.string (⟨#[]⟩ : ByteArray), .string (⟨#[]⟩ : ByteArray), .slice none 0 0] 61 ?_; intro gb254 hg w55 hbox hb; have BK254 := ak (hbox); have GW254 := ge_ HB hg; have GE254 := ge_ HB hg; replace HB := bs HB hb; clear hb hbox hg) | (refine gL 159 18 Tryz.func159 #[.string a0] ?_; (with_reducible refine (spec_TextValid.calls k a0 false _ A2.out).mono ?_); rintro e w' ⟨rfl, ⟨nd, rfl⟩⟩; refine ⟨_, rfl, ?_⟩; (try (rw [drewN_self w55]; generalize hq_ : World.drewN w55 _ = w55; have n0_ : Aside0 (w55.heap[gb254]? = some (.cells #[.string (⟨#[]⟩ : ByteArray), .string (⟨#[]⟩ : ByteArray), .slice none 0 0] 61 (0, 0))) := ⟨by rw [← hq_]; exact (ub BK254.out)⟩; have n1_ : Aside0 (Below w.heap.size w w55) := ⟨by rw [← hq_]; exact bb⟩; clear BK254 HB hq_; have BK254 := n0_; have HB := n1_; clear n0_ n1_)); obtain ⟨hcz56_0, hcz56_1, hcz56_2, hfz56_0, hfz56_1, hfz56_2⟩ := cz3 BK254.out))
  refine bodyPost_ret (results_ct rfl _ _ gb254 61 #[.string (⟨#[]⟩ : ByteArray), .string (⟨#[]⟩ : ByteArray), .slice none 0 0] (0, 0) _ rfl (by (with_reducible repeat (first | refine blk_drewN ?_ _ | refine blk_drew ?_ | refine blk_alloc ?_ _)); refine blk_put (cs := #[.string (⟨#[]⟩ : ByteArray), .string (⟨#[]⟩ : ByteArray), .slice none 0 0]) ?_ 2 _ rfl; (with_reducible repeat (first | refine blk_drewN ?_ _ | refine blk_drew ?_ | refine blk_alloc ?_ _)); refine blk_put (cs := #[.string (⟨#[]⟩ : ByteArray), .string (⟨#[]⟩ : ByteArray), .slice none 0 0]) ?_ 1 _ rfl; (with_reducible repeat (first | refine blk_drewN ?_ _ | refine blk_drew ?_ | refine blk_alloc ?_ _)); refine blk_put (cs := #[.string (⟨#[]⟩ : ByteArray), .string (⟨#[]⟩ : ByteArray), .slice none 0 0]) ?_ 0 _ rfl; (with_reducible repeat (first | refine blk_drewN ?_ _ | refine blk_drew ?_ | refine blk_alloc ?_ _)); exact BK254.out) Tryz.underlying61 rfl (by kernel_rfl)) rfl ?_
  exact ⟨_, er, nx, bb⟩
mutual
def spec_l7Boundary.l0 : Nat → ByteArray → Int → Option (Bool)
 | 0, _, _ => none
 | k + 1, x0, x3 => if x3 < (x0.size : Int) then (spec_l7Boundary.j1 k x0 x3 (decide (x3 ≤ 20))) else (spec_l7Boundary.j1 k x0 x3 false)
def spec_l7Boundary.j1 : Nat → ByteArray → Int → Bool → Option (Bool)
 | 0, _, _, _ => none
 | k + 1, x0, x3, x11 => if x11 = true then (if 0 ≤ x3 then (if x3 < (x0.size : Int) then ((spec_l1Letter.f (bt x0 x3)).bind fun t285 => (if t285 = true then (spec_l7Boundary.l0 k x0 (wrap64 (x3 + 1))) else (some false))) else (none)) else (none)) else (if (x0.size : Int) ≥ 1 then (some (decide ((x0.size : Int) ≤ 20))) else (some false))
end
def spec_l7Boundary.f (k : Nat) (a0 : ByteArray) : Option (Bool) := spec_l7Boundary.l0 k a0 0
set_option maxHeartbeats 8000000 in
set_option maxRecDepth 100000 in
theorem spec_l7Boundary.calls (k : Nat) (a0 : ByteArray) (r : Bool) (w : World) (h : spec_l7Boundary.f k a0 = some r) :
  Calls Tryz.prog 157 #[.string a0] w fun e w' => e = .returned (.bool r) ∧ Drawn0 w w' := by
 have H : (spec_l7Boundary.l0 k a0 0) = some r := h
 clear h
 have H' := ak H; clear H
 go_enter Tryz.func157, Tryz.ntmps157
 go_wp2
 go_loopg [3] k (fun kq v3 w' => ∃ (x3_1 : Int), v3 = .int .i64 x3_1 ∧ Aside0 (spec_l7Boundary.l0 kq a0 x3_1 = some r) ∧ Aside0 (kq ≤ k) ∧ Drawn0 w w')
 case atStart => exact ⟨(0), rs, H', ⟨Nat.le_refl _⟩, dn⟩
 case round =>
  clear H'
  try clear c1
  obtain ⟨x3_1, rfl, HA, HK1, ⟨m1, rfl⟩⟩ := hrel
  cases gk with
  | zero => exact absurd HA.out (by simp [spec_l7Boundary.l0])
  | succ k1 =>
   have H := HA.out
   clear HA
   simp only [spec_l7Boundary.l0] at H
   have HC2 := ak H
   clear H
   go_upto_region 2 with (fail)
   go_cut [11] (fun v11 wc => ∃ (kq : Nat) (x11_1 : Bool), v11 = .bool x11_1 ∧ Aside0 (spec_l7Boundary.j1 kq a0 x3_1 x11_1 = some r) ∧ Aside0 (kq ≤ k1) ∧ Drawn0 w wc)
   case first =>
    have H := HC2.out
    clear HC2
    replace H := sd H
    rcases H with ⟨c3b0, H⟩ | ⟨c3b0, H⟩
    ·
     (first | rw [c3b0] | (simp only [i64_w, i32_w]; rw [c3b0]) | skip)
     have H' := ak H; clear H
     go_wp2
     go_meet
     case rel => exact ⟨_, (decide (x3_1 ≤ 20)), rs, H', ⟨by have := HK1.out; first | omega | exact Nat.le_refl _⟩, dn⟩
    ·
     (first | rw [c3b0] | (simp only [i64_w, i32_w]; rw [c3b0]) | skip)
     have H' := ak H; clear H
     go_wp2
     go_meet
     case rel => exact ⟨_, (false), rs, H', ⟨by have := HK1.out; first | omega | exact Nat.le_refl _⟩, dn⟩
   case rest =>
    clear HC2
    try clear c1
    try clear p2
    try clear c3
    try clear c3b0
    obtain ⟨kq, x11_1, rfl, HA, HJ1, ⟨mc1, rfl⟩⟩ := hcut
    cases kq with
    | zero => exact absurd HA.out (by simp [spec_l7Boundary.j1])
    | succ kj1 =>
     have H := HA.out
     clear HA
     simp only [spec_l7Boundary.j1] at H
     replace H := sb H
     rcases H with ⟨rfl, H⟩ | ⟨rfl, H⟩
     ·
      replace H := nde H; obtain ⟨c5b0, H⟩ := H; replace H := nde H; obtain ⟨c6b0, H⟩ := H; replace H := bd H; obtain ⟨t285, A8, H⟩ := H; replace H := sb H
      rcases H with ⟨rfl, H⟩ | ⟨rfl, H⟩
      ·
       have H' := ak H; clear H
       obtain ⟨p7, q7, hx7⟩ := bx a0 x3_1
       go_wp2_with (first | (refine gL 183 17 Tryz.func183 #[.int .u8 (bt a0 x3_1)] ?_; (with_reducible refine (spec_l1Letter.calls (bt a0 x3_1) true _ A8.out).mono ?_); rintro e w' ⟨rfl, ⟨nd, rfl⟩⟩; refine ⟨_, rfl, ?_⟩))
       go_roundg kj1
       case measure => have := HK1.out; have := HJ1.out; omega
       case rel => exact ⟨(wrap64 (x3_1 + 1)), rs, H', ⟨by have := HK1.out; have := HJ1.out; omega⟩, dn⟩
      ·
       obtain rfl := Option.some.inj H
       obtain ⟨p7, q7, hx7⟩ := bx a0 x3_1
       go_wp2_with (first | (refine gL 183 17 Tryz.func183 #[.int .u8 (bt a0 x3_1)] ?_; (with_reducible refine (spec_l1Letter.calls (bt a0 x3_1) false _ A8.out).mono ?_); rintro e w' ⟨rfl, ⟨nd, rfl⟩⟩; refine ⟨_, rfl, ?_⟩))
       go_ret
       exact ⟨rs, dn⟩
     ·
      replace H := sp H
      rcases H with ⟨c10, H⟩ | ⟨c10, H⟩
      ·
       have c10b0 : decide (1 ≤ (a0.size : Int)) = true := decide_eq_true c10
       have c10b1 : decide (1 ≤ a0.size) = true := decide_eq_true (by omega)
       clear c10
       obtain rfl := Option.some.inj H
       go_wp2
       go_ret
       exact ⟨rs, dn⟩
      ·
       have c10b0 : decide (1 ≤ (a0.size : Int)) = false := decide_eq_false c10
       have c10b1 : decide (1 ≤ a0.size) = false := decide_eq_false (by omega)
       clear c10
       obtain rfl := Option.some.inj H
       go_wp2
       go_ret
       exact ⟨rs, dn⟩
def spec_BoundaryOf.f (k : Nat) (a0_0 : ByteArray) (a0_1 : ByteArray) (l0_2 : List (S69)) : Option (ByteArray × Bool) := (spec_GetField.f k l0_2 (⟨#[98, 111, 117, 110, 100, 97, 114, 121]⟩ : ByteArray)).bind fun bt287 => ((spec_KindValid.f k a0_0 a0_1 l0_2).bind fun t289 => (if t289 = true then (if a0_0.toList = ([109, 117, 108, 116, 105, 112, 97, 114, 116] : List UInt8) then (if bt287.2 = true then ((spec_l7Boundary.f k bt287.1).bind fun t290 => (if t290 = true then (some (bt287.1, true)) else (some ((⟨#[]⟩ : ByteArray), false)))) else (some ((⟨#[]⟩ : ByteArray), false))) else (some ((⟨#[]⟩ : ByteArray), false))) else (some ((⟨#[]⟩ : ByteArray), false))))
set_option maxHeartbeats 8000000 in
set_option maxRecDepth 100000 in
theorem spec_BoundaryOf.calls (k : Nat) (a0_0 : ByteArray) (a0_1 : ByteArray) (A0_2 : Option Addr) (c0_2 : Nat) (l0_2 : List (S69)) (r1 : ByteArray) (r2 : Bool) (w : World) (hr0_2 : Kd.C k69 w A0_2 l0_2.length l0_2) (hc0_2 : l0_2.length ≤ c0_2) (h : spec_BoundaryOf.f k a0_0 a0_1 l0_2 = some (r1, r2)) :
  Calls Tryz.prog 156 #[.agg #[.string a0_0, .string a0_1, .slice A0_2 l0_2.length c0_2]] w fun e w' => e = .returned (.tuple #[.string r1, .bool r2]) ∧ Below w.heap.size w w' := by
 have hu61 := Tryz.underlying61
 have HR0_2 := ak hr0_2
 have HC0_2 := ak hc0_2
 clear hr0_2 hc0_2
 have HB := ak (Below.refl w.heap.size w)
 have H : ((spec_GetField.f k l0_2 (⟨#[98, 111, 117, 110, 100, 97, 114, 121]⟩ : ByteArray)).bind fun bt287 => ((spec_KindValid.f k a0_0 a0_1 l0_2).bind fun t289 => (if t289 = true then (if a0_0.toList = ([109, 117, 108, 116, 105, 112, 97, 114, 116] : List UInt8) then (if bt287.2 = true then ((spec_l7Boundary.f k bt287.1).bind fun t290 => (if t290 = true then (some (bt287.1, true)) else (some ((⟨#[]⟩ : ByteArray), false)))) else (some ((⟨#[]⟩ : ByteArray), false))) else (some ((⟨#[]⟩ : ByteArray), false))) else (some ((⟨#[]⟩ : ByteArray), false))))) = some (r1, r2) := h
 clear h
 replace H := bd H
 obtain ⟨⟨t287, t288⟩, A2, H⟩ := H
 (try dsimp only at H)
 replace H := bd H; obtain ⟨t289, A3, H⟩ := H; replace H := sb H
 rcases H with ⟨rfl, H⟩ | ⟨rfl, H⟩
 ·
  replace H := sq H
  rcases H with ⟨c5b0, c5b1, H⟩ | ⟨c5, c5b0, c5b1, H⟩
  ·
   replace H := sb H
   rcases H with ⟨rfl, H⟩ | ⟨rfl, H⟩
   ·
    replace H := bd H; obtain ⟨t290, A7, H⟩ := H; replace H := sb H
    rcases H with ⟨rfl, H⟩ | ⟨rfl, H⟩
    ·
     simp only [Option.some.injEq, Prod.mk.injEq] at H
     obtain ⟨rfl, rfl⟩ := H
     go_enter Tryz.func156, Tryz.ntmps156
     go_wp2_with (first | (refine bE 1 #[.string a0_0, .string a0_1, .slice A0_2 l0_2.length c0_2] 61 ?_; intro gb286 hg w9 hbox hb; have BK286 := ak (hbox); have GW286 := ge_ HB hg; have GE286 := ge_ HB hg; replace HB := bs HB hb; clear hb hbox hg; obtain ⟨hcz10_0, hcz10_1, hcz10_2, hfz10_0, hfz10_1, hfz10_2⟩ := cz3 BK286.out) | (refine gL 154 9 Tryz.func154 #[.slice A0_2 l0_2.length c0_2, .string (⟨#[98, 111, 117, 110, 100, 97, 114, 121]⟩ : ByteArray)] ?_; (with_reducible refine (spec_GetField.calls k _ _ l0_2 (⟨#[98, 111, 117, 110, 100, 97, 114, 121]⟩ : ByteArray) t287 true _ (cu (Kd.C_below HR0_2.out HB.out)) HC0_2.out A2.out).mono ?_); rintro e w11 ⟨rfl, hb⟩; refine ⟨_, rfl, ?_⟩; replace BK286 := kb BK286 hb; replace HB := ak (below_step bb hb); (try clear hb); obtain ⟨hcz12_0, hcz12_1, hcz12_2, hfz12_0, hfz12_1, hfz12_2⟩ := cz3 BK286.out) | (refine gL 182 13 Tryz.func182 #[.agg #[.string a0_0, .string a0_1, .slice A0_2 l0_2.length c0_2]] ?_; (with_reducible refine (spec_KindValid.calls k a0_0 a0_1 _ _ l0_2 true _ (cu (Kd.C_below HR0_2.out HB.out)) HC0_2.out A3.out).mono ?_); rintro e w13 ⟨rfl, hb⟩; refine ⟨_, rfl, ?_⟩; replace BK286 := kb BK286 hb; replace HB := ak (below_step bb hb); (try clear hb); obtain ⟨hcz14_0, hcz14_1, hcz14_2, hfz14_0, hfz14_1, hfz14_2⟩ := cz3 BK286.out) | (go_at_call 157; (with_reducible refine (spec_l7Boundary.calls k t287 true _ A7.out).mono ?_); rintro e w' ⟨rfl, ⟨nd, rfl⟩⟩))
     go_ret2
     exact ⟨er, bb⟩
    ·
     simp only [Option.some.injEq, Prod.mk.injEq] at H
     obtain ⟨rfl, rfl⟩ := H
     go_enter Tryz.func156, Tryz.ntmps156
     go_wp2_with (first | (refine bE 1 #[.string a0_0, .string a0_1, .slice A0_2 l0_2.length c0_2] 61 ?_; intro gb286 hg w15 hbox hb; have BK286 := ak (hbox); have GW286 := ge_ HB hg; have GE286 := ge_ HB hg; replace HB := bs HB hb; clear hb hbox hg; obtain ⟨hcz16_0, hcz16_1, hcz16_2, hfz16_0, hfz16_1, hfz16_2⟩ := cz3 BK286.out) | (refine gL 154 9 Tryz.func154 #[.slice A0_2 l0_2.length c0_2, .string (⟨#[98, 111, 117, 110, 100, 97, 114, 121]⟩ : ByteArray)] ?_; (with_reducible refine (spec_GetField.calls k _ _ l0_2 (⟨#[98, 111, 117, 110, 100, 97, 114, 121]⟩ : ByteArray) t287 true _ (cu (Kd.C_below HR0_2.out HB.out)) HC0_2.out A2.out).mono ?_); rintro e w17 ⟨rfl, hb⟩; refine ⟨_, rfl, ?_⟩; replace BK286 := kb BK286 hb; replace HB := ak (below_step bb hb); (try clear hb); obtain ⟨hcz18_0, hcz18_1, hcz18_2, hfz18_0, hfz18_1, hfz18_2⟩ := cz3 BK286.out) | (refine gL 182 13 Tryz.func182 #[.agg #[.string a0_0, .string a0_1, .slice A0_2 l0_2.length c0_2]] ?_; (with_reducible refine (spec_KindValid.calls k a0_0 a0_1 _ _ l0_2 true _ (cu (Kd.C_below HR0_2.out HB.out)) HC0_2.out A3.out).mono ?_); rintro e w19 ⟨rfl, hb⟩; refine ⟨_, rfl, ?_⟩; replace BK286 := kb BK286 hb; replace HB := ak (below_step bb hb); (try clear hb); obtain ⟨hcz20_0, hcz20_1, hcz20_2, hfz20_0, hfz20_1, hfz20_2⟩ := cz3 BK286.out) | (go_at_call 157; (with_reducible refine (spec_l7Boundary.calls k t287 false _ A7.out).mono ?_); rintro e w' ⟨rfl, ⟨nd, rfl⟩⟩))
     go_ret2
     exact ⟨er, bb⟩
   ·
    simp only [Option.some.injEq, Prod.mk.injEq] at H
    obtain ⟨rfl, rfl⟩ := H
    go_enter Tryz.func156, Tryz.ntmps156
    go_wp2_with (first | (refine bE 1 #[.string a0_0, .string a0_1, .slice A0_2 l0_2.length c0_2] 61 ?_; intro gb286 hg w21 hbox hb; have BK286 := ak (hbox); have GW286 := ge_ HB hg; have GE286 := ge_ HB hg; replace HB := bs HB hb; clear hb hbox hg; obtain ⟨hcz22_0, hcz22_1, hcz22_2, hfz22_0, hfz22_1, hfz22_2⟩ := cz3 BK286.out) | (refine gL 154 9 Tryz.func154 #[.slice A0_2 l0_2.length c0_2, .string (⟨#[98, 111, 117, 110, 100, 97, 114, 121]⟩ : ByteArray)] ?_; (with_reducible refine (spec_GetField.calls k _ _ l0_2 (⟨#[98, 111, 117, 110, 100, 97, 114, 121]⟩ : ByteArray) t287 false _ (cu (Kd.C_below HR0_2.out HB.out)) HC0_2.out A2.out).mono ?_); rintro e w23 ⟨rfl, hb⟩; refine ⟨_, rfl, ?_⟩; replace BK286 := kb BK286 hb; replace HB := ak (below_step bb hb); (try clear hb); obtain ⟨hcz24_0, hcz24_1, hcz24_2, hfz24_0, hfz24_1, hfz24_2⟩ := cz3 BK286.out) | (refine gL 182 13 Tryz.func182 #[.agg #[.string a0_0, .string a0_1, .slice A0_2 l0_2.length c0_2]] ?_; (with_reducible refine (spec_KindValid.calls k a0_0 a0_1 _ _ l0_2 true _ (cu (Kd.C_below HR0_2.out HB.out)) HC0_2.out A3.out).mono ?_); rintro e w25 ⟨rfl, hb⟩; refine ⟨_, rfl, ?_⟩; replace BK286 := kb BK286 hb; replace HB := ak (below_step bb hb); (try clear hb); obtain ⟨hcz26_0, hcz26_1, hcz26_2, hfz26_0, hfz26_1, hfz26_2⟩ := cz3 BK286.out))
    go_ret2
    exact ⟨er, bb⟩
  ·
   simp only [Option.some.injEq, Prod.mk.injEq] at H
   obtain ⟨rfl, rfl⟩ := H
   go_enter Tryz.func156, Tryz.ntmps156
   go_wp2_with (first | (refine bE 1 #[.string a0_0, .string a0_1, .slice A0_2 l0_2.length c0_2] 61 ?_; intro gb286 hg w27 hbox hb; have BK286 := ak (hbox); have GW286 := ge_ HB hg; have GE286 := ge_ HB hg; replace HB := bs HB hb; clear hb hbox hg; obtain ⟨hcz28_0, hcz28_1, hcz28_2, hfz28_0, hfz28_1, hfz28_2⟩ := cz3 BK286.out) | (refine gL 154 9 Tryz.func154 #[.slice A0_2 l0_2.length c0_2, .string (⟨#[98, 111, 117, 110, 100, 97, 114, 121]⟩ : ByteArray)] ?_; (with_reducible refine (spec_GetField.calls k _ _ l0_2 (⟨#[98, 111, 117, 110, 100, 97, 114, 121]⟩ : ByteArray) t287 t288 _ (cu (Kd.C_below HR0_2.out HB.out)) HC0_2.out A2.out).mono ?_); rintro e w29 ⟨rfl, hb⟩; refine ⟨_, rfl, ?_⟩; replace BK286 := kb BK286 hb; replace HB := ak (below_step bb hb); (try clear hb); obtain ⟨hcz30_0, hcz30_1, hcz30_2, hfz30_0, hfz30_1, hfz30_2⟩ := cz3 BK286.out) | (refine gL 182 13 Tryz.func182 #[.agg #[.string a0_0, .string a0_1, .slice A0_2 l0_2.length c0_2]] ?_; (with_reducible refine (spec_KindValid.calls k a0_0 a0_1 _ _ l0_2 true _ (cu (Kd.C_below HR0_2.out HB.out)) HC0_2.out A3.out).mono ?_); rintro e w31 ⟨rfl, hb⟩; refine ⟨_, rfl, ?_⟩; replace BK286 := kb BK286 hb; replace HB := ak (below_step bb hb); (try clear hb); obtain ⟨hcz32_0, hcz32_1, hcz32_2, hfz32_0, hfz32_1, hfz32_2⟩ := cz3 BK286.out))
   go_ret2
   exact ⟨er, bb⟩
 ·
  simp only [Option.some.injEq, Prod.mk.injEq] at H
  obtain ⟨rfl, rfl⟩ := H
  go_enter Tryz.func156, Tryz.ntmps156
  go_wp2_with (first | (refine bE 1 #[.string a0_0, .string a0_1, .slice A0_2 l0_2.length c0_2] 61 ?_; intro gb286 hg w33 hbox hb; have BK286 := ak (hbox); have GW286 := ge_ HB hg; have GE286 := ge_ HB hg; replace HB := bs HB hb; clear hb hbox hg; obtain ⟨hcz34_0, hcz34_1, hcz34_2, hfz34_0, hfz34_1, hfz34_2⟩ := cz3 BK286.out) | (refine gL 154 9 Tryz.func154 #[.slice A0_2 l0_2.length c0_2, .string (⟨#[98, 111, 117, 110, 100, 97, 114, 121]⟩ : ByteArray)] ?_; (with_reducible refine (spec_GetField.calls k _ _ l0_2 (⟨#[98, 111, 117, 110, 100, 97, 114, 121]⟩ : ByteArray) t287 t288 _ (cu (Kd.C_below HR0_2.out HB.out)) HC0_2.out A2.out).mono ?_); rintro e w35 ⟨rfl, hb⟩; refine ⟨_, rfl, ?_⟩; replace BK286 := kb BK286 hb; replace HB := ak (below_step bb hb); (try clear hb); obtain ⟨hcz36_0, hcz36_1, hcz36_2, hfz36_0, hfz36_1, hfz36_2⟩ := cz3 BK286.out) | (refine gL 182 13 Tryz.func182 #[.agg #[.string a0_0, .string a0_1, .slice A0_2 l0_2.length c0_2]] ?_; (with_reducible refine (spec_KindValid.calls k a0_0 a0_1 _ _ l0_2 false _ (cu (Kd.C_below HR0_2.out HB.out)) HC0_2.out A3.out).mono ?_); rintro e w37 ⟨rfl, hb⟩; refine ⟨_, rfl, ?_⟩; replace BK286 := kb BK286 hb; replace HB := ak (below_step bb hb); (try clear hb)))
  go_ret2
  exact ⟨er, bb⟩
def spec_l8Boundary.f (k : Nat) (l0 : List (S69)) : Option (ByteArray × Bool) := (spec_GetField.f k l0 (⟨#[67, 111, 110, 116, 101, 110, 116, 45, 84, 121, 112, 101]⟩ : ByteArray)).bind fun bt291 => ((spec_ParseKind.f k bt291.1).bind fun bt293 => ((spec_BoundaryOf.f k bt293.1 bt293.2.1 bt293.2.2.1).bind fun bt300 => (if bt291.2 = true then (if bt293.2.2.2 = true then (some (bt300.1, bt300.2)) else (some (bt300.1, false))) else (some (bt300.1, false)))))
set_option maxHeartbeats 8000000 in
set_option maxRecDepth 100000 in
theorem spec_l8Boundary.calls (k : Nat) (A0 : Option Addr) (c0 : Nat) (l0 : List (S69)) (r1 : ByteArray) (r2 : Bool) (w : World) (hr0 : Kd.C k69 w A0 l0.length l0) (hc0 : l0.length ≤ c0) (h : spec_l8Boundary.f k l0 = some (r1, r2)) :
  Calls Tryz.prog 108 #[.slice A0 l0.length c0] w fun e w' => e = .returned (.tuple #[.string r1, .bool r2]) ∧ Below w.heap.size w w' := by
 have hu61 := Tryz.underlying61
 have HR0 := ak hr0
 have HC0 := ak hc0
 clear hr0 hc0
 have HB := ak (Below.refl w.heap.size w)
 have H : ((spec_GetField.f k l0 (⟨#[67, 111, 110, 116, 101, 110, 116, 45, 84, 121, 112, 101]⟩ : ByteArray)).bind fun bt291 => ((spec_ParseKind.f k bt291.1).bind fun bt293 => ((spec_BoundaryOf.f k bt293.1 bt293.2.1 bt293.2.2.1).bind fun bt300 => (if bt291.2 = true then (if bt293.2.2.2 = true then (some (bt300.1, bt300.2)) else (some (bt300.1, false))) else (some (bt300.1, false)))))) = some (r1, r2) := h
 clear h
 replace H := bd H
 obtain ⟨⟨t291, t292⟩, A2, H⟩ := H
 (try dsimp only at H)
 replace H := bd H
 obtain ⟨⟨t293, t294, t295, t298⟩, A3, H⟩ := H
 (try dsimp only at H)
 replace H := bd H
 obtain ⟨⟨t300, t301⟩, A4, H⟩ := H
 (try dsimp only at H)
 replace H := sb H
 rcases H with ⟨rfl, H⟩ | ⟨rfl, H⟩
 ·
  replace H := sb H
  rcases H with ⟨rfl, H⟩ | ⟨rfl, H⟩
  ·
   simp only [Option.some.injEq, Prod.mk.injEq] at H
   obtain ⟨rfl, rfl⟩ := H
   go_enter Tryz.func108, Tryz.ntmps108
   go_wp2_with (first | (refine gL 154 12 Tryz.func154 #[.slice A0 l0.length c0, .string (⟨#[67, 111, 110, 116, 101, 110, 116, 45, 84, 121, 112, 101]⟩ : ByteArray)] ?_; (with_reducible refine (spec_GetField.calls k _ _ l0 (⟨#[67, 111, 110, 116, 101, 110, 116, 45, 84, 121, 112, 101]⟩ : ByteArray) t291 true _ (cu HR0.out) HC0.out A2.out).mono ?_); rintro e w7 ⟨rfl, hb⟩; refine ⟨_, rfl, ?_⟩; replace HB := bs HB hb; (try clear hb)) | (refine gL 155 17 Tryz.func155 #[.string t291] ?_; (with_reducible refine (spec_ParseKind.calls k t291 t293 t294 t295 true _ A3.out).mono ?_); rintro e w8 ⟨v296, rfl, ho0, hb⟩; refine ⟨_, rfl, ?_⟩; have HO297 := ak (Kd.R_lower ho0 (below_size (ul HB.out))); replace HB := bs HB hb; (try clear hb); (try clear ho0)) | (refine bE 6 #[.string (⟨#[]⟩ : ByteArray), .string (⟨#[]⟩ : ByteArray), .slice none 0 0] 61 ?_; intro gb299 hg w9 hbox hb; have BK299 := ak (hbox); have GW299 := ge_ HB hg; have GE299 := ge_ HB hg; replace HO297 := rb HO297 hb; replace HB := bs HB hb; clear hb hbox hg; obtain ⟨hcz10_0, hcz10_1, hcz10_2, hfz10_0, hfz10_1, hfz10_2⟩ := cz3 BK299.out; obtain ⟨Ao11, co11, eo11⟩ := Kd.R_slice HO297.out; subst eo11) | (refine gL 156 22 Tryz.func156 #[.agg #[.string t293, .string t294, .slice Ao11 t295.length co11]] ?_; (with_reducible refine (spec_BoundaryOf.calls k t293 t294 _ _ t295 t300 t301 _ ?side1 ?side2 A4.out).mono ?_); (case side1 => refine (Kd.R_reads' (e := 69) (base := w.heap.size) (ok := fun k_ => True) (n := t295.length) (c := co11) ?_).2.2; exact (ur (Kd.R_mono (Kd.R_far (p := ⟨gb299, 2, none⟩) (Kd.R_far (p := ⟨gb299, 1, none⟩) (Kd.R_far (p := ⟨gb299, 0, none⟩) (Kd.R_types HO297.out BK299.out (by decide)) (fun _ hk => hk.2) (.string t293)) (fun _ hk => hk.2) (.string t294)) (fun _ hk => hk.2) (.slice Ao11 t295.length co11)) (fun _ h_ => h_.1)))); (case side2 => exact (Kd.R_reads' HO297.out).2.1); rintro e w12 ⟨rfl, hb⟩; refine ⟨_, rfl, ?_⟩; replace HO297 := ak (Kd.R_below (ur (Kd.R_mono (Kd.R_far (p := ⟨gb299, 2, none⟩) (Kd.R_far (p := ⟨gb299, 1, none⟩) (Kd.R_far (p := ⟨gb299, 0, none⟩) (Kd.R_types HO297.out BK299.out (by decide)) (fun _ hk => hk.2) (.string t293)) (fun _ hk => hk.2) (.string t294)) (fun _ hk => hk.2) (.slice Ao11 t295.length co11)) (fun _ h_ => h_.1))) hb); replace BK299 := ak (blk_below (g := gb299) (o := .cells #[.string t293, .string t294, .slice Ao11 t295.length co11] 61 (0, 0)) (by (with_reducible repeat (first | refine blk_drewN ?_ _ | refine blk_drew ?_ | refine blk_alloc ?_ _)); refine blk_put (cs := #[.string t293, .string t294, .slice none 0 0]) ?_ 2 _ rfl; (with_reducible repeat (first | refine blk_drewN ?_ _ | refine blk_drew ?_ | refine blk_alloc ?_ _)); refine blk_put (cs := #[.string t293, .string (⟨#[]⟩ : ByteArray), .slice none 0 0]) ?_ 1 _ rfl; (with_reducible repeat (first | refine blk_drewN ?_ _ | refine blk_drew ?_ | refine blk_alloc ?_ _)); refine blk_put (cs := #[.string (⟨#[]⟩ : ByteArray), .string (⟨#[]⟩ : ByteArray), .slice none 0 0]) ?_ 0 _ rfl; (with_reducible repeat (first | refine blk_drewN ?_ _ | refine blk_drew ?_ | refine blk_alloc ?_ _)); exact BK299.out) hb); replace HB := ak (below_step bb hb); (try clear hb)))
   go_ret2
   exact ⟨er, bb⟩
  ·
   simp only [Option.some.injEq, Prod.mk.injEq] at H
   obtain ⟨rfl, rfl⟩ := H
   go_enter Tryz.func108, Tryz.ntmps108
   go_wp2_with (first | (refine gL 154 12 Tryz.func154 #[.slice A0 l0.length c0, .string (⟨#[67, 111, 110, 116, 101, 110, 116, 45, 84, 121, 112, 101]⟩ : ByteArray)] ?_; (with_reducible refine (spec_GetField.calls k _ _ l0 (⟨#[67, 111, 110, 116, 101, 110, 116, 45, 84, 121, 112, 101]⟩ : ByteArray) t291 true _ (cu HR0.out) HC0.out A2.out).mono ?_); rintro e w13 ⟨rfl, hb⟩; refine ⟨_, rfl, ?_⟩; replace HB := bs HB hb; (try clear hb)) | (refine gL 155 17 Tryz.func155 #[.string t291] ?_; (with_reducible refine (spec_ParseKind.calls k t291 t293 t294 t295 false _ A3.out).mono ?_); rintro e w14 ⟨v296, rfl, ho0, hb⟩; refine ⟨_, rfl, ?_⟩; have HO297 := ak (Kd.R_lower ho0 (below_size (ul HB.out))); replace HB := bs HB hb; (try clear hb); (try clear ho0)) | (refine bE 6 #[.string (⟨#[]⟩ : ByteArray), .string (⟨#[]⟩ : ByteArray), .slice none 0 0] 61 ?_; intro gb299 hg w15 hbox hb; have BK299 := ak (hbox); have GW299 := ge_ HB hg; have GE299 := ge_ HB hg; replace HO297 := rb HO297 hb; replace HB := bs HB hb; clear hb hbox hg; obtain ⟨hcz16_0, hcz16_1, hcz16_2, hfz16_0, hfz16_1, hfz16_2⟩ := cz3 BK299.out; obtain ⟨Ao17, co17, eo17⟩ := Kd.R_slice HO297.out; subst eo17) | (refine gL 156 22 Tryz.func156 #[.agg #[.string t293, .string t294, .slice Ao17 t295.length co17]] ?_; (with_reducible refine (spec_BoundaryOf.calls k t293 t294 _ _ t295 t300 t301 _ ?side1 ?side2 A4.out).mono ?_); (case side1 => refine (Kd.R_reads' (e := 69) (base := w.heap.size) (ok := fun k_ => True) (n := t295.length) (c := co17) ?_).2.2; exact (ur (Kd.R_mono (Kd.R_far (p := ⟨gb299, 2, none⟩) (Kd.R_far (p := ⟨gb299, 1, none⟩) (Kd.R_far (p := ⟨gb299, 0, none⟩) (Kd.R_types HO297.out BK299.out (by decide)) (fun _ hk => hk.2) (.string t293)) (fun _ hk => hk.2) (.string t294)) (fun _ hk => hk.2) (.slice Ao17 t295.length co17)) (fun _ h_ => h_.1)))); (case side2 => exact (Kd.R_reads' HO297.out).2.1); rintro e w18 ⟨rfl, hb⟩; refine ⟨_, rfl, ?_⟩; replace HO297 := ak (Kd.R_below (ur (Kd.R_mono (Kd.R_far (p := ⟨gb299, 2, none⟩) (Kd.R_far (p := ⟨gb299, 1, none⟩) (Kd.R_far (p := ⟨gb299, 0, none⟩) (Kd.R_types HO297.out BK299.out (by decide)) (fun _ hk => hk.2) (.string t293)) (fun _ hk => hk.2) (.string t294)) (fun _ hk => hk.2) (.slice Ao17 t295.length co17)) (fun _ h_ => h_.1))) hb); replace BK299 := ak (blk_below (g := gb299) (o := .cells #[.string t293, .string t294, .slice Ao17 t295.length co17] 61 (0, 0)) (by (with_reducible repeat (first | refine blk_drewN ?_ _ | refine blk_drew ?_ | refine blk_alloc ?_ _)); refine blk_put (cs := #[.string t293, .string t294, .slice none 0 0]) ?_ 2 _ rfl; (with_reducible repeat (first | refine blk_drewN ?_ _ | refine blk_drew ?_ | refine blk_alloc ?_ _)); refine blk_put (cs := #[.string t293, .string (⟨#[]⟩ : ByteArray), .slice none 0 0]) ?_ 1 _ rfl; (with_reducible repeat (first | refine blk_drewN ?_ _ | refine blk_drew ?_ | refine blk_alloc ?_ _)); refine blk_put (cs := #[.string (⟨#[]⟩ : ByteArray), .string (⟨#[]⟩ : ByteArray), .slice none 0 0]) ?_ 0 _ rfl; (with_reducible repeat (first | refine blk_drewN ?_ _ | refine blk_drew ?_ | refine blk_alloc ?_ _)); exact BK299.out) hb); replace HB := ak (below_step bb hb); (try clear hb)))
   go_ret2
   exact ⟨er, bb⟩
 ·
  simp only [Option.some.injEq, Prod.mk.injEq] at H
  obtain ⟨rfl, rfl⟩ := H
  go_enter Tryz.func108, Tryz.ntmps108
  go_wp2_with (first | (refine gL 154 12 Tryz.func154 #[.slice A0 l0.length c0, .string (⟨#[67, 111, 110, 116, 101, 110, 116, 45, 84, 121, 112, 101]⟩ : ByteArray)] ?_; (with_reducible refine (spec_GetField.calls k _ _ l0 (⟨#[67, 111, 110, 116, 101, 110, 116, 45, 84, 121, 112, 101]⟩ : ByteArray) t291 false _ (cu HR0.out) HC0.out A2.out).mono ?_); rintro e w19 ⟨rfl, hb⟩; refine ⟨_, rfl, ?_⟩; replace HB := bs HB hb; (try clear hb)) | (refine gL 155 17 Tryz.func155 #[.string t291] ?_; (with_reducible refine (spec_ParseKind.calls k t291 t293 t294 t295 t298 _ A3.out).mono ?_); rintro e w20 ⟨v296, rfl, ho0, hb⟩; refine ⟨_, rfl, ?_⟩; have HO297 := ak (Kd.R_lower ho0 (below_size (ul HB.out))); replace HB := bs HB hb; (try clear hb); (try clear ho0)) | (refine bE 6 #[.string (⟨#[]⟩ : ByteArray), .string (⟨#[]⟩ : ByteArray), .slice none 0 0] 61 ?_; intro gb299 hg w21 hbox hb; have BK299 := ak (hbox); have GW299 := ge_ HB hg; have GE299 := ge_ HB hg; replace HO297 := rb HO297 hb; replace HB := bs HB hb; clear hb hbox hg; obtain ⟨hcz22_0, hcz22_1, hcz22_2, hfz22_0, hfz22_1, hfz22_2⟩ := cz3 BK299.out; obtain ⟨Ao23, co23, eo23⟩ := Kd.R_slice HO297.out; subst eo23) | (refine gL 156 22 Tryz.func156 #[.agg #[.string t293, .string t294, .slice Ao23 t295.length co23]] ?_; (with_reducible refine (spec_BoundaryOf.calls k t293 t294 _ _ t295 t300 t301 _ ?side1 ?side2 A4.out).mono ?_); (case side1 => refine (Kd.R_reads' (e := 69) (base := w.heap.size) (ok := fun k_ => True) (n := t295.length) (c := co23) ?_).2.2; exact (ur (Kd.R_mono (Kd.R_far (p := ⟨gb299, 2, none⟩) (Kd.R_far (p := ⟨gb299, 1, none⟩) (Kd.R_far (p := ⟨gb299, 0, none⟩) (Kd.R_types HO297.out BK299.out (by decide)) (fun _ hk => hk.2) (.string t293)) (fun _ hk => hk.2) (.string t294)) (fun _ hk => hk.2) (.slice Ao23 t295.length co23)) (fun _ h_ => h_.1)))); (case side2 => exact (Kd.R_reads' HO297.out).2.1); rintro e w24 ⟨rfl, hb⟩; refine ⟨_, rfl, ?_⟩; replace HO297 := ak (Kd.R_below (ur (Kd.R_mono (Kd.R_far (p := ⟨gb299, 2, none⟩) (Kd.R_far (p := ⟨gb299, 1, none⟩) (Kd.R_far (p := ⟨gb299, 0, none⟩) (Kd.R_types HO297.out BK299.out (by decide)) (fun _ hk => hk.2) (.string t293)) (fun _ hk => hk.2) (.string t294)) (fun _ hk => hk.2) (.slice Ao23 t295.length co23)) (fun _ h_ => h_.1))) hb); replace BK299 := ak (blk_below (g := gb299) (o := .cells #[.string t293, .string t294, .slice Ao23 t295.length co23] 61 (0, 0)) (by (with_reducible repeat (first | refine blk_drewN ?_ _ | refine blk_drew ?_ | refine blk_alloc ?_ _)); refine blk_put (cs := #[.string t293, .string t294, .slice none 0 0]) ?_ 2 _ rfl; (with_reducible repeat (first | refine blk_drewN ?_ _ | refine blk_drew ?_ | refine blk_alloc ?_ _)); refine blk_put (cs := #[.string t293, .string (⟨#[]⟩ : ByteArray), .slice none 0 0]) ?_ 1 _ rfl; (with_reducible repeat (first | refine blk_drewN ?_ _ | refine blk_drew ?_ | refine blk_alloc ?_ _)); refine blk_put (cs := #[.string (⟨#[]⟩ : ByteArray), .string (⟨#[]⟩ : ByteArray), .slice none 0 0]) ?_ 0 _ rfl; (with_reducible repeat (first | refine blk_drewN ?_ _ | refine blk_drew ?_ | refine blk_alloc ?_ _)); exact BK299.out) hb); replace HB := ak (below_step bb hb); (try clear hb)))
  go_ret2
  exact ⟨er, bb⟩
end Go.Proofs.YtncdadcmghglkaaGreatDoor.PFnExactCountParts
