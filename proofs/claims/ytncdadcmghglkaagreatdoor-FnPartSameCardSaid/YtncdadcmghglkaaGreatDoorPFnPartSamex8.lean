/- Printed walks; conditions: those in each statement. -/
import Derived.Test.YtncdadcmghglkaaGreatDoorVFnPartSameQt
import Derived.Test.YtncdadcmghglkaaGreatDoorVFnPartSameYt
import Derived.Test.YtncdadcmghglkaaGreatDoorPFnPartSamex0
import Derived.Test.YtncdadcmghglkaaGreatDoorPFnPartSamex2
import Derived.Test.YtncdadcmghglkaaGreatDoorPFnPartSamex4
import Derived.Test.YtncdadcmghglkaaGreatDoorPFnPartSamex6
import Derived.Test.YtncdadcmghglkaaGreatDoorPFnPartSamex7
-- short
-- dense
-- sq
-- sq2
namespace Go.Proofs.YtncdadcmghglkaaGreatDoor.PFnPartSame
open Go.RowKit Go.Proofs.YtncdadcmghglkaaGreatDoor.X Go.Proofs.YtncdadcmghglkaaGreatDoorW.PrintWords Go.Proofs.YtncdadcmghglkaaGreatDoorW.PrintLast Go.Proofs.YtncdadcmghglkaaGreatDoorW.PrintMore
attribute [local go_sem] max2_int min2_int max_two min_two max_three min_three max_four min_four   -- for this text's walks alone
set_option linter.unusedVariables false
set_option maxHeartbeats 8000000
set_option maxRecDepth 100000
set_option linter.unusedSimpArgs false
mutual
def impl_KindValid.j0 : Nat → Bool → ByteArray → ByteArray → List (S69) → Option (Bool)
 | 0, _, _, _, _ => none
 | k + 1, x20, x233000, x233001, x233002 => if x20 = true then (some false) else (impl_KindValid.l0 k x233002 (x233002.length : Int) 0 x233000 x233001 x233002)
def impl_KindValid.l0 : Nat → List (S69) → Int → Int → ByteArray → ByteArray → List (S69) → Option (Bool)
 | 0, _, _, _, _, _, _ => none
 | k + 1, x22, x23, x24, x233000, x233001, x233002 => if x24 < x23 then (if 0 ≤ x24 then (if x24 < (x22.length : Int) then ((impl_isSmallName.f k ((rd_T69 x22 x24).f0)).bind fun t238 => (if t238 = true then ((impl_TextValid.f k ((rd_T69 x22 x24).f1)).bind fun t239 => (if t239 = true then (if (((rd_T69 x22 x24).f1).size : Int) > 40 then (some false) else (if x24 ≤ (x233002.length : Int) then ((impl_fieldPlace.f k (x233002.take (x24 : Int).toNat) ((rd_T69 x22 x24).f0)).bind fun t244 => (if t244 ≥ 0 then (some false) else (impl_KindValid.l0 k x22 x23 (wrap64 (x24 + 1)) x233000 x233001 x233002))) else (none))) else (some false))) else (some false))) else (none)) else (none)) else ((impl_kindText.f k x233000 x233001 x233002).bind fun t235 => (some (decide ((t235.size : Int) ≤ 150))))
end
def impl_KindValid.f (k : Nat) (a0_0 : ByteArray) (a0_1 : ByteArray) (l0_2 : List (S69)) : Option (Bool) := (impl_isSmallName.f k a0_0).bind fun t233 => (if t233 = true then ((impl_isSmallName.f k a0_1).bind fun t234 => (if t234 = true then (impl_KindValid.j0 k (decide ((l0_2.length : Int) > 4)) a0_0 a0_1 l0_2) else (impl_KindValid.j0 k true a0_0 a0_1 l0_2))) else (impl_KindValid.j0 k true a0_0 a0_1 l0_2))
def impl_KindValid.T6 : Bool × List (List Nat × List Nat) := (true, [([], []), ([0], [0]), ([1], [1]), ([2], [2]), ([3, 2], [3]), ([4], [4]), ([5, 4], [4, 5]), ([6, 4, 4], [4, 6]), ([7, 4], [4, 7]), ([4, 8], [4, 8]), ([9, 7], [9]), ([10], [10]), ([11, 10], [10, 11]), ([12, 10], [10, 12]), ([13, 10], [10, 13]), ([10, 14], [10, 14]), ([15, 10], [15]), ([16], [16]), ([17, 16], [16, 17]), ([16], [16]), ([18, 19, 16], [16, 18, 19]), ([16], [16]), ([21, 16], [16, 21]), ([20, 22, 16, 16], [16, 20, 22]), ([23, 16], [16, 23]), ([16, 24], [16, 24])])
def impl_KindValid.B6 : List Nat := [0, 1, 3, 7, 15, 31, 63, 127, 255, 511, 1023, 2047, 4095, 8191, 16383, 32767, 65535, 131071, 262143, 131071, 1048575, 131071, 2228223, 8388607, 16777215, 33554431]
theorem impl_KindValid.tab6 : rtab .any (opsOf Tryz.f95 6) = impl_KindValid.T6 := by kernel_rfl
theorem impl_KindValid.bits6 : waitsOk impl_KindValid.T6.2 impl_KindValid.B6 = true := by kernel_rfl
theorem impl_KindValid.calls {k c0_2 : Nat} {a0_0 a0_1 : ByteArray} {A0_2 : Option Addr} {l0_2 : List (S69)} {r : Bool} {w : World} (hr0_2 : Kd.C k69 w A0_2 l0_2.length l0_2) (hc0_2 : l0_2.length ≤ c0_2) (h : impl_KindValid.f k a0_0 a0_1 l0_2 = some r) :
  Calls Tryz.prog 95 #[.agg #[.string a0_0, .string a0_1, .slice A0_2 l0_2.length c0_2]] w fun e w' => e = .returned (.bool r) ∧ Below w.heap.size w w' := by
 have hu61 := Tryz.underlying61
 have hu69 := Tryz.underlying69
 have HR0_2 := ak hr0_2
 have HC0_2 := ak hc0_2
 clear hr0_2 hc0_2
 have HB := ak (Below.refl w.heap.size w)
 have H : ((impl_isSmallName.f k a0_0).bind fun t233 => (if t233 = true then ((impl_isSmallName.f k a0_1).bind fun t234 => (if t234 = true then (impl_KindValid.j0 k (decide ((l0_2.length : Int) > 4)) a0_0 a0_1 l0_2) else (impl_KindValid.j0 k true a0_0 a0_1 l0_2))) else (impl_KindValid.j0 k true a0_0 a0_1 l0_2))) = some r := h
 clear h
 have HC2 := ak H
 clear H
 go_enter Tryz.func95, Tryz.ntmps95
 go_upto_region 1 with (refine gG 1 ?_; refine bX HB 1 #[.string a0_0, .string a0_1, .slice A0_2 l0_2.length c0_2] 61 ?_; intro gb232 w3 BK232 GW232 hb; replace HB := bs HB hb; clear hb)
 (try simp only [Act.put, l_a, l_b, l_c])
 go_cut [20] (fun v20 wc => ∃ (kq : Nat) (x20_1 : Bool), v20 = .bool x20_1 ∧ Aside0 (impl_KindValid.j0 kq x20_1 a0_0 a0_1 l0_2 = some r) ∧ Aside0 (kq ≤ k) ∧ Aside0 (wc.heap[gb232]? = some (.cells #[.string a0_0, .string a0_1, (.slice A0_2 l0_2.length c0_2)] 61 (0, 0))) ∧ Aside0 (Below w.heap.size w wc))
 case first =>
  have H := HC2.out
  clear HC2
  replace H := bd H; obtain ⟨t233, A4, H⟩ := H; replace H := sb H
  rcases H with ⟨rfl, H⟩ | ⟨rfl, H⟩
  ·
   replace H := bd H; obtain ⟨t234, A6, H⟩ := H; replace H := sb H
   rcases H with ⟨rfl, H⟩ | ⟨rfl, H⟩
   ·
    have H' := ak H; clear H
    have z8 := cz3 BK232.out
    go_wp2_with (first | (refine gB Tryz.func136 (impl_isSmallName.calls A4.out) ?_; intro w9 hb; replace BK232 := kb BK232 hb; replace HB := bz HB hb; clear hb; have z10 := cz3 BK232.out) | (go_at_call 136; refine mB (impl_isSmallName.calls A6.out) ?_; intro w11 hb; replace BK232 := kb BK232 hb; replace HB := bz HB hb; clear hb; have z12 := cz3 BK232.out))
    go_meet
    case rel => exact ⟨_, _, rs, H', ⟨le_⟩, ⟨ub BK232.out⟩, ⟨bb⟩⟩
   ·
    have H' := ak H; clear H
    have z13 := cz3 BK232.out
    go_wp2_with (first | (refine gB Tryz.func136 (impl_isSmallName.calls A4.out) ?_; intro w14 hb; replace BK232 := kb BK232 hb; replace HB := bz HB hb; clear hb; have z15 := cz3 BK232.out) | (go_at_call 136; refine mB (impl_isSmallName.calls A6.out) ?_; intro w16 hb; replace BK232 := kb BK232 hb; replace HB := bz HB hb; clear hb))
    go_meet
    case rel => exact ⟨_, _, rs, H', ⟨le_⟩, ⟨ub BK232.out⟩, ⟨bb⟩⟩
  ·
   have H' := ak H; clear H
   have z17 := cz3 BK232.out
   go_wp2_with (refine gB Tryz.func136 (impl_isSmallName.calls A4.out) ?_; intro w18 hb; replace BK232 := kb BK232 hb; replace HB := bz HB hb; clear hb)
   go_meet
   case rel => exact ⟨_, _, rs, H', ⟨le_⟩, ⟨ub BK232.out⟩, ⟨bb⟩⟩
 case rest =>
  clear HC2
  obtain ⟨kq, x20_1, rfl, HA, HJ1, BK232, HB⟩ := hcut
  cases kq with
  | zero => exact zz HA.out
  | succ kj1 =>
   obtain ⟨H⟩ := HA
   simp only [impl_KindValid.j0] at H
   replace H := sb H
   rcases H with ⟨rfl, H⟩ | ⟨rfl, H⟩
   ·
    obtain rfl := s1 H
    go_wp2
    go_ret
    exact ⟨er, bb⟩
   ·
    have H' := ak H; clear H
    have z20 := cz3 BK232.out
    go_wp2
    go_loopg [24] kj1 (fun kq v24 w' => ∃ (x24_2 : Int), v24 = .int .i64 x24_2 ∧ Aside0 (impl_KindValid.l0 kq l0_2 (l0_2.length : Int) x24_2 a0_0 a0_1 l0_2 = some r) ∧ Aside0 (kq ≤ kj1) ∧ Aside0 (w'.heap[gb232]? = some (.cells #[.string a0_0, .string a0_1, (.slice A0_2 l0_2.length c0_2)] 61 (0, 0))) ∧ Aside0 (Below w.heap.size w w'))
    case atStart => exact ⟨_, rs, H', ⟨Nat.le_refl _⟩, ⟨ub BK232.out⟩, ⟨bb⟩⟩
    case round =>
     clear H'
     obtain ⟨x24_2, rfl, HA, HK2, BK232, HB⟩ := hrel
     cases gk with
     | zero => exact zz HA.out
     | succ k2 =>
      obtain ⟨H⟩ := HA
      simp only [impl_KindValid.l0] at H
      replace H := sd H
      rcases H with ⟨c21b0, H⟩ | ⟨c21b0, H⟩
      ·
       replace H := nde H; obtain ⟨c22b0, H⟩ := H; replace H := nde H; obtain ⟨c23b0, H⟩ := H; replace H := bd H; obtain ⟨t238, A24, H⟩ := H; replace H := sb H
       rcases H with ⟨rfl, H⟩ | ⟨rfl, H⟩
       ·
        replace H := bd H; obtain ⟨t239, A26, H⟩ := H; replace H := sb H
        rcases H with ⟨rfl, H⟩ | ⟨rfl, H⟩
        ·
         replace H := sp H
         rcases H with ⟨c28, H⟩ | ⟨c28, H⟩
         ·
          have c28b0 : decide (40 < (((rd_T69 l0_2 x24_2).f1).size : Int)) = true := decide_eq_true c28
          have c28b1 : decide (40 < ((rd_T69 l0_2 x24_2).f1).size) = true := decide_eq_true (by omega)
          clear c28
          obtain rfl := s1 H
          have p236 := zi x24_2
          have q236 := zj x24_2 l0_2.length
          obtain ⟨ad236, e236, hx236_0, hx236_1⟩ := at_T69 HR0_2.out x24_2 p236 q236
          cases e236
          replace hx236_0 := cl HB.out hx236_0
          replace hx236_1 := cl HB.out hx236_1
          replace p236 := eq_true p236
          replace q236 := eq_true q236
          try go_wp2_with (refine gG 4 ?_; refine bY HB 4 #[.string (⟨#[]⟩ : ByteArray), .string (⟨#[]⟩ : ByteArray)] 69 ?_; intro gb237 w29 BK237 GW237 hg hb; have NB232_237 := nl_ BK232 hg; have NB237_232 := ng_ BK232 hg; replace BK232 := kb BK232 hb; replace HB := bz HB hb; clear hb hg; have hnb30 := NB237_232.out; have hnc30 := NB232_237.out; have z31 := cz2 BK237.out)
          refine ab2 HB BK237 GW237 ?_
          intro w32 BK237' hk HB
          replace BK232 := kf BK232 hk NB232_237
          clear hk BK237
          have BK237 := BK237'; clear BK237'
          refine rO [2, 7] [0, 1, 2, 3, 4, 5, 6, 7, 8, 9, 10, 11, 12, 13, 14, 15, 16, 17, 18, 19, 20, 21, 22, 23, 24, 25] (fun w' => w'.cell? ⟨gb237, 0, none⟩ = some (.string ((rd_T69 l0_2 x24_2).f0)) ∧ w'.cell? ⟨gb237, 1, none⟩ = some (.string ((rd_T69 l0_2 x24_2).f1))) ?_
          intro w33 hb
          replace BK232 := kb BK232 hb
          replace BK237 := kb BK237 hb
          replace HB := bs HB hb
          refine ⟨sx, ?_⟩
          repeat (first | refine lo_ ?_ | refine lg_ ?_)
          refine rB Tryz.func136 (impl_isSmallName.calls A24.out) ?_
          intro w34 hb
          replace BK232 := kb BK232 hb
          replace BK237 := kb BK237 hb
          replace HB := bz HB hb
          clear hb
          refine ⟨sx, ?_⟩
          repeat (first | refine lo_ ?_ | refine lg_ ?_)
          refine rA Tryz.func89 (impl_TextValid.calls A26.out) ?_
          intro nd
          refine ⟨sx, ?_⟩
          repeat (first | refine lo_ ?_ | refine lg_ ?_)
          refine on ?_
          try go_wp2
          go_ret
          exact ⟨er, bb⟩
         ·
          have c28b0 : decide (40 < (((rd_T69 l0_2 x24_2).f1).size : Int)) = false := decide_eq_false c28
          have c28b1 : decide (40 < ((rd_T69 l0_2 x24_2).f1).size) = false := decide_eq_false (by omega)
          clear c28
          have c35b0 := eq_true (of_decide_eq_true (by assumption) : 0 ≤ x24_2)
          replace H := ne_ H; obtain ⟨c36b0, c36b1, H⟩ := H
          obtain ⟨y240, Ny240⟩ := nm (l0_2.take (x24_2 : Int).toNat)
          rw [← Ny240.out] at H
          replace H := bd H; obtain ⟨t244, A37, H⟩ := H; replace H := sp H
          rcases H with ⟨c38, H⟩ | ⟨c38, H⟩
          ·
           have c38b0 : decide (0 ≤ t244) = true := decide_eq_true c38
           clear c38
           obtain rfl := s1 H
           have p236 := zi x24_2
           have q236 := zj x24_2 l0_2.length
           obtain ⟨ad236, e236, hx236_0, hx236_1⟩ := at_T69 HR0_2.out x24_2 p236 q236
           cases e236
           replace hx236_0 := cl HB.out hx236_0
           replace hx236_1 := cl HB.out hx236_1
           replace p236 := eq_true p236
           replace q236 := eq_true q236
           try go_wp2_with (refine gG 4 ?_; refine bY HB 4 #[.string (⟨#[]⟩ : ByteArray), .string (⟨#[]⟩ : ByteArray)] 69 ?_; intro gb237 w39 BK237 GW237 hg hb; have NB232_237 := nl_ BK232 hg; have NB237_232 := ng_ BK232 hg; replace BK232 := kb BK232 hb; replace HB := bz HB hb; clear hb hg; have hnb40 := NB237_232.out; have hnc40 := NB232_237.out; have z41 := cz2 BK237.out)
           refine ab2 HB BK237 GW237 ?_
           intro w42 BK237' hk HB
           replace BK232 := kf BK232 hk NB232_237
           clear hk BK237
           have BK237 := BK237'; clear BK237'
           refine rO [2, 7, 23] [0, 1, 2, 3, 4, 5, 6, 7, 8, 9, 10, 11, 12, 13, 14, 15, 16, 17, 19, 21, 18, 20, 22, 23, 24, 25] (fun w' => w'.cell? ⟨gb237, 0, none⟩ = some (.string ((rd_T69 l0_2 x24_2).f0)) ∧ w'.cell? ⟨gb237, 1, none⟩ = some (.string ((rd_T69 l0_2 x24_2).f1)) ∧ w'.cell? ⟨gb232, 0, none⟩ = some (.string a0_0) ∧ w'.cell? ⟨gb232, 1, none⟩ = some (.string a0_1) ∧ w'.cell? ⟨gb232, 2, none⟩ = some (.slice (some ad236) l0_2.length c0_2)) ?_
           intro w43 hb
           replace BK232 := kb BK232 hb
           replace BK237 := kb BK237 hb
           replace HB := bs HB hb
           refine ⟨sx, ?_⟩
           repeat refine lo_ ?_
           refine rB Tryz.func136 (impl_isSmallName.calls A24.out) ?_
           intro w44 hb
           replace BK232 := kb BK232 hb
           replace BK237 := kb BK237 hb
           replace HB := bz HB hb
           clear hb
           refine ⟨sx, ?_⟩
           repeat refine lo_ ?_
           refine rA Tryz.func89 (impl_TextValid.calls A26.out) ?_
           intro nd
           have q45 : (x24_2 : Int) ≤ ((l0_2.length : Int) : Int) := of_decide_eq_true (by assumption)
           obtain ⟨i045, hi045, _, hsz45, _⟩ := info_parts info69
           have hroom45 : l0_2.length ≤ c0_2 := HC0_2.out
           have hC45 : Kd.C k69 _ (some ad236) l0_2.length l0_2 := HR0_2.out
           have hcut45 := cut_to (P := Tryz.prog) 25 69 .i64 Tryz.underlying25 hi045 (some ad236) l0_2.length c0_2 x24_2 (of_decide_eq_true (by assumption)) q45 hroom45
           have hr45 := Kd.C_take (m := (x24_2 : Int).toNat) hC45 (by omega)
           have hy45 : y240.length = (x24_2 : Int).toNat := (by rw [Ny240.out, List.length_take]; omega)
           rw [← Ny240.out] at hr45
           rw [← hy45] at hcut45
           have HR243 := ak hr45
           have HC243 := ak (show y240.length ≤ c0_2 from by omega)
           clear hr45 hC45 hroom45 hi045 hsz45
           have KY45 := ak hy45
           clear hy45
           replace q45 := eq_true q45
           refine ⟨sx, ?_⟩
           repeat refine lo_ ?_
           refine rB Tryz.func88 (impl_fieldPlace.calls (cu (Kd.C_below HR243.out bb)) HC243.out A37.out) ?_
           intro w46 hb
           replace BK232 := kb BK232 hb
           replace BK237 := kb BK237 hb
           replace HB := bz HB hb
           clear hb
           refine ⟨sx, ?_⟩
           repeat refine lo_ ?_
           refine on ?_
           try go_wp2
           go_ret
           exact ⟨er, bb⟩
          ·
           have c38b0 : decide (0 ≤ t244) = false := decide_eq_false c38
           clear c38
           have H' := ak H; clear H
           have p236 := zi x24_2
           have q236 := zj x24_2 l0_2.length
           obtain ⟨ad236, e236, hx236_0, hx236_1⟩ := at_T69 HR0_2.out x24_2 p236 q236
           cases e236
           replace hx236_0 := cl HB.out hx236_0
           replace hx236_1 := cl HB.out hx236_1
           replace p236 := eq_true p236
           replace q236 := eq_true q236
           try go_wp2_with (refine gG 4 ?_; refine bY HB 4 #[.string (⟨#[]⟩ : ByteArray), .string (⟨#[]⟩ : ByteArray)] 69 ?_; intro gb237 w47 BK237 GW237 hg hb; have NB232_237 := nl_ BK232 hg; have NB237_232 := ng_ BK232 hg; replace BK232 := kb BK232 hb; replace HB := bz HB hb; clear hb hg; have hnb48 := NB237_232.out; have hnc48 := NB232_237.out; have z49 := cz2 BK237.out)
           refine ab2 HB BK237 GW237 ?_
           intro w50 BK237' hk HB
           replace BK232 := kf BK232 hk NB232_237
           clear hk BK237
           have BK237 := BK237'; clear BK237'
           refine rO [2, 7, 23] [0, 1, 2, 3, 4, 5, 6, 7, 8, 9, 10, 11, 12, 13, 14, 15, 16, 17, 19, 21, 18, 20, 22, 23, 24, 25] (fun w' => w'.cell? ⟨gb237, 0, none⟩ = some (.string ((rd_T69 l0_2 x24_2).f0)) ∧ w'.cell? ⟨gb237, 1, none⟩ = some (.string ((rd_T69 l0_2 x24_2).f1)) ∧ w'.cell? ⟨gb232, 0, none⟩ = some (.string a0_0) ∧ w'.cell? ⟨gb232, 1, none⟩ = some (.string a0_1) ∧ w'.cell? ⟨gb232, 2, none⟩ = some (.slice (some ad236) l0_2.length c0_2)) ?_
           intro w51 hb
           replace BK232 := kb BK232 hb
           replace BK237 := kb BK237 hb
           replace HB := bs HB hb
           refine ⟨sx, ?_⟩
           repeat refine lo_ ?_
           refine rB Tryz.func136 (impl_isSmallName.calls A24.out) ?_
           intro w52 hb
           replace BK232 := kb BK232 hb
           replace BK237 := kb BK237 hb
           replace HB := bz HB hb
           clear hb
           refine ⟨sx, ?_⟩
           repeat refine lo_ ?_
           refine rA Tryz.func89 (impl_TextValid.calls A26.out) ?_
           intro nd
           have q53 : (x24_2 : Int) ≤ ((l0_2.length : Int) : Int) := of_decide_eq_true (by assumption)
           obtain ⟨i053, hi053, _, hsz53, _⟩ := info_parts info69
           have hroom53 : l0_2.length ≤ c0_2 := HC0_2.out
           have hC53 : Kd.C k69 _ (some ad236) l0_2.length l0_2 := HR0_2.out
           have hcut53 := cut_to (P := Tryz.prog) 25 69 .i64 Tryz.underlying25 hi053 (some ad236) l0_2.length c0_2 x24_2 (of_decide_eq_true (by assumption)) q53 hroom53
           have hr53 := Kd.C_take (m := (x24_2 : Int).toNat) hC53 (by omega)
           have hy53 : y240.length = (x24_2 : Int).toNat := (by rw [Ny240.out, List.length_take]; omega)
           rw [← Ny240.out] at hr53
           rw [← hy53] at hcut53
           have HR243 := ak hr53
           have HC243 := ak (show y240.length ≤ c0_2 from by omega)
           clear hr53 hC53 hroom53 hi053 hsz53
           have KY53 := ak hy53
           clear hy53
           replace q53 := eq_true q53
           refine ⟨sx, ?_⟩
           repeat refine lo_ ?_
           refine rB Tryz.func88 (impl_fieldPlace.calls (cu (Kd.C_below HR243.out bb)) HC243.out A37.out) ?_
           intro w54 hb
           replace BK232 := kb BK232 hb
           replace BK237 := kb BK237 hb
           replace HB := bz HB hb
           clear hb
           refine ⟨sx, ?_⟩
           repeat refine lo_ ?_
           refine on ?_
           try go_wp2
           go_roundg k2
           case measure => exact kl
           case rel => exact ⟨_, rs, H', ⟨kl⟩, ⟨ub BK232.out⟩, ⟨bb⟩⟩
        ·
         obtain rfl := s1 H
         have p236 := zi x24_2
         have q236 := zj x24_2 l0_2.length
         obtain ⟨ad236, e236, hx236_0, hx236_1⟩ := at_T69 HR0_2.out x24_2 p236 q236
         cases e236
         replace hx236_0 := cl HB.out hx236_0
         replace hx236_1 := cl HB.out hx236_1
         replace p236 := eq_true p236
         replace q236 := eq_true q236
         try go_wp2_with (refine gG 4 ?_; refine bY HB 4 #[.string (⟨#[]⟩ : ByteArray), .string (⟨#[]⟩ : ByteArray)] 69 ?_; intro gb237 w55 BK237 GW237 hg hb; have NB232_237 := nl_ BK232 hg; have NB237_232 := ng_ BK232 hg; replace BK232 := kb BK232 hb; replace HB := bz HB hb; clear hb hg; have hnb56 := NB237_232.out; have hnc56 := NB232_237.out; have z57 := cz2 BK237.out)
         refine ab2 HB BK237 GW237 ?_
         intro w58 BK237' hk HB
         replace BK232 := kf BK232 hk NB232_237
         clear hk BK237
         have BK237 := BK237'; clear BK237'
         refine rO [2, 7] [0, 1, 2, 3, 4, 5, 6, 7, 8, 9, 10, 11, 12, 13, 14, 15, 16, 17, 18, 19, 20, 21, 22, 23, 24, 25] (fun w' => w'.cell? ⟨gb237, 0, none⟩ = some (.string ((rd_T69 l0_2 x24_2).f0)) ∧ w'.cell? ⟨gb237, 1, none⟩ = some (.string ((rd_T69 l0_2 x24_2).f1))) ?_
         intro w59 hb
         replace BK232 := kb BK232 hb
         replace BK237 := kb BK237 hb
         replace HB := bs HB hb
         refine ⟨sx, ?_⟩
         repeat (first | refine lo_ ?_ | refine lg_ ?_)
         refine rB Tryz.func136 (impl_isSmallName.calls A24.out) ?_
         intro w60 hb
         replace BK232 := kb BK232 hb
         replace BK237 := kb BK237 hb
         replace HB := bz HB hb
         clear hb
         refine ⟨sx, ?_⟩
         repeat (first | refine lo_ ?_ | refine lg_ ?_)
         refine rA Tryz.func89 (impl_TextValid.calls A26.out) ?_
         intro nd
         refine ⟨sx, ?_⟩
         repeat (first | refine lo_ ?_ | refine lg_ ?_)
         refine on ?_
         try go_wp2
         go_ret
         exact ⟨er, bb⟩
       ·
        obtain rfl := s1 H
        have p236 := zi x24_2
        have q236 := zj x24_2 l0_2.length
        obtain ⟨ad236, e236, hx236_0, hx236_1⟩ := at_T69 HR0_2.out x24_2 p236 q236
        cases e236
        replace hx236_0 := cl HB.out hx236_0
        replace hx236_1 := cl HB.out hx236_1
        replace p236 := eq_true p236
        replace q236 := eq_true q236
        try go_wp2_with (refine gG 4 ?_; refine bY HB 4 #[.string (⟨#[]⟩ : ByteArray), .string (⟨#[]⟩ : ByteArray)] 69 ?_; intro gb237 w61 BK237 GW237 hg hb; have NB232_237 := nl_ BK232 hg; have NB237_232 := ng_ BK232 hg; replace BK232 := kb BK232 hb; replace HB := bz HB hb; clear hb hg; have hnb62 := NB237_232.out; have hnc62 := NB232_237.out; have z63 := cz2 BK237.out)
        refine ab2 HB BK237 GW237 ?_
        intro w64 BK237' hk HB
        replace BK232 := kf BK232 hk NB232_237
        clear hk BK237
        have BK237 := BK237'; clear BK237'
        refine rO [2] [0, 1, 2, 3, 4, 5, 6, 7, 8, 9, 10, 11, 12, 13, 14, 15, 16, 17, 18, 19, 20, 21, 22, 23, 24, 25] (fun w' => w'.cell? ⟨gb237, 0, none⟩ = some (.string ((rd_T69 l0_2 x24_2).f0)) ∧ w'.cell? ⟨gb237, 1, none⟩ = some (.string ((rd_T69 l0_2 x24_2).f1))) ?_
        intro w65 hb
        replace BK232 := kb BK232 hb
        replace BK237 := kb BK237 hb
        replace HB := bs HB hb
        refine ⟨sx, ?_⟩
        repeat (first | refine lo_ ?_ | refine lg_ ?_)
        refine rB Tryz.func136 (impl_isSmallName.calls A24.out) ?_
        intro w66 hb
        replace BK232 := kb BK232 hb
        replace BK237 := kb BK237 hb
        replace HB := bz HB hb
        clear hb
        refine ⟨sx, ?_⟩
        repeat (first | refine lo_ ?_ | refine lg_ ?_)
        refine on ?_
        try go_wp2
        go_ret
        exact ⟨er, bb⟩
      ·
       replace H := bd H; obtain ⟨t235, A67, H⟩ := H
       obtain rfl := s1 H
       have z68 := cz3 BK232.out
       go_wp2_with (refine gB Tryz.func137 (impl_kindText.calls (cu (Kd.C_below HR0_2.out HB.out)) HC0_2.out A67.out) ?_; intro w69 hb; replace BK232 := kb BK232 hb; replace HB := bz HB hb; clear hb)
       go_ret
       exact ⟨er, bb⟩
end Go.Proofs.YtncdadcmghglkaaGreatDoor.PFnPartSame
