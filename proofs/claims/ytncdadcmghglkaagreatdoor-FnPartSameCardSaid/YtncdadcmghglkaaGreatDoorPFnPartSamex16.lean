/- Printed walks; conditions: those in each statement. -/
import Derived.Test.YtncdadcmghglkaaGreatDoorVFnPartSameQt
import Derived.Test.YtncdadcmghglkaaGreatDoorVFnPartSameYt
import Derived.Test.YtncdadcmghglkaaGreatDoorPFnPartSamex0
import Derived.Test.YtncdadcmghglkaaGreatDoorPFnPartSamex13
import Derived.Test.YtncdadcmghglkaaGreatDoorPFnPartSamex15
-- short
-- dense
-- sq
-- sq2
namespace Go.Proofs.YtncdadcmghglkaaGreatDoor.PFnPartSame
open Go.RowKit Go.Proofs.YtncdadcmghglkaaGreatDoor.X Go.Proofs.YtncdadcmghglkaaGreatDoorW.PrintWords Go.Proofs.YtncdadcmghglkaaGreatDoorW.PrintLast Go.Proofs.YtncdadcmghglkaaGreatDoorW.PrintMore
attribute [local go_sem] max2_int min2_int max_two min_two max_three min_three max_four min_four   -- for this text's walks alone
set_option linter.unusedVariables false
set_option maxHeartbeats 8000000
set_option maxRecDepth 100000
set_option linter.unusedSimpArgs false
def spec_l5Plain.l0 : Nat → ByteArray → List ByteArray → Int → Option (List ByteArray × Bool)
 | 0, _, _, _ => none
 | k + 1, x0, x4, x5 => if x5 < (x4.length : Int) then (if 0 ≤ x5 then (if ((rdOf ByteArray.empty x4 x5).size : Int) > 40 then (some ((([] : List ByteArray)), false)) else ((spec_TextValid.f k (rdOf ByteArray.empty x4 x5)).bind fun t423 => (if t423 = true then (spec_l5Plain.l0 k x0 x4 (wrap64 (x5 + 1))) else (some ((([] : List ByteArray)), false))))) else (none)) else (some (x4, decide ((x0.size : Int) ≤ 300)))
def spec_l5Plain.f (k : Nat) (a0 : ByteArray) : Option (List ByteArray × Bool) := (spec_l2Parts.f k a0 10).bind fun t415 => (spec_l5Plain.l0 k a0 t415 0)
theorem spec_l5Plain.calls {k : Nat} {a0 : ByteArray} {r1 : List ByteArray} {r2 : Bool} {w : World} (h : spec_l5Plain.f k a0 = some (r1, r2)) :
  Calls Tryz.prog 210 #[.string a0] w fun e w' => ∃ v0_ : Value, e = .returned (.tuple #[v0_, .bool r2]) ∧ Kd.R Kd.string 9 w' w.heap.size (fun _ => True) v0_ r1 ∧ Below w.heap.size w w' := by
 have HB := ak (Below.refl w.heap.size w)
 have H : ((spec_l2Parts.f k a0 10).bind fun t415 => (spec_l5Plain.l0 k a0 t415 0)) = some (r1, r2) := h
 clear h
 replace H := bd H; obtain ⟨t415, A2, H⟩ := H
 have H' := ak H; clear H
 go_enter Tryz.func210, Tryz.ntmps210
 go_wp2_with (refine gV Tryz.func217 (spec_l2Parts.calls A2.out) ?_; rintro v416 w3 ⟨ho0, hb⟩; have HO417 := ak (Kd.R_lower ho0 (below_size (ul HB.out))); replace HB := bs HB hb; clear hb; (try clear ho0))
 go_loopg [5] k (fun kq v5 w' => ∃ (x5_1 : Int), v5 = .int .i64 x5_1 ∧ Aside0 (spec_l5Plain.l0 kq a0 t415 x5_1 = some (r1, r2)) ∧ Aside0 (kq ≤ k) ∧ Aside0 (Kd.R Kd.string 9 w' w.heap.size (fun _ => True) v416 t415) ∧ Aside0 (Below w.heap.size w w'))
 case atStart => exact ⟨_, rs, H', ⟨Nat.le_refl _⟩, ⟨ur HO417.out⟩, ⟨ul HB.out⟩⟩
 case round =>
  clear H'
  obtain ⟨x5_1, rfl, HA, HK1, HO_4, HB⟩ := hrel
  cases gk with
  | zero => exact zz HA.out
  | succ k1 =>
   obtain ⟨H⟩ := HA
   simp only [spec_l5Plain.l0] at H
   replace H := sd H
   rcases H with ⟨c4b0, H⟩ | ⟨c4b0, H⟩
   ·
    replace H := nde H; obtain ⟨c5b0, H⟩ := H; replace H := sp H
    rcases H with ⟨c6, H⟩ | ⟨c6, H⟩
    ·
     have c6b0 : decide (40 < ((rdOf ByteArray.empty t415 x5_1).size : Int)) = true := decide_eq_true c6
     have c6b1 : decide (40 < (rdOf ByteArray.empty t415 x5_1).size) = true := decide_eq_true (by omega)
     clear c6
     obtain ⟨y419, Ny419⟩ := nm ([] : List ByteArray)
     rw [← Ny419.out] at H
     obtain ⟨rfl, rfl⟩ := s2 H
     obtain ⟨Ao7, co7, eo7⟩ := Kd.R_slice HO_4.out
     subst eo7
     have p418 := zi x5_1
     have q418 := zj x5_1 t415.length
     obtain ⟨ad418, e418, hx418_0⟩ := Kd.at_string (Kd.R_reads' HO_4.out).2.2 x5_1 p418 q418
     cases e418
     replace p418 := eq_true p418
     replace q418 := eq_true q418
     go_wp2_with (refine lRN 28 Kd.string 9 Ny419 ?_; intro v420 w8 ho9 hb; have HO421 := ak (Kd.R_lower (Kd.R_new' ho9 (Kd.R_lt (ur HO_4.out))) (below_size (ul HB.out))); replace HO_4 := ak (Kd.R_elder' (ur HO_4.out) (Kd.R_base ho9) hb); replace HB := bs HB hb; clear hb ho9)
     go_ret2
     exact ⟨_, er, ur (Kd.R_mono HO421.out (fun _ hk => trivial)), ul HB.out⟩
    ·
     have c6b0 : decide (40 < ((rdOf ByteArray.empty t415 x5_1).size : Int)) = false := decide_eq_false c6
     have c6b1 : decide (40 < (rdOf ByteArray.empty t415 x5_1).size) = false := decide_eq_false (by omega)
     clear c6
     replace H := bd H; obtain ⟨t423, A10, H⟩ := H; replace H := sb H
     rcases H with ⟨rfl, H⟩ | ⟨rfl, H⟩
     ·
      have H' := ak H; clear H
      obtain ⟨Ao12, co12, eo12⟩ := Kd.R_slice HO_4.out
      subst eo12
      have p418 := zi x5_1
      have q418 := zj x5_1 t415.length
      obtain ⟨ad418, e418, hx418_0⟩ := Kd.at_string (Kd.R_reads' HO_4.out).2.2 x5_1 p418 q418
      cases e418
      replace p418 := eq_true p418
      replace q418 := eq_true q418
      have p422 := zi x5_1
      have q422 := zj x5_1 t415.length
      obtain ⟨ad422, e422, hx422_0⟩ := Kd.at_string (Kd.R_reads' HO_4.out).2.2 x5_1 p422 q422
      obtain rfl : ad418 = ad422 := (by injection e422)
      replace p422 := eq_true p422
      replace q422 := eq_true q422
      go_wp2_with (go_at_call 159; refine mA (spec_TextValid.calls A10.out) ?_; intro nd)
      go_roundg k1
      case measure => exact kl
      case rel => exact ⟨_, rs, H', ⟨kl⟩, ⟨ur HO_4.out⟩, ⟨ul HB.out⟩⟩
     ·
      obtain ⟨y424, Ny424⟩ := nm ([] : List ByteArray)
      rw [← Ny424.out] at H
      obtain ⟨rfl, rfl⟩ := s2 H
      obtain ⟨Ao13, co13, eo13⟩ := Kd.R_slice HO_4.out
      subst eo13
      have p418 := zi x5_1
      have q418 := zj x5_1 t415.length
      obtain ⟨ad418, e418, hx418_0⟩ := Kd.at_string (Kd.R_reads' HO_4.out).2.2 x5_1 p418 q418
      cases e418
      replace p418 := eq_true p418
      replace q418 := eq_true q418
      have p422 := zi x5_1
      have q422 := zj x5_1 t415.length
      obtain ⟨ad422, e422, hx422_0⟩ := Kd.at_string (Kd.R_reads' HO_4.out).2.2 x5_1 p422 q422
      obtain rfl : ad418 = ad422 := (by injection e422)
      replace p422 := eq_true p422
      replace q422 := eq_true q422
      go_wp2_with (first | (go_at_call 159; refine mA (spec_TextValid.calls A10.out) ?_; intro nd) | (refine lRN 28 Kd.string 9 Ny424 ?_; intro v425 w14 ho15 hb; have HO426 := ak (Kd.R_lower (Kd.R_new' ho15 (Kd.R_lt (ur HO_4.out))) (below_size (ul HB.out))); replace HO_4 := ak (Kd.R_elder' (ur HO_4.out) (Kd.R_base ho15) hb); replace HB := bs HB hb; clear hb ho15))
      go_ret2
      exact ⟨_, er, ur (Kd.R_mono HO426.out (fun _ hk => trivial)), ul HB.out⟩
   ·
    obtain ⟨rfl, rfl⟩ := s2 H
    obtain ⟨Ao16, co16, eo16⟩ := Kd.R_slice HO_4.out
    subst eo16
    go_wp2
    go_ret2
    exact ⟨_, er, ur HO_4.out, ul HB.out⟩
def spec_l5Byte.f (a0 : Int) (a1 : Bool) : Option (ByteArray) := if a0 ≥ 33 then (if a0 ≤ 126 then (if a0 = 61 then (if a0 = 32 then (if a1 = true then ((spec_l5Hex.f a0).bind fun t427 => (some t427)) else (some (strOfNums (([a0] : List Int))))) else ((spec_l5Hex.f a0).bind fun t431 => (some t431))) else (some (strOfNums (([a0] : List Int))))) else (if a0 = 32 then (if a1 = true then ((spec_l5Hex.f a0).bind fun t435 => (some t435)) else (some (strOfNums (([a0] : List Int))))) else ((spec_l5Hex.f a0).bind fun t439 => (some t439)))) else (if a0 = 32 then (if a1 = true then ((spec_l5Hex.f a0).bind fun t440 => (some t440)) else (some (strOfNums (([a0] : List Int))))) else ((spec_l5Hex.f a0).bind fun t444 => (some t444)))
theorem spec_l5Byte.calls {a0 : Int} {a1 : Bool} {r : ByteArray} {w : World} (h : spec_l5Byte.f a0 a1 = some r) :
  Calls Tryz.prog 218 #[.int .u8 a0, .bool a1] w fun e w' => e = .returned (.string r) ∧ Below w.heap.size w w' := by
 have HB := ak (Below.refl w.heap.size w)
 have H : (if a0 ≥ 33 then (if a0 ≤ 126 then (if a0 = 61 then (if a0 = 32 then (if a1 = true then ((spec_l5Hex.f a0).bind fun t427 => (some t427)) else (some (strOfNums (([a0] : List Int))))) else ((spec_l5Hex.f a0).bind fun t431 => (some t431))) else (some (strOfNums (([a0] : List Int))))) else (if a0 = 32 then (if a1 = true then ((spec_l5Hex.f a0).bind fun t435 => (some t435)) else (some (strOfNums (([a0] : List Int))))) else ((spec_l5Hex.f a0).bind fun t439 => (some t439)))) else (if a0 = 32 then (if a1 = true then ((spec_l5Hex.f a0).bind fun t440 => (some t440)) else (some (strOfNums (([a0] : List Int))))) else ((spec_l5Hex.f a0).bind fun t444 => (some t444)))) = some r := h
 clear h
 replace H := sp H
 rcases H with ⟨c3, H⟩ | ⟨c3, H⟩
 ·
  have c3b0 : decide (33 ≤ a0) = true := decide_eq_true c3
  clear c3
  replace H := sd H
  rcases H with ⟨c4b0, H⟩ | ⟨c4b0, H⟩
  ·
   replace H := sq H
   rcases H with ⟨c5b0, c5b1, H⟩ | ⟨c5, c5b0, c5b1, H⟩
   ·
    replace H := sq H
    rcases H with ⟨c6b0, c6b1, H⟩ | ⟨c6, c6b0, c6b1, H⟩
    ·
     replace H := sb H
     rcases H with ⟨rfl, H⟩ | ⟨rfl, H⟩
     ·
      replace H := bd H; obtain ⟨t427, A8, H⟩ := H
      obtain rfl := s1 H
      go_enter Tryz.func218, Tryz.ntmps218
      go_wp2_with (refine gA Tryz.func221 (spec_l5Hex.calls A8.out) ?_; intro nd)
      go_ret
      exact ⟨er, ul HB.out⟩
     ·
      obtain ⟨y428, Ny428⟩ := nm ([a0] : List Int)
      rw [← Ny428.out] at H
      obtain rfl := s1 H
      go_enter Tryz.func218, Tryz.ntmps218
      go_wp2_with (refine lRM 24 (Kd.int .u8) 5 [.int .u8 a0] Ny428 (Reps.one (show Kd.M (Kd.int .u8) _ _ _ a0 [.int .u8 a0] from rfl) (Reps.none _ _)) ?_; intro v429 w9 ho10 hb; have HO430 := ak (Kd.R_lower ho10 (below_size (ul HB.out))); replace HB := bs HB hb; clear hb ho10; have hcv11 := own_string (P := Tryz.prog) Tryz.underlying22 Tryz.underlying5 Tryz.underlying9 (Kd.own_of_R HO430.out))
      go_ret
      exact ⟨er, ul HB.out⟩
    ·
     replace H := bd H; obtain ⟨t431, A12, H⟩ := H
     obtain rfl := s1 H
     go_enter Tryz.func218, Tryz.ntmps218
     go_wp2_with (refine gA Tryz.func221 (spec_l5Hex.calls A12.out) ?_; intro nd)
     go_ret
     exact ⟨er, ul HB.out⟩
   ·
    obtain ⟨y432, Ny432⟩ := nm ([a0] : List Int)
    rw [← Ny432.out] at H
    obtain rfl := s1 H
    go_enter Tryz.func218, Tryz.ntmps218
    go_wp2_with (refine lRM 24 (Kd.int .u8) 5 [.int .u8 a0] Ny432 (Reps.one (show Kd.M (Kd.int .u8) _ _ _ a0 [.int .u8 a0] from rfl) (Reps.none _ _)) ?_; intro v433 w13 ho14 hb; have HO434 := ak (Kd.R_lower ho14 (below_size (ul HB.out))); replace HB := bs HB hb; clear hb ho14; have hcv15 := own_string (P := Tryz.prog) Tryz.underlying22 Tryz.underlying5 Tryz.underlying9 (Kd.own_of_R HO434.out))
    go_ret
    exact ⟨er, ul HB.out⟩
  ·
   replace H := sq H
   rcases H with ⟨c16b0, c16b1, H⟩ | ⟨c16, c16b0, c16b1, H⟩
   ·
    replace H := sb H
    rcases H with ⟨rfl, H⟩ | ⟨rfl, H⟩
    ·
     replace H := bd H; obtain ⟨t435, A18, H⟩ := H
     obtain rfl := s1 H
     go_enter Tryz.func218, Tryz.ntmps218
     go_wp2_with (refine gA Tryz.func221 (spec_l5Hex.calls A18.out) ?_; intro nd)
     go_ret
     exact ⟨er, ul HB.out⟩
    ·
     obtain ⟨y436, Ny436⟩ := nm ([a0] : List Int)
     rw [← Ny436.out] at H
     obtain rfl := s1 H
     go_enter Tryz.func218, Tryz.ntmps218
     go_wp2_with (refine lRM 24 (Kd.int .u8) 5 [.int .u8 a0] Ny436 (Reps.one (show Kd.M (Kd.int .u8) _ _ _ a0 [.int .u8 a0] from rfl) (Reps.none _ _)) ?_; intro v437 w19 ho20 hb; have HO438 := ak (Kd.R_lower ho20 (below_size (ul HB.out))); replace HB := bs HB hb; clear hb ho20; have hcv21 := own_string (P := Tryz.prog) Tryz.underlying22 Tryz.underlying5 Tryz.underlying9 (Kd.own_of_R HO438.out))
     go_ret
     exact ⟨er, ul HB.out⟩
   ·
    replace H := bd H; obtain ⟨t439, A22, H⟩ := H
    obtain rfl := s1 H
    go_enter Tryz.func218, Tryz.ntmps218
    go_wp2_with (refine gA Tryz.func221 (spec_l5Hex.calls A22.out) ?_; intro nd)
    go_ret
    exact ⟨er, ul HB.out⟩
 ·
  have c3b0 : decide (33 ≤ a0) = false := decide_eq_false c3
  clear c3
  replace H := sq H
  rcases H with ⟨c23b0, c23b1, H⟩ | ⟨c23, c23b0, c23b1, H⟩
  ·
   replace H := sb H
   rcases H with ⟨rfl, H⟩ | ⟨rfl, H⟩
   ·
    replace H := bd H; obtain ⟨t440, A25, H⟩ := H
    obtain rfl := s1 H
    go_enter Tryz.func218, Tryz.ntmps218
    go_wp2_with (refine gA Tryz.func221 (spec_l5Hex.calls A25.out) ?_; intro nd)
    go_ret
    exact ⟨er, ul HB.out⟩
   ·
    obtain ⟨y441, Ny441⟩ := nm ([a0] : List Int)
    rw [← Ny441.out] at H
    obtain rfl := s1 H
    go_enter Tryz.func218, Tryz.ntmps218
    go_wp2_with (refine lRM 24 (Kd.int .u8) 5 [.int .u8 a0] Ny441 (Reps.one (show Kd.M (Kd.int .u8) _ _ _ a0 [.int .u8 a0] from rfl) (Reps.none _ _)) ?_; intro v442 w26 ho27 hb; have HO443 := ak (Kd.R_lower ho27 (below_size (ul HB.out))); replace HB := bs HB hb; clear hb ho27; have hcv28 := own_string (P := Tryz.prog) Tryz.underlying22 Tryz.underlying5 Tryz.underlying9 (Kd.own_of_R HO443.out))
    go_ret
    exact ⟨er, ul HB.out⟩
  ·
   replace H := bd H; obtain ⟨t444, A29, H⟩ := H
   obtain rfl := s1 H
   go_enter Tryz.func218, Tryz.ntmps218
   go_wp2_with (refine gA Tryz.func221 (spec_l5Hex.calls A29.out) ?_; intro nd)
   go_ret
   exact ⟨er, ul HB.out⟩
end Go.Proofs.YtncdadcmghglkaaGreatDoor.PFnPartSame
