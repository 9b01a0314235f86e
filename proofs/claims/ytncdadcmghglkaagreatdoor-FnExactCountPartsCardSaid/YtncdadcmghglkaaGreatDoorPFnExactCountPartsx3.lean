/- Printed walks; conditions: those in each statement. -/
import Derived.Test.YtncdadcmghglkaaGreatDoorVFnExactCountPartsQt
import Derived.Test.YtncdadcmghglkaaGreatDoorVFnExactCountPartsYt
import Derived.Test.YtncdadcmghglkaaGreatDoorPFnExactCountPartsx0
import Derived.Test.YtncdadcmghglkaaGreatDoorPFnExactCountPartsx2
-- short
-- dense
-- sq
namespace Go.Proofs.YtncdadcmghglkaaGreatDoor.PFnExactCountParts
open Go.RowKit Go.Proofs.YtncdadcmghglkaaGreatDoor.X Go.Proofs.YtncdadcmghglkaaGreatDoorW.PrintWords Go.Proofs.YtncdadcmghglkaaGreatDoorW.PrintLast Go.Proofs.YtncdadcmghglkaaGreatDoorW.PrintMore
attribute [local go_sem] max2_int min2_int max_two min_two max_three min_three max_four min_four   -- for this text's walks alone
set_option linter.unusedVariables false
set_option linter.unusedSimpArgs false
mutual
def spec_l3Name.l0 : Nat → ByteArray → Int → Option (Bool)
 | 0, _, _ => none
 | k + 1, x0, x3 => if x3 < (x0.size : Int) then (spec_l3Name.j1 k x0 x3 (decide (x3 ≤ 30))) else (spec_l3Name.j1 k x0 x3 false)
def spec_l3Name.j1 : Nat → ByteArray → Int → Bool → Option (Bool)
 | 0, _, _, _ => none
 | k + 1, x0, x3, x11 => if x11 = true then (if 0 ≤ x3 then (if x3 < (x0.size : Int) then ((spec_l1Letter.f (bt x0 x3)).bind fun t150 => (if t150 = true then (if x3 = 0 then (if (bt x0 x3) ≤ 57 then (some false) else (spec_l3Name.l0 k x0 (wrap64 (x3 + 1)))) else (spec_l3Name.l0 k x0 (wrap64 (x3 + 1)))) else (if (bt x0 x3) = 45 then (if x3 = 0 then (if (bt x0 x3) ≤ 57 then (some false) else (spec_l3Name.l0 k x0 (wrap64 (x3 + 1)))) else (spec_l3Name.l0 k x0 (wrap64 (x3 + 1)))) else (some false)))) else (none)) else (none)) else (if (x0.size : Int) ≥ 1 then (some (decide ((x0.size : Int) ≤ 30))) else (some false))
end
def spec_l3Name.f (k : Nat) (a0 : ByteArray) : Option (Bool) := spec_l3Name.l0 k a0 0
set_option maxHeartbeats 8000000 in
set_option maxRecDepth 100000 in
theorem spec_l3Name.calls (k : Nat) (a0 : ByteArray) (r : Bool) (w : World) (h : spec_l3Name.f k a0 = some r) :
  Calls Tryz.prog 184 #[.string a0] w fun e w' => e = .returned (.bool r) ∧ Drawn0 w w' := by
 have H : (spec_l3Name.l0 k a0 0) = some r := h
 clear h
 have H' := ak H; clear H
 go_enter Tryz.func184, Tryz.ntmps184
 go_wp2
 go_loopg [3] k (fun kq v3 w' => ∃ (x3_1 : Int), v3 = .int .i64 x3_1 ∧ Aside0 (spec_l3Name.l0 kq a0 x3_1 = some r) ∧ Aside0 (kq ≤ k) ∧ Drawn0 w w')
 case atStart => exact ⟨(0), rs, H', ⟨Nat.le_refl _⟩, dn⟩
 case round =>
  clear H'
  try clear c1
  obtain ⟨x3_1, rfl, HA, HK1, ⟨m1, rfl⟩⟩ := hrel
  cases gk with
  | zero => exact absurd HA.out (by simp [spec_l3Name.l0])
  | succ k1 =>
   have H := HA.out
   clear HA
   simp only [spec_l3Name.l0] at H
   have HC2 := ak H
   clear H
   go_upto_region 2 with (fail)
   go_cut [11] (fun v11 wc => ∃ (kq : Nat) (x11_1 : Bool), v11 = .bool x11_1 ∧ Aside0 (spec_l3Name.j1 kq a0 x3_1 x11_1 = some r) ∧ Aside0 (kq ≤ k1) ∧ Drawn0 w wc)
   case first =>
    have H := HC2.out
    clear HC2
    replace H := sd H
    rcases H with ⟨c3b0, H⟩ | ⟨c3b0, H⟩
    ·
     (first | rw [c3b0] | (simp only [i64_w, i32_w]; rw [c3b0]) | skip)
     have H' := ak H; clear H
     go_wp2
     go_meet
     case rel => exact ⟨_, (decide (x3_1 ≤ 30)), rs, H', ⟨by have := HK1.out; first | omega | exact Nat.le_refl _⟩, dn⟩
    ·
     (first | rw [c3b0] | (simp only [i64_w, i32_w]; rw [c3b0]) | skip)
     have H' := ak H; clear H
     go_wp2
     go_meet
     case rel => exact ⟨_, (false), rs, H', ⟨by have := HK1.out; first | omega | exact Nat.le_refl _⟩, dn⟩
   case rest =>
    clear HC2
    try clear c1
    try clear p2
    try clear c3
    try clear c3b0
    obtain ⟨kq, x11_1, rfl, HA, HJ1, ⟨mc1, rfl⟩⟩ := hcut
    cases kq with
    | zero => exact absurd HA.out (by simp [spec_l3Name.j1])
    | succ kj1 =>
     have H := HA.out
     clear HA
     simp only [spec_l3Name.j1] at H
     replace H := sb H
     rcases H with ⟨rfl, H⟩ | ⟨rfl, H⟩
     ·
      replace H := nde H; obtain ⟨c5b0, H⟩ := H; replace H := nde H; obtain ⟨c6b0, H⟩ := H; replace H := bd H; obtain ⟨t150, A8, H⟩ := H; replace H := sb H
      rcases H with ⟨rfl, H⟩ | ⟨rfl, H⟩
      ·
       replace H := sq H
       rcases H with ⟨c10b0, c10b1, H⟩ | ⟨c10, c10b0, c10b1, H⟩
       ·
        replace H := sd H
        rcases H with ⟨c12b0, H⟩ | ⟨c12b0, H⟩
        ·
         obtain rfl := Option.some.inj H
         obtain ⟨p7, q7, hx7⟩ := bx a0 x3_1
         go_wp2_with (first | (refine gL 183 17 Tryz.func183 #[.int .u8 (bt a0 x3_1)] ?_; (with_reducible refine (spec_l1Letter.calls (bt a0 x3_1) true _ A8.out).mono ?_); rintro e w' ⟨rfl, ⟨nd, rfl⟩⟩; refine ⟨_, rfl, ?_⟩; have p11 : 0 ≤ (x3_1 : Int) := of_decide_eq_true (by assumption); have q11 : x3_1 < (a0.size : Int) := of_decide_eq_true (by assumption); have hx11 := bt_at a0 x3_1; replace p11 := eq_true p11; replace q11 := eq_true q11))
         go_ret
         exact ⟨rs, dn⟩
        ·
         have H' := ak H; clear H
         obtain ⟨p7, q7, hx7⟩ := bx a0 x3_1
         go_wp2_with (first | (refine gL 183 17 Tryz.func183 #[.int .u8 (bt a0 x3_1)] ?_; (with_reducible refine (spec_l1Letter.calls (bt a0 x3_1) true _ A8.out).mono ?_); rintro e w' ⟨rfl, ⟨nd, rfl⟩⟩; refine ⟨_, rfl, ?_⟩; have p11 : 0 ≤ (x3_1 : Int) := of_decide_eq_true (by assumption); have q11 : x3_1 < (a0.size : Int) := of_decide_eq_true (by assumption); have hx11 := bt_at a0 x3_1; replace p11 := eq_true p11; replace q11 := eq_true q11))
         go_roundg kj1
         case measure => have := HK1.out; have := HJ1.out; omega
         case rel => exact ⟨(wrap64 (x3_1 + 1)), rs, H', ⟨by have := HK1.out; have := HJ1.out; omega⟩, dn⟩
       ·
        have H' := ak H; clear H
        obtain ⟨p7, q7, hx7⟩ := bx a0 x3_1
        go_wp2_with (first | (refine gL 183 17 Tryz.func183 #[.int .u8 (bt a0 x3_1)] ?_; (with_reducible refine (spec_l1Letter.calls (bt a0 x3_1) true _ A8.out).mono ?_); rintro e w' ⟨rfl, ⟨nd, rfl⟩⟩; refine ⟨_, rfl, ?_⟩))
        go_roundg kj1
        case measure => have := HK1.out; have := HJ1.out; omega
        case rel => exact ⟨(wrap64 (x3_1 + 1)), rs, H', ⟨by have := HK1.out; have := HJ1.out; omega⟩, dn⟩
      ·
       replace H := sq H
       rcases H with ⟨c14b0, c14b1, H⟩ | ⟨c14, c14b0, c14b1, H⟩
       ·
        replace H := sq H
        rcases H with ⟨c15b0, c15b1, H⟩ | ⟨c15, c15b0, c15b1, H⟩
        ·
         replace H := sd H
         rcases H with ⟨c17b0, H⟩ | ⟨c17b0, H⟩
         ·
          obtain rfl := Option.some.inj H
          obtain ⟨p7, q7, hx7⟩ := bx a0 x3_1
          go_wp2_with (first | (refine gL 183 17 Tryz.func183 #[.int .u8 (bt a0 x3_1)] ?_; (with_reducible refine (spec_l1Letter.calls (bt a0 x3_1) false _ A8.out).mono ?_); rintro e w' ⟨rfl, ⟨nd, rfl⟩⟩; refine ⟨_, rfl, ?_⟩; have p13 : 0 ≤ (x3_1 : Int) := of_decide_eq_true (by assumption); have q13 : x3_1 < (a0.size : Int) := of_decide_eq_true (by assumption); have hx13 := bt_at a0 x3_1; replace p13 := eq_true p13; replace q13 := eq_true q13; have p16 : 0 ≤ (x3_1 : Int) := of_decide_eq_true (by assumption); have q16 : x3_1 < (a0.size : Int) := of_decide_eq_true (by assumption); have hx16 := bt_at a0 x3_1; replace p16 := eq_true p16; replace q16 := eq_true q16))
          go_ret
          exact ⟨rs, dn⟩
         ·
          have H' := ak H; clear H
          obtain ⟨p7, q7, hx7⟩ := bx a0 x3_1
          go_wp2_with (first | (refine gL 183 17 Tryz.func183 #[.int .u8 (bt a0 x3_1)] ?_; (with_reducible refine (spec_l1Letter.calls (bt a0 x3_1) false _ A8.out).mono ?_); rintro e w' ⟨rfl, ⟨nd, rfl⟩⟩; refine ⟨_, rfl, ?_⟩; have p13 : 0 ≤ (x3_1 : Int) := of_decide_eq_true (by assumption); have q13 : x3_1 < (a0.size : Int) := of_decide_eq_true (by assumption); have hx13 := bt_at a0 x3_1; replace p13 := eq_true p13; replace q13 := eq_true q13; have p16 : 0 ≤ (x3_1 : Int) := of_decide_eq_true (by assumption); have q16 : x3_1 < (a0.size : Int) := of_decide_eq_true (by assumption); have hx16 := bt_at a0 x3_1; replace p16 := eq_true p16; replace q16 := eq_true q16))
          go_roundg kj1
          case measure => have := HK1.out; have := HJ1.out; omega
          case rel => exact ⟨(wrap64 (x3_1 + 1)), rs, H', ⟨by have := HK1.out; have := HJ1.out; omega⟩, dn⟩
        ·
         have H' := ak H; clear H
         obtain ⟨p7, q7, hx7⟩ := bx a0 x3_1
         go_wp2_with (first | (refine gL 183 17 Tryz.func183 #[.int .u8 (bt a0 x3_1)] ?_; (with_reducible refine (spec_l1Letter.calls (bt a0 x3_1) false _ A8.out).mono ?_); rintro e w' ⟨rfl, ⟨nd, rfl⟩⟩; refine ⟨_, rfl, ?_⟩; have p13 : 0 ≤ (x3_1 : Int) := of_decide_eq_true (by assumption); have q13 : x3_1 < (a0.size : Int) := of_decide_eq_true (by assumption); have hx13 := bt_at a0 x3_1; replace p13 := eq_true p13; replace q13 := eq_true q13))
         go_roundg kj1
         case measure => have := HK1.out; have := HJ1.out; omega
         case rel => exact ⟨(wrap64 (x3_1 + 1)), rs, H', ⟨by have := HK1.out; have := HJ1.out; omega⟩, dn⟩
       ·
        obtain rfl := Option.some.inj H
        obtain ⟨p7, q7, hx7⟩ := bx a0 x3_1
        go_wp2_with (first | (refine gL 183 17 Tryz.func183 #[.int .u8 (bt a0 x3_1)] ?_; (with_reducible refine (spec_l1Letter.calls (bt a0 x3_1) false _ A8.out).mono ?_); rintro e w' ⟨rfl, ⟨nd, rfl⟩⟩; refine ⟨_, rfl, ?_⟩; have p13 : 0 ≤ (x3_1 : Int) := of_decide_eq_true (by assumption); have q13 : x3_1 < (a0.size : Int) := of_decide_eq_true (by assumption); have hx13 := bt_at a0 x3_1; replace p13 := eq_true p13; replace q13 := eq_true q13))
        go_ret
        exact ⟨rs, dn⟩
     ·
      replace H := sp H
      rcases H with ⟨c18, H⟩ | ⟨c18, H⟩
      ·
       have c18b0 : decide (1 ≤ (a0.size : Int)) = true := decide_eq_true c18
       have c18b1 : decide (1 ≤ a0.size) = true := decide_eq_true (by omega)
       clear c18
       obtain rfl := Option.some.inj H
       go_wp2
       go_ret
       exact ⟨rs, dn⟩
      ·
       have c18b0 : decide (1 ≤ (a0.size : Int)) = false := decide_eq_false c18
       have c18b1 : decide (1 ≤ a0.size) = false := decide_eq_false (by omega)
       clear c18
       obtain rfl := Option.some.inj H
       go_wp2
       go_ret
       exact ⟨rs, dn⟩
def spec_FieldValid.f (k : Nat) (a0_0 : ByteArray) (a0_1 : ByteArray) : Option (Bool) := (spec_l3Name.f k a0_0).bind fun t152 => (if t152 = true then ((spec_TextValid.f k a0_1).bind fun t153 => (if t153 = true then (if (a0_1.size : Int) ≤ 150 then ((spec_l2Trim.f k a0_1).bind fun t154 => (some (t154.toList == a0_1.toList))) else (some false)) else (some false))) else (some false))
set_option maxHeartbeats 8000000 in
set_option maxRecDepth 100000 in
theorem spec_FieldValid.calls (k : Nat) (a0_0 : ByteArray) (a0_1 : ByteArray) (r : Bool) (w : World) (h : spec_FieldValid.f k a0_0 a0_1 = some r) :
  Calls Tryz.prog 158 #[.agg #[.string a0_0, .string a0_1]] w fun e w' => e = .returned (.bool r) ∧ Below w.heap.size w w' := by
 have hu69 := Tryz.underlying69
 have HB := ak (Below.refl w.heap.size w)
 have H : ((spec_l3Name.f k a0_0).bind fun t152 => (if t152 = true then ((spec_TextValid.f k a0_1).bind fun t153 => (if t153 = true then (if (a0_1.size : Int) ≤ 150 then ((spec_l2Trim.f k a0_1).bind fun t154 => (some (t154.toList == a0_1.toList))) else (some false)) else (some false))) else (some false))) = some r := h
 clear h
 replace H := bd H; obtain ⟨t152, A2, H⟩ := H; replace H := sb H
 rcases H with ⟨rfl, H⟩ | ⟨rfl, H⟩
 ·
  replace H := bd H; obtain ⟨t153, A4, H⟩ := H; replace H := sb H
  rcases H with ⟨rfl, H⟩ | ⟨rfl, H⟩
  ·
   replace H := sp H
   rcases H with ⟨c6, H⟩ | ⟨c6, H⟩
   ·
    have c6b0 := decide_eq_true c6
    have c6b1 : decide (a0_1.size ≤ 150) = true := decide_eq_true (by omega)
    clear c6
    replace H := bd H; obtain ⟨t154, A7, H⟩ := H
    obtain rfl := Option.some.inj H
    go_enter Tryz.func158, Tryz.ntmps158
    go_wp2_with (first | (refine gate_dst (N := 1) rfl ?_; (try (refine gate_guard (by rfl) ?_; dsimp only)); refine bE 1 #[.string a0_0, .string a0_1] 69 ?_; intro gb151 hg w8 hbox hb; have BK151 := ak (hbox); have GW151 := ge_ HB hg; have GE151 := ge_ HB hg; replace HB := bs HB hb; clear hb hbox hg; obtain ⟨hcz9_0, hcz9_1, hfz9_0, hfz9_1⟩ := cz2 BK151.out) | (go_at_call 184; (with_reducible refine (spec_l3Name.calls k a0_0 true _ A2.out).mono ?_); rintro e w' ⟨rfl, ⟨nd, rfl⟩⟩; (try exact dq)) | (go_at_call 159; (with_reducible refine (spec_TextValid.calls k a0_1 true _ A4.out).mono ?_); rintro e w' ⟨rfl, ⟨nd, rfl⟩⟩; (try exact dq)) | (go_at_call 179; (with_reducible refine (spec_l2Trim.calls k a0_1 t154 _ A7.out).mono ?_); rintro e w' ⟨rfl, ⟨nd, rfl⟩⟩; (try exact dq)))
    repeat (go_quiet (first | (refine gate_dst (N := 1) rfl ?_; (try (refine gate_guard (by rfl) ?_; dsimp only)); refine bE 1 #[.string a0_0, .string a0_1] 69 ?_; intro gb151 hg w8 hbox hb; have BK151 := ak (hbox); have GW151 := ge_ HB hg; have GE151 := ge_ HB hg; replace HB := bs HB hb; clear hb hbox hg; obtain ⟨hcz9_0, hcz9_1, hfz9_0, hfz9_1⟩ := cz2 BK151.out) | (go_at_call 184; (with_reducible refine (spec_l3Name.calls k a0_0 true _ A2.out).mono ?_); rintro e w' ⟨rfl, ⟨nd, rfl⟩⟩; (try exact dq)) | (go_at_call 159; (with_reducible refine (spec_TextValid.calls k a0_1 true _ A4.out).mono ?_); rintro e w' ⟨rfl, ⟨nd, rfl⟩⟩; (try exact dq)) | (go_at_call 179; (with_reducible refine (spec_l2Trim.calls k a0_1 t154 _ A7.out).mono ?_); rintro e w' ⟨rfl, ⟨nd, rfl⟩⟩; (try exact dq))); try go_wp2_with (first | (refine gate_dst (N := 1) rfl ?_; (try (refine gate_guard (by rfl) ?_; dsimp only)); refine bE 1 #[.string a0_0, .string a0_1] 69 ?_; intro gb151 hg w8 hbox hb; have BK151 := ak (hbox); have GW151 := ge_ HB hg; have GE151 := ge_ HB hg; replace HB := bs HB hb; clear hb hbox hg; obtain ⟨hcz9_0, hcz9_1, hfz9_0, hfz9_1⟩ := cz2 BK151.out) | (go_at_call 184; (with_reducible refine (spec_l3Name.calls k a0_0 true _ A2.out).mono ?_); rintro e w' ⟨rfl, ⟨nd, rfl⟩⟩; (try exact dq)) | (go_at_call 159; (with_reducible refine (spec_TextValid.calls k a0_1 true _ A4.out).mono ?_); rintro e w' ⟨rfl, ⟨nd, rfl⟩⟩; (try exact dq)) | (go_at_call 179; (with_reducible refine (spec_l2Trim.calls k a0_1 t154 _ A7.out).mono ?_); rintro e w' ⟨rfl, ⟨nd, rfl⟩⟩; (try exact dq))))
    go_ret
    exact ⟨er, bb⟩
   ·
    have c6b0 := decide_eq_false c6
    have c6b1 : decide (a0_1.size ≤ 150) = false := decide_eq_false (by omega)
    clear c6
    obtain rfl := Option.some.inj H
    go_enter Tryz.func158, Tryz.ntmps158
    go_wp2_with (first | (refine gate_dst (N := 1) rfl ?_; (try (refine gate_guard (by rfl) ?_; dsimp only)); refine bE 1 #[.string a0_0, .string a0_1] 69 ?_; intro gb151 hg w10 hbox hb; have BK151 := ak (hbox); have GW151 := ge_ HB hg; have GE151 := ge_ HB hg; replace HB := bs HB hb; clear hb hbox hg; obtain ⟨hcz11_0, hcz11_1, hfz11_0, hfz11_1⟩ := cz2 BK151.out) | (go_at_call 184; (with_reducible refine (spec_l3Name.calls k a0_0 true _ A2.out).mono ?_); rintro e w' ⟨rfl, ⟨nd, rfl⟩⟩; (try exact dq)) | (go_at_call 159; (with_reducible refine (spec_TextValid.calls k a0_1 true _ A4.out).mono ?_); rintro e w' ⟨rfl, ⟨nd, rfl⟩⟩; (try exact dq)))
    repeat (go_quiet (first | (refine gate_dst (N := 1) rfl ?_; (try (refine gate_guard (by rfl) ?_; dsimp only)); refine bE 1 #[.string a0_0, .string a0_1] 69 ?_; intro gb151 hg w10 hbox hb; have BK151 := ak (hbox); have GW151 := ge_ HB hg; have GE151 := ge_ HB hg; replace HB := bs HB hb; clear hb hbox hg; obtain ⟨hcz11_0, hcz11_1, hfz11_0, hfz11_1⟩ := cz2 BK151.out) | (go_at_call 184; (with_reducible refine (spec_l3Name.calls k a0_0 true _ A2.out).mono ?_); rintro e w' ⟨rfl, ⟨nd, rfl⟩⟩; (try exact dq)) | (go_at_call 159; (with_reducible refine (spec_TextValid.calls k a0_1 true _ A4.out).mono ?_); rintro e w' ⟨rfl, ⟨nd, rfl⟩⟩; (try exact dq))); try go_wp2_with (first | (refine gate_dst (N := 1) rfl ?_; (try (refine gate_guard (by rfl) ?_; dsimp only)); refine bE 1 #[.string a0_0, .string a0_1] 69 ?_; intro gb151 hg w10 hbox hb; have BK151 := ak (hbox); have GW151 := ge_ HB hg; have GE151 := ge_ HB hg; replace HB := bs HB hb; clear hb hbox hg; obtain ⟨hcz11_0, hcz11_1, hfz11_0, hfz11_1⟩ := cz2 BK151.out) | (go_at_call 184; (with_reducible refine (spec_l3Name.calls k a0_0 true _ A2.out).mono ?_); rintro e w' ⟨rfl, ⟨nd, rfl⟩⟩; (try exact dq)) | (go_at_call 159; (with_reducible refine (spec_TextValid.calls k a0_1 true _ A4.out).mono ?_); rintro e w' ⟨rfl, ⟨nd, rfl⟩⟩; (try exact dq))))
    go_ret
    exact ⟨er, bb⟩
  ·
   obtain rfl := Option.some.inj H
   go_enter Tryz.func158, Tryz.ntmps158
   go_wp2_with (first | (refine gate_dst (N := 1) rfl ?_; (try (refine gate_guard (by rfl) ?_; dsimp only)); refine bE 1 #[.string a0_0, .string a0_1] 69 ?_; intro gb151 hg w12 hbox hb; have BK151 := ak (hbox); have GW151 := ge_ HB hg; have GE151 := ge_ HB hg; replace HB := bs HB hb; clear hb hbox hg; obtain ⟨hcz13_0, hcz13_1, hfz13_0, hfz13_1⟩ := cz2 BK151.out) | (go_at_call 184; (with_reducible refine (spec_l3Name.calls k a0_0 true _ A2.out).mono ?_); rintro e w' ⟨rfl, ⟨nd, rfl⟩⟩; (try exact dq)) | (go_at_call 159; (with_reducible refine (spec_TextValid.calls k a0_1 false _ A4.out).mono ?_); rintro e w' ⟨rfl, ⟨nd, rfl⟩⟩; (try exact dq)))
   repeat (go_quiet (first | (refine gate_dst (N := 1) rfl ?_; (try (refine gate_guard (by rfl) ?_; dsimp only)); refine bE 1 #[.string a0_0, .string a0_1] 69 ?_; intro gb151 hg w12 hbox hb; have BK151 := ak (hbox); have GW151 := ge_ HB hg; have GE151 := ge_ HB hg; replace HB := bs HB hb; clear hb hbox hg; obtain ⟨hcz13_0, hcz13_1, hfz13_0, hfz13_1⟩ := cz2 BK151.out) | (go_at_call 184; (with_reducible refine (spec_l3Name.calls k a0_0 true _ A2.out).mono ?_); rintro e w' ⟨rfl, ⟨nd, rfl⟩⟩; (try exact dq)) | (go_at_call 159; (with_reducible refine (spec_TextValid.calls k a0_1 false _ A4.out).mono ?_); rintro e w' ⟨rfl, ⟨nd, rfl⟩⟩; (try exact dq))); try go_wp2_with (first | (refine gate_dst (N := 1) rfl ?_; (try (refine gate_guard (by rfl) ?_; dsimp only)); refine bE 1 #[.string a0_0, .string a0_1] 69 ?_; intro gb151 hg w12 hbox hb; have BK151 := ak (hbox); have GW151 := ge_ HB hg; have GE151 := ge_ HB hg; replace HB := bs HB hb; clear hb hbox hg; obtain ⟨hcz13_0, hcz13_1, hfz13_0, hfz13_1⟩ := cz2 BK151.out) | (go_at_call 184; (with_reducible refine (spec_l3Name.calls k a0_0 true _ A2.out).mono ?_); rintro e w' ⟨rfl, ⟨nd, rfl⟩⟩; (try exact dq)) | (go_at_call 159; (with_reducible refine (spec_TextValid.calls k a0_1 false _ A4.out).mono ?_); rintro e w' ⟨rfl, ⟨nd, rfl⟩⟩; (try exact dq))))
   go_ret
   exact ⟨er, bb⟩
 ·
  obtain rfl := Option.some.inj H
  go_enter Tryz.func158, Tryz.ntmps158
  go_wp2_with (first | (refine gate_dst (N := 1) rfl ?_; (try (refine gate_guard (by rfl) ?_; dsimp only)); refine bE 1 #[.string a0_0, .string a0_1] 69 ?_; intro gb151 hg w14 hbox hb; have BK151 := ak (hbox); have GW151 := ge_ HB hg; have GE151 := ge_ HB hg; replace HB := bs HB hb; clear hb hbox hg; obtain ⟨hcz15_0, hcz15_1, hfz15_0, hfz15_1⟩ := cz2 BK151.out) | (go_at_call 184; (with_reducible refine (spec_l3Name.calls k a0_0 false _ A2.out).mono ?_); rintro e w' ⟨rfl, ⟨nd, rfl⟩⟩; (try exact dq)))
  repeat (go_quiet (first | (refine gate_dst (N := 1) rfl ?_; (try (refine gate_guard (by rfl) ?_; dsimp only)); refine bE 1 #[.string a0_0, .string a0_1] 69 ?_; intro gb151 hg w14 hbox hb; have BK151 := ak (hbox); have GW151 := ge_ HB hg; have GE151 := ge_ HB hg; replace HB := bs HB hb; clear hb hbox hg; obtain ⟨hcz15_0, hcz15_1, hfz15_0, hfz15_1⟩ := cz2 BK151.out) | (go_at_call 184; (with_reducible refine (spec_l3Name.calls k a0_0 false _ A2.out).mono ?_); rintro e w' ⟨rfl, ⟨nd, rfl⟩⟩; (try exact dq))); try go_wp2_with (first | (refine gate_dst (N := 1) rfl ?_; (try (refine gate_guard (by rfl) ?_; dsimp only)); refine bE 1 #[.string a0_0, .string a0_1] 69 ?_; intro gb151 hg w14 hbox hb; have BK151 := ak (hbox); have GW151 := ge_ HB hg; have GE151 := ge_ HB hg; replace HB := bs HB hb; clear hb hbox hg; obtain ⟨hcz15_0, hcz15_1, hfz15_0, hfz15_1⟩ := cz2 BK151.out) | (go_at_call 184; (with_reducible refine (spec_l3Name.calls k a0_0 false _ A2.out).mono ?_); rintro e w' ⟨rfl, ⟨nd, rfl⟩⟩; (try exact dq))))
  go_ret
  exact ⟨er, bb⟩
mutual
def spec_l3Valid.l0 : Nat → List (S69) → Int → Option (Bool)
 | 0, _, _ => none
 | k + 1, x0, x3 => if x3 < (x0.length : Int) then (spec_l3Valid.j1 k x0 x3 (decide (x3 ≤ 20))) else (spec_l3Valid.j1 k x0 x3 false)
def spec_l3Valid.j1 : Nat → List (S69) → Int → Bool → Option (Bool)
 | 0, _, _, _ => none
 | k + 1, x0, x3, x11 => if x11 = true then (if 0 ≤ x3 then (if x3 < (x0.length : Int) then ((spec_FieldValid.f k ((rd_T69 x0 x3).f0) ((rd_T69 x0 x3).f1)).bind fun t156 => (if t156 = true then (spec_l3Valid.l0 k x0 (wrap64 (x3 + 1))) else (some false))) else (none)) else (none)) else (some (decide ((x0.length : Int) ≤ 20)))
end
def spec_l3Valid.f (k : Nat) (l0 : List (S69)) : Option (Bool) := spec_l3Valid.l0 k l0 0
set_option maxHeartbeats 8000000 in
set_option maxRecDepth 100000 in
theorem spec_l3Valid.calls (k : Nat) (A0 : Option Addr) (c0 : Nat) (l0 : List (S69)) (r : Bool) (w : World) (hr0 : Kd.C k69 w A0 l0.length l0) (hc0 : l0.length ≤ c0) (h : spec_l3Valid.f k l0 = some r) :
  Calls Tryz.prog 113 #[.slice A0 l0.length c0] w fun e w' => e = .returned (.bool r) ∧ Below w.heap.size w w' := by
 have hu69 := Tryz.underlying69
 have HR0 := ak hr0
 have HC0 := ak hc0
 clear hr0 hc0
 have HB := ak (Below.refl w.heap.size w)
 have H : (spec_l3Valid.l0 k l0 0) = some r := h
 clear h
 have H' := ak H; clear H
 go_enter Tryz.func113, Tryz.ntmps113
 go_wp2
 go_loopg [3] k (fun kq v3 w' => ∃ (x3_1 : Int), v3 = .int .i64 x3_1 ∧ Aside0 (spec_l3Valid.l0 kq l0 x3_1 = some r) ∧ Aside0 (kq ≤ k) ∧ Aside0 (Below w.heap.size w w'))
 case atStart => exact ⟨(0), rs, H', ⟨Nat.le_refl _⟩, ⟨ul HB.out⟩⟩
 case round =>
  clear H'
  try clear c1
  obtain ⟨x3_1, rfl, HA, HK1, HB⟩ := hrel
  cases gk with
  | zero => exact absurd HA.out (by simp [spec_l3Valid.l0])
  | succ k1 =>
   have H := HA.out
   clear HA
   simp only [spec_l3Valid.l0] at H
   have HC2 := ak H
   clear H
   go_upto_region 2 with (fail)
   go_cut [11] (fun v11 wc => ∃ (kq : Nat) (x11_1 : Bool), v11 = .bool x11_1 ∧ Aside0 (spec_l3Valid.j1 kq l0 x3_1 x11_1 = some r) ∧ Aside0 (kq ≤ k1) ∧ Aside0 (Below w.heap.size w wc))
   case first =>
    have H := HC2.out
    clear HC2
    replace H := sd H
    rcases H with ⟨c3b0, H⟩ | ⟨c3b0, H⟩
    ·
     (first | rw [c3b0] | (simp only [i64_w, i32_w]; rw [c3b0]) | skip)
     have H' := ak H; clear H
     go_wp2
     go_meet
     case rel => exact ⟨_, (decide (x3_1 ≤ 20)), rs, H', ⟨by have := HK1.out; first | omega | exact Nat.le_refl _⟩, ⟨ul HB.out⟩⟩
    ·
     (first | rw [c3b0] | (simp only [i64_w, i32_w]; rw [c3b0]) | skip)
     have H' := ak H; clear H
     go_wp2
     go_meet
     case rel => exact ⟨_, (false), rs, H', ⟨by have := HK1.out; first | omega | exact Nat.le_refl _⟩, ⟨ul HB.out⟩⟩
   case rest =>
    clear HC2
    try clear c1
    try clear p2
    try clear c3
    try clear c3b0
    obtain ⟨kq, x11_1, rfl, HA, HJ1, HB⟩ := hcut
    cases kq with
    | zero => exact absurd HA.out (by simp [spec_l3Valid.j1])
    | succ kj1 =>
     have H := HA.out
     clear HA
     simp only [spec_l3Valid.j1] at H
     replace H := sb H
     rcases H with ⟨rfl, H⟩ | ⟨rfl, H⟩
     ·
      replace H := nde H; obtain ⟨c5b0, H⟩ := H; replace H := nde H; obtain ⟨c6b0, H⟩ := H; replace H := bd H; obtain ⟨t156, A7, H⟩ := H; replace H := sb H
      rcases H with ⟨rfl, H⟩ | ⟨rfl, H⟩
      ·
       have H' := ak H; clear H
       have p155 := zi x3_1
       have q155 := zj x3_1 l0.length
       obtain ⟨ad155, e155, hx155_0, hx155_1⟩ := at_T69 HR0.out x3_1 p155 q155
       cases e155
       replace hx155_0 := cl HB.out hx155_0
       replace hx155_1 := cl HB.out hx155_1
       replace p155 := eq_true p155
       replace q155 := eq_true q155
       go_wp2_with (first | (refine gL 158 18 Tryz.func158 #[.agg #[.string ((rd_T69 l0 x3_1).f0), .string ((rd_T69 l0 x3_1).f1)]] ?_; (with_reducible refine (spec_FieldValid.calls kj1 ((rd_T69 l0 x3_1).f0) ((rd_T69 l0 x3_1).f1) true _ A7.out).mono ?_); rintro e w9 ⟨rfl, hb⟩; refine ⟨_, rfl, ?_⟩; replace HB := bs HB hb; (try clear hb)))
       go_roundg kj1
       case measure => have := HK1.out; have := HJ1.out; omega
       case rel => exact ⟨(wrap64 (x3_1 + 1)), rs, H', ⟨by have := HK1.out; have := HJ1.out; omega⟩, ⟨ul HB.out⟩⟩
      ·
       obtain rfl := Option.some.inj H
       have p155 := zi x3_1
       have q155 := zj x3_1 l0.length
       obtain ⟨ad155, e155, hx155_0, hx155_1⟩ := at_T69 HR0.out x3_1 p155 q155
       cases e155
       replace hx155_0 := cl HB.out hx155_0
       replace hx155_1 := cl HB.out hx155_1
       replace p155 := eq_true p155
       replace q155 := eq_true q155
       go_wp2_with (first | (refine gL 158 18 Tryz.func158 #[.agg #[.string ((rd_T69 l0 x3_1).f0), .string ((rd_T69 l0 x3_1).f1)]] ?_; (with_reducible refine (spec_FieldValid.calls kj1 ((rd_T69 l0 x3_1).f0) ((rd_T69 l0 x3_1).f1) false _ A7.out).mono ?_); rintro e w10 ⟨rfl, hb⟩; refine ⟨_, rfl, ?_⟩; replace HB := bs HB hb; (try clear hb)))
       go_ret
       exact ⟨er, ul HB.out⟩
     ·
      obtain rfl := Option.some.inj H
      go_wp2
      go_ret
      exact ⟨er, ul HB.out⟩
mutual
def spec_l3Break.l0 : Nat → ByteArray → Int → Int → Option (Int)
 | 0, _, _, _ => none
 | k + 1, x0, x5, x6 => if (wrap64 (x6 + 1)) < (x0.size : Int) then (if 0 ≤ x6 then (if x6 < (x0.size : Int) then (if (bt x0 x6) = 32 then (if 0 ≤ (wrap64 (x6 - 1)) then (if (wrap64 (x6 - 1)) < (x0.size : Int) then (if (bt x0 (wrap64 (x6 - 1))) = 32 then (spec_l3Break.j1 k x0 x5 x6 true) else (if 0 ≤ (wrap64 (x6 + 1)) then (spec_l3Break.j1 k x0 x5 x6 ((bt x0 (wrap64 (x6 + 1))) == 32)) else (none))) else (none)) else (none)) else (spec_l3Break.j1 k x0 x5 x6 true)) else (none)) else (none)) else (some x5)
def spec_l3Break.j1 : Nat → ByteArray → Int → Int → Bool → Option (Int)
 | 0, _, _, _, _ => none
 | k + 1, x0, x5, x6, x33 => if x33 = true then (spec_l3Break.l0 k x0 x5 (wrap64 (x6 + 1))) else (if x6 ≤ 40 then (spec_l3Break.l0 k x0 x6 (wrap64 (x6 + 1))) else (if x5 < 0 then (spec_l3Break.l0 k x0 x6 (wrap64 (x6 + 1))) else (spec_l3Break.l0 k x0 x5 (wrap64 (x6 + 1)))))
end
def spec_l3Break.f (k : Nat) (a0 : ByteArray) (a1 : Int) : Option (Int) := spec_l3Break.l0 k a0 (-1) (wrap64 (a1 + 1))
set_option maxHeartbeats 8000000 in
set_option maxRecDepth 100000 in
theorem spec_l3Break.calls (k : Nat) (a0 : ByteArray) (a1 : Int) (r : Int) (w : World) (h : spec_l3Break.f k a0 a1 = some r) :
  Calls Tryz.prog 176 #[.string a0, .int .i64 a1] w fun e w' => e = .returned (.int .i64 r) ∧ Drawn0 w w' := by
 have H : (spec_l3Break.l0 k a0 (-1) (wrap64 (a1 + 1))) = some r := h
 clear h
 have H' := ak H; clear H
 go_enter Tryz.func176, Tryz.ntmps176
 go_wp2
 go_loopg [5, 6] k (fun kq v5 v6 w' => ∃ (x5_1 : Int) (x6_1 : Int), v5 = .int .i64 x5_1 ∧ v6 = .int .i64 x6_1 ∧ Aside0 (spec_l3Break.l0 kq a0 x5_1 x6_1 = some r) ∧ Aside0 (kq ≤ k) ∧ Drawn0 w w')
 case atStart => exact ⟨((-1)), (wrap64 (a1 + 1)), rs, rs, H', ⟨Nat.le_refl _⟩, dn⟩
 case round =>
  clear H'
  try clear c1
  try clear p2
  obtain ⟨x5_1, x6_1, rfl, rfl, HA, HK1, ⟨m1, rfl⟩⟩ := hrel
  cases gk with
  | zero => exact absurd HA.out (by simp [spec_l3Break.l0])
  | succ k1 =>
   have H := HA.out
   clear HA
   simp only [spec_l3Break.l0] at H
   replace H := sp H
   rcases H with ⟨c3, H⟩ | ⟨c3, H⟩
   ·
    have c3b0 := decide_eq_true c3
    (try (have c3b1 : decide ((x6_1 + 1) < (a0.size : Int)) = true := decide_eq_true (by have h_ := c3; unfold wrap64 at h_; omega)))
    clear c3
    have HC4 := ak H
    clear H
    go_upto_region 5 with (fail)
    go_cut [33] (fun v33 wc => ∃ (kq : Nat) (x33_3 : Bool), v33 = .bool x33_3 ∧ Aside0 (spec_l3Break.j1 kq a0 x5_1 x6_1 x33_3 = some r) ∧ Aside0 (kq ≤ k1) ∧ Drawn0 w wc)
    case first =>
     have H := HC4.out
     clear HC4
     replace H := nde H; obtain ⟨c5b0, H⟩ := H
     (first | rw [c5b0] | (simp only [i64_w, i32_w]; rw [c5b0]) | skip)
     replace H := nde H; obtain ⟨c6b0, H⟩ := H; replace H := sq H
     rcases H with ⟨c8b0, c8b1, H⟩ | ⟨c8, c8b0, c8b1, H⟩
     ·
      obtain ⟨ji9, hji9⟩ : ∃ j_ : Int, (wrap64 (x6_1 - 1)) = j_ := ⟨_, rfl⟩
      replace H : (if 0 ≤ (ji9) then (if (ji9) < (a0.size : Int) then (if (bt a0 (ji9)) = 32 then (spec_l3Break.j1 k1 a0 x5_1 x6_1 true) else (if 0 ≤ (wrap64 (x6_1 + 1)) then (spec_l3Break.j1 k1 a0 x5_1 x6_1 ((bt a0 (wrap64 (x6_1 + 1))) == 32)) else (none))) else (none)) else (none)) = some r := by first | (rw [hji9] at H; exact H) | (simp only [hji9] at H ⊢; exact H)
      have hji9w : (IntKind.i64.wrap (x6_1 - 1)) = ji9 := (i64_w _).trans hji9
      replace H := nde H; obtain ⟨c10b0, H⟩ := H; replace H := nde H; obtain ⟨c11b0, H⟩ := H; replace H := sq H
      rcases H with ⟨c13b0, c13b1, H⟩ | ⟨c13, c13b0, c13b1, H⟩
      ·
       have H' := ak H; clear H
       obtain ⟨p7, q7, hx7⟩ := bx a0 x6_1
       obtain ⟨p12, q12, hx12⟩ := bx a0 (ji9)
       go_wp2
       go_meet
       case rel => exact ⟨_, (true), rs, H', ⟨by have := HK1.out; first | omega | exact Nat.le_refl _⟩, dn⟩
      ·
       obtain ⟨ji14, hji14⟩ : ∃ j_ : Int, (wrap64 (x6_1 + 1)) = j_ := ⟨_, rfl⟩
       replace H : (if 0 ≤ (ji14) then (spec_l3Break.j1 k1 a0 x5_1 x6_1 ((bt a0 (ji14)) == 32)) else (none)) = some r := by first | (rw [hji14] at H; exact H) | (simp only [hji14] at H ⊢; exact H)
       (try rw [hji14] at c3b0)
       have hji14w : (IntKind.i64.wrap (x6_1 + 1)) = ji14 := (i64_w _).trans hji14
       replace H := nde H; obtain ⟨c15b0, H⟩ := H
       have H' := ak H; clear H
       obtain ⟨p7, q7, hx7⟩ := bx a0 x6_1
       obtain ⟨p12, q12, hx12⟩ := bx a0 (ji9)
       obtain ⟨p16, q16, hx16⟩ := bx a0 (ji14)
       go_wp2
       go_meet
       case rel => exact ⟨_, (((bt a0 (ji14)) == 32)), (by first | rfl | (simp; done) | (simp only [← hji14] <;> (first | rfl | simp)) | (simp [*]; done)), H', ⟨by have := HK1.out; first | omega | exact Nat.le_refl _⟩, dn⟩
     ·
      have H' := ak H; clear H
      obtain ⟨p7, q7, hx7⟩ := bx a0 x6_1
      go_wp2
      go_meet
      case rel => exact ⟨_, (true), rs, H', ⟨by have := HK1.out; first | omega | exact Nat.le_refl _⟩, dn⟩
    case rest =>
     clear HC4
     try clear c1
     try clear p1
     try clear q1
     try clear hx1
     try clear p2
     try clear c3
     try clear c3b0
     try clear c3b1
     try clear c5
     try clear c5b0
     try clear c6
     try clear c6b0
     try clear p6
     try clear p7
     try clear q7
     try clear hx7
     try clear c8
     try clear c8b0
     try clear c8b1
     try clear c10
     try clear c10b0
     try clear c11
     try clear c11b0
     try clear p12
     try clear q12
     try clear hx12
     try clear c13
     try clear c13b0
     try clear c13b1
     try clear c15
     try clear c15b0
     try clear p16
     try clear q16
     try clear hx16
     try clear p12
     try clear p16
     try clear p2
     try clear p7
     try clear q12
     try clear q16
     try clear q7
     obtain ⟨kq, x33_3, rfl, HA, HJ3, ⟨mc3, rfl⟩⟩ := hcut
     cases kq with
     | zero => exact absurd HA.out (by simp [spec_l3Break.j1])
     | succ kj3 =>
      have H := HA.out
      clear HA
      simp only [spec_l3Break.j1] at H
      replace H := sb H
      rcases H with ⟨rfl, H⟩ | ⟨rfl, H⟩
      ·
       have H' := ak H; clear H
       go_wp2
       go_roundg kj3
       case measure => have := HK1.out; have := HJ3.out; omega
       case rel => exact ⟨(x5_1), (wrap64 (x6_1 + 1)), rs, rs, H', ⟨by have := HK1.out; have := HJ3.out; omega⟩, dn⟩
      ·
       replace H := sd H
       rcases H with ⟨c18b0, H⟩ | ⟨c18b0, H⟩
       ·
        have H' := ak H; clear H
        go_wp2
        go_roundg kj3
        case measure => have := HK1.out; have := HJ3.out; omega
        case rel => exact ⟨(x6_1), (wrap64 (x6_1 + 1)), rs, rs, H', ⟨by have := HK1.out; have := HJ3.out; omega⟩, dn⟩
       ·
        replace H := sd H
        rcases H with ⟨c19b0, H⟩ | ⟨c19b0, H⟩
        ·
         have H' := ak H; clear H
         go_wp2
         go_roundg kj3
         case measure => have := HK1.out; have := HJ3.out; omega
         case rel => exact ⟨(x6_1), (wrap64 (x6_1 + 1)), rs, rs, H', ⟨by have := HK1.out; have := HJ3.out; omega⟩, dn⟩
        ·
         have H' := ak H; clear H
         go_wp2
         go_roundg kj3
         case measure => have := HK1.out; have := HJ3.out; omega
         case rel => exact ⟨(x5_1), (wrap64 (x6_1 + 1)), rs, rs, H', ⟨by have := HK1.out; have := HJ3.out; omega⟩, dn⟩
   ·
    have c3b0 := decide_eq_false c3
    (try (have c3b1 : decide ((x6_1 + 1) < (a0.size : Int)) = false := decide_eq_false (by have h_ := c3; unfold wrap64 at h_; omega)))
    clear c3
    obtain rfl := Option.some.inj H
    go_wp2
    go_ret
    exact ⟨rs, dn⟩
end Go.Proofs.YtncdadcmghglkaaGreatDoor.PFnExactCountParts
