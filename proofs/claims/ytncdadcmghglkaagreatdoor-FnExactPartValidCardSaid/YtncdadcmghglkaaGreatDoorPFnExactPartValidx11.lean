/- Written by a program of this session out of the translation: each Go function named below as a Lean function, and the proof that the call answers as that function does; conditions: those in each statement. -/
import Derived.Test.YtncdadcmghglkaaGreatDoorVFnExactPartValidQt
import Derived.Test.YtncdadcmghglkaaGreatDoorVFnExactPartValidYt
import Derived.Test.YtncdadcmghglkaaGreatDoorPFnExactPartValidx0
-- short
-- dense
-- sq
namespace Go.Proofs.YtncdadcmghglkaaGreatDoor.PFnExactPartValid
open Go.RowKit Go.Proofs.YtncdadcmghglkaaGreatDoor.X Go.Proofs.YtncdadcmghglkaaGreatDoorW.PrintWords Go.Proofs.YtncdadcmghglkaaGreatDoorW.PrintLast Go.Proofs.YtncdadcmghglkaaGreatDoorW.PrintMore
attribute [local go_sem] max2_int min2_int max_two min_two max_three min_three max_four min_four   -- for this text's walks alone
set_option linter.unusedVariables false
set_option linter.unusedSimpArgs false

/-! ### laws_szStringS: function 52 -/
def laws_szStringS.l0 : Nat → List ByteArray → Int → Int → Option (Int)
 | 0, _, _, _ => none
 | k + 1, x0, x1, x5 => if x5 < (x0.length : Int) then (if 0 ≤ x5 then (if (wrap64 (x1 - ((rdOf ByteArray.empty x0 x5).size : Int))) < 0 then (some (-1)) else (laws_szStringS.l0 k x0 (wrap64 (x1 - ((rdOf ByteArray.empty x0 x5).size : Int))) (wrap64 (x5 + 1)))) else (none)) else (some x1)
def laws_szStringS.f (k : Nat) (l0 : List ByteArray) (a1 : Int) : Option (Int) := if (wrap64 (a1 - (l0.length : Int))) < 0 then (some (-1)) else (laws_szStringS.l0 k l0 (wrap64 (a1 - (l0.length : Int))) 0)
set_option maxHeartbeats 8000000 in
set_option maxRecDepth 100000 in
theorem laws_szStringS.calls (k : Nat) (A0 : Option Addr) (c0 : Nat) (l0 : List ByteArray) (a1 : Int) (r : Int) (w : World) (hr0 : Kd.C Kd.string w A0 l0.length l0) (hc0 : l0.length ≤ c0) (h : laws_szStringS.f k l0 a1 = some r) :
  Calls Tryz.prog 52 #[.slice A0 l0.length c0, .int .i64 a1] w fun e w' => e = .returned (.int .i64 r) ∧ Drawn0 w w' := by
 have HR0 := ak hr0
 have HC0 := ak hc0
 clear hr0 hc0
 have H : (if (wrap64 (a1 - (l0.length : Int))) < 0 then (some (-1)) else (laws_szStringS.l0 k l0 (wrap64 (a1 - (l0.length : Int))) 0)) = some r := h
 clear h
 replace H := sp H
 rcases H with ⟨c3, H⟩ | ⟨c3, H⟩
 ·
  have c3b0 := decide_eq_true c3
  (try (have c3b1 : decide ((a1 - (l0.length : Int)) < 0) = true := decide_eq_true (by have h_ := c3; unfold wrap64 at h_; omega)))
  clear c3
  obtain rfl := Option.some.inj H
  go_enter Tryz.func52, Tryz.ntmps52
  go_wp2
  go_ret
  exact ⟨rs, dn⟩
 ·
  have c3b0 := decide_eq_false c3
  (try (have c3b1 : decide ((a1 - (l0.length : Int)) < 0) = false := decide_eq_false (by have h_ := c3; unfold wrap64 at h_; omega)))
  clear c3
  have H' := ak H; clear H
  go_enter Tryz.func52, Tryz.ntmps52
  go_wp2
  go_loopg [1, 5] k (fun kq v1 v5 w' => ∃ (x1_1 : Int) (x5_1 : Int), v1 = .int .i64 x1_1 ∧ v5 = .int .i64 x5_1 ∧ Aside0 (laws_szStringS.l0 kq l0 x1_1 x5_1 = some r) ∧ Aside0 (kq ≤ k) ∧ Drawn0 w w')
  case atStart => exact ⟨(wrap64 (a1 - (l0.length : Int))), (0), rs, rs, H', ⟨Nat.le_refl _⟩, dn⟩
  case round =>
   clear H'
   try clear p2
   try clear c3
   try clear c3b0
   try clear c3b1
   obtain ⟨x1_1, x5_1, rfl, rfl, HA, HK1, ⟨m1, rfl⟩⟩ := hrel
   cases gk with
   | zero => exact absurd HA.out (by simp [laws_szStringS.l0])
   | succ k1 =>
    have H := HA.out
    clear HA
    simp only [laws_szStringS.l0] at H
    replace H := sd H
    rcases H with ⟨c4b0, H⟩ | ⟨c4b0, H⟩
    ·
     replace H := nde H; obtain ⟨c5b0, H⟩ := H; replace H := sp H
     rcases H with ⟨c6, H⟩ | ⟨c6, H⟩
     ·
      have c6b0 := decide_eq_true c6
      (try (have c6b1 : decide ((x1_1 - ((rdOf ByteArray.empty l0 x5_1).size : Int)) < 0) = true := decide_eq_true (by have h_ := c6; unfold wrap64 at h_; omega)))
      clear c6
      obtain rfl := Option.some.inj H
      have p357 := zi x5_1
      have q357 := zj x5_1 l0.length
      obtain ⟨ad357, e357, hx357_0⟩ := Kd.at_string HR0.out x5_1 p357 q357
      cases e357
      replace p357 := eq_true p357
      replace q357 := eq_true q357
      go_wp2
      go_ret
      exact ⟨rs, dn⟩
     ·
      have c6b0 := decide_eq_false c6
      (try (have c6b1 : decide ((x1_1 - ((rdOf ByteArray.empty l0 x5_1).size : Int)) < 0) = false := decide_eq_false (by have h_ := c6; unfold wrap64 at h_; omega)))
      clear c6
      have H' := ak H; clear H
      have p357 := zi x5_1
      have q357 := zj x5_1 l0.length
      obtain ⟨ad357, e357, hx357_0⟩ := Kd.at_string HR0.out x5_1 p357 q357
      cases e357
      replace p357 := eq_true p357
      replace q357 := eq_true q357
      go_wp2
      go_roundg k1
      case measure => have := HK1.out; omega
      case rel => exact ⟨(wrap64 (x1_1 - ((rdOf ByteArray.empty l0 x5_1).size : Int))), (wrap64 (x5_1 + 1)), rs, rs, H', ⟨by have := HK1.out; omega⟩, dn⟩
    ·
     obtain rfl := Option.some.inj H
     go_wp2
     go_ret
     exact ⟨rs, dn⟩

/-! ### laws_szField: function 112 -/
def laws_szField.f (a0_0 : ByteArray) (a0_1 : ByteArray) (a1 : Int) : Option (Int) := if (wrap64 (a1 - (a0_0.size : Int))) < 0 then (some (-1)) else (if (wrap64 ((wrap64 (a1 - (a0_0.size : Int))) - (a0_1.size : Int))) < 0 then (some (-1)) else (some (wrap64 ((wrap64 (a1 - (a0_0.size : Int))) - (a0_1.size : Int)))))
set_option maxHeartbeats 8000000 in
set_option maxRecDepth 100000 in
theorem laws_szField.calls (a0_0 : ByteArray) (a0_1 : ByteArray) (a1 : Int) (r : Int) (w : World) (h : laws_szField.f a0_0 a0_1 a1 = some r) :
  Calls Tryz.prog 112 #[.agg #[.string a0_0, .string a0_1], .int .i64 a1] w fun e w' => e = .returned (.int .i64 r) ∧ Below w.heap.size w w' := by
 have hu120 := Tryz.underlying120
 have HB := ak (Below.refl w.heap.size w)
 have H : (if (wrap64 (a1 - (a0_0.size : Int))) < 0 then (some (-1)) else (if (wrap64 ((wrap64 (a1 - (a0_0.size : Int))) - (a0_1.size : Int))) < 0 then (some (-1)) else (some (wrap64 ((wrap64 (a1 - (a0_0.size : Int))) - (a0_1.size : Int)))))) = some r := h
 clear h
 replace H := sp H
 rcases H with ⟨c3, H⟩ | ⟨c3, H⟩
 ·
  have c3b0 := decide_eq_true c3
  (try (have c3b1 : decide ((a1 - (a0_0.size : Int)) < 0) = true := decide_eq_true (by have h_ := c3; unfold wrap64 at h_; omega)))
  clear c3
  obtain rfl := Option.some.inj H
  go_enter Tryz.func112, Tryz.ntmps112
  go_wp2_with (first | (refine bE 2 #[.string a0_0, .string a0_1] 120 ?_; intro gb358 hg w4 hbox hb; have BK358 := ak (hbox); have GW358 := ge_ HB hg; have GE358 := ge_ HB hg; replace HB := bs HB hb; clear hb hbox hg; obtain ⟨hcz5_0, hcz5_1, hfz5_0, hfz5_1⟩ := cz2 BK358.out))
  go_ret
  exact ⟨er, bb⟩
 ·
  have c3b0 := decide_eq_false c3
  (try (have c3b1 : decide ((a1 - (a0_0.size : Int)) < 0) = false := decide_eq_false (by have h_ := c3; unfold wrap64 at h_; omega)))
  clear c3
  replace H := sp H
  rcases H with ⟨c6, H⟩ | ⟨c6, H⟩
  ·
   have c6b0 := decide_eq_true c6
   (try (have c6b1 : decide (((wrap64 (a1 - (a0_0.size : Int))) - (a0_1.size : Int)) < 0) = true := decide_eq_true (by have h_ := c6; unfold wrap64 at h_; omega)))
   clear c6
   obtain rfl := Option.some.inj H
   go_enter Tryz.func112, Tryz.ntmps112
   go_wp2_with (first | (refine bE 2 #[.string a0_0, .string a0_1] 120 ?_; intro gb358 hg w7 hbox hb; have BK358 := ak (hbox); have GW358 := ge_ HB hg; have GE358 := ge_ HB hg; replace HB := bs HB hb; clear hb hbox hg; obtain ⟨hcz8_0, hcz8_1, hfz8_0, hfz8_1⟩ := cz2 BK358.out))
   go_ret
   exact ⟨er, bb⟩
  ·
   have c6b0 := decide_eq_false c6
   (try (have c6b1 : decide (((wrap64 (a1 - (a0_0.size : Int))) - (a0_1.size : Int)) < 0) = false := decide_eq_false (by have h_ := c6; unfold wrap64 at h_; omega)))
   clear c6
   obtain rfl := Option.some.inj H
   go_enter Tryz.func112, Tryz.ntmps112
   go_wp2_with (first | (refine bE 2 #[.string a0_0, .string a0_1] 120 ?_; intro gb358 hg w9 hbox hb; have BK358 := ak (hbox); have GW358 := ge_ HB hg; have GE358 := ge_ HB hg; replace HB := bs HB hb; clear hb hbox hg; obtain ⟨hcz10_0, hcz10_1, hfz10_0, hfz10_1⟩ := cz2 BK358.out))
   go_ret
   exact ⟨er, bb⟩

/-! ### laws_szFieldS: function 70 -/
def laws_szFieldS.l0 : Nat → List (S120) → Int → Int → Option (Int)
 | 0, _, _, _ => none
 | k + 1, x0, x1, x5 => if x5 < (x0.length : Int) then (if 0 ≤ x5 then ((laws_szField.f ((rd_T120 x0 x5).f0) ((rd_T120 x0 x5).f1) x1).bind fun t360 => (if t360 < 0 then (some (-1)) else (laws_szFieldS.l0 k x0 t360 (wrap64 (x5 + 1))))) else (none)) else (some x1)
def laws_szFieldS.f (k : Nat) (l0 : List (S120)) (a1 : Int) : Option (Int) := if (wrap64 (a1 - (l0.length : Int))) < 0 then (some (-1)) else (laws_szFieldS.l0 k l0 (wrap64 (a1 - (l0.length : Int))) 0)
set_option maxHeartbeats 8000000 in
set_option maxRecDepth 100000 in
theorem laws_szFieldS.calls (k : Nat) (A0 : Option Addr) (c0 : Nat) (l0 : List (S120)) (a1 : Int) (r : Int) (w : World) (hr0 : Kd.C k120 w A0 l0.length l0) (hc0 : l0.length ≤ c0) (h : laws_szFieldS.f k l0 a1 = some r) :
  Calls Tryz.prog 70 #[.slice A0 l0.length c0, .int .i64 a1] w fun e w' => e = .returned (.int .i64 r) ∧ Below w.heap.size w w' := by
 have hu120 := Tryz.underlying120
 have HR0 := ak hr0
 have HC0 := ak hc0
 clear hr0 hc0
 have HB := ak (Below.refl w.heap.size w)
 have H : (if (wrap64 (a1 - (l0.length : Int))) < 0 then (some (-1)) else (laws_szFieldS.l0 k l0 (wrap64 (a1 - (l0.length : Int))) 0)) = some r := h
 clear h
 replace H := sp H
 rcases H with ⟨c3, H⟩ | ⟨c3, H⟩
 ·
  have c3b0 := decide_eq_true c3
  (try (have c3b1 : decide ((a1 - (l0.length : Int)) < 0) = true := decide_eq_true (by have h_ := c3; unfold wrap64 at h_; omega)))
  clear c3
  obtain rfl := Option.some.inj H
  go_enter Tryz.func70, Tryz.ntmps70
  go_wp2
  go_ret
  exact ⟨er, ul HB.out⟩
 ·
  have c3b0 := decide_eq_false c3
  (try (have c3b1 : decide ((a1 - (l0.length : Int)) < 0) = false := decide_eq_false (by have h_ := c3; unfold wrap64 at h_; omega)))
  clear c3
  have H' := ak H; clear H
  go_enter Tryz.func70, Tryz.ntmps70
  go_wp2
  go_loopg [1, 5] k (fun kq v1 v5 w' => ∃ (x1_1 : Int) (x5_1 : Int), v1 = .int .i64 x1_1 ∧ v5 = .int .i64 x5_1 ∧ Aside0 (laws_szFieldS.l0 kq l0 x1_1 x5_1 = some r) ∧ Aside0 (kq ≤ k) ∧ Aside0 (Below w.heap.size w w'))
  case atStart => exact ⟨(wrap64 (a1 - (l0.length : Int))), (0), rs, rs, H', ⟨Nat.le_refl _⟩, ⟨ul HB.out⟩⟩
  case round =>
   clear H'
   try clear p2
   try clear c3
   try clear c3b0
   try clear c3b1
   obtain ⟨x1_1, x5_1, rfl, rfl, HA, HK1, HB⟩ := hrel
   cases gk with
   | zero => exact absurd HA.out (by simp [laws_szFieldS.l0])
   | succ k1 =>
    have H := HA.out
    clear HA
    simp only [laws_szFieldS.l0] at H
    replace H := sd H
    rcases H with ⟨c4b0, H⟩ | ⟨c4b0, H⟩
    ·
     replace H := nde H; obtain ⟨c5b0, H⟩ := H; replace H := bd H; obtain ⟨t360, A6, H⟩ := H; replace H := sd H
     rcases H with ⟨c7b0, H⟩ | ⟨c7b0, H⟩
     ·
      obtain rfl := Option.some.inj H
      have p359 := zi x5_1
      have q359 := zj x5_1 l0.length
      obtain ⟨ad359, e359, hx359_0, hx359_1⟩ := at_T120 HR0.out x5_1 p359 q359
      cases e359
      replace hx359_0 := cl HB.out hx359_0
      replace hx359_1 := cl HB.out hx359_1
      replace p359 := eq_true p359
      replace q359 := eq_true q359
      go_wp2_with (first | (refine gL 112 23 Tryz.func112 #[.agg #[.string ((rd_T120 l0 x5_1).f0), .string ((rd_T120 l0 x5_1).f1)], .int .i64 x1_1] ?_; (with_reducible refine (laws_szField.calls ((rd_T120 l0 x5_1).f0) ((rd_T120 l0 x5_1).f1) x1_1 t360 _ A6.out).mono ?_); rintro e w8 ⟨rfl, hb⟩; refine ⟨_, rfl, ?_⟩; replace HB := bs HB hb; (try clear hb)))
      go_ret
      exact ⟨er, ul HB.out⟩
     ·
      have H' := ak H; clear H
      have p359 := zi x5_1
      have q359 := zj x5_1 l0.length
      obtain ⟨ad359, e359, hx359_0, hx359_1⟩ := at_T120 HR0.out x5_1 p359 q359
      cases e359
      replace hx359_0 := cl HB.out hx359_0
      replace hx359_1 := cl HB.out hx359_1
      replace p359 := eq_true p359
      replace q359 := eq_true q359
      go_wp2_with (first | (refine gL 112 23 Tryz.func112 #[.agg #[.string ((rd_T120 l0 x5_1).f0), .string ((rd_T120 l0 x5_1).f1)], .int .i64 x1_1] ?_; (with_reducible refine (laws_szField.calls ((rd_T120 l0 x5_1).f0) ((rd_T120 l0 x5_1).f1) x1_1 t360 _ A6.out).mono ?_); rintro e w9 ⟨rfl, hb⟩; refine ⟨_, rfl, ?_⟩; replace HB := bs HB hb; (try clear hb)))
      go_roundg k1
      case measure => have := HK1.out; omega
      case rel => exact ⟨(t360), (wrap64 (x5_1 + 1)), rs, rs, H', ⟨by have := HK1.out; omega⟩, ⟨ul HB.out⟩⟩
    ·
     obtain rfl := Option.some.inj H
     go_wp2
     go_ret
     exact ⟨er, ul HB.out⟩

-- NOT PRINTED: function 71 (laws_szPartS)

-- NOT PRINTED: function 29 (laws_szPart)

/-! ### spec_TextValid: function 159 -/
mutual
def spec_TextValid.l0 : Nat → ByteArray → Int → Option (Bool)
 | 0, _, _ => none
 | k + 1, x0, x3 => if x3 < (x0.size : Int) then (spec_TextValid.j1 k x0 x3 (decide (x3 ≤ 200))) else (spec_TextValid.j1 k x0 x3 false)
def spec_TextValid.j1 : Nat → ByteArray → Int → Bool → Option (Bool)
 | 0, _, _, _ => none
 | k + 1, x0, x3, x11 => if x11 = true then (if 0 ≤ x3 then (if x3 < (x0.size : Int) then (if (bt x0 x3) < 32 then (some false) else (if (bt x0 x3) > 126 then (some false) else (spec_TextValid.l0 k x0 (wrap64 (x3 + 1))))) else (none)) else (none)) else (some (decide ((x0.size : Int) ≤ 200)))
end
def spec_TextValid.f (k : Nat) (a0 : ByteArray) : Option (Bool) := spec_TextValid.l0 k a0 0
set_option maxHeartbeats 8000000 in
set_option maxRecDepth 100000 in
theorem spec_TextValid.calls (k : Nat) (a0 : ByteArray) (r : Bool) (w : World) (h : spec_TextValid.f k a0 = some r) :
  Calls Tryz.prog 159 #[.string a0] w fun e w' => e = .returned (.bool r) ∧ Drawn0 w w' := by
 have H : (spec_TextValid.l0 k a0 0) = some r := h
 clear h
 have H' := ak H; clear H
 go_enter Tryz.func159, Tryz.ntmps159
 go_wp2
 go_loopg [3] k (fun kq v3 w' => ∃ (x3_1 : Int), v3 = .int .i64 x3_1 ∧ Aside0 (spec_TextValid.l0 kq a0 x3_1 = some r) ∧ Aside0 (kq ≤ k) ∧ Drawn0 w w')
 case atStart => exact ⟨(0), rs, H', ⟨Nat.le_refl _⟩, dn⟩
 case round =>
  clear H'
  try clear c1
  obtain ⟨x3_1, rfl, HA, HK1, ⟨m1, rfl⟩⟩ := hrel
  cases gk with
  | zero => exact absurd HA.out (by simp [spec_TextValid.l0])
  | succ k1 =>
   have H := HA.out
   clear HA
   simp only [spec_TextValid.l0] at H
   have HC2 := ak H
   clear H
   go_upto_region 2 with (fail)
   go_cut [11] (fun v11 wc => ∃ (kq : Nat) (x11_1 : Bool), v11 = .bool x11_1 ∧ Aside0 (spec_TextValid.j1 kq a0 x3_1 x11_1 = some r) ∧ Aside0 (kq ≤ k1) ∧ Drawn0 w wc)
   case first =>
    have H := HC2.out
    clear HC2
    replace H := sd H
    rcases H with ⟨c3b0, H⟩ | ⟨c3b0, H⟩
    ·
     (first | rw [c3b0] | (simp only [i64_w, i32_w]; rw [c3b0]) | skip)
     have H' := ak H; clear H
     go_wp2
     go_meet
     case rel => exact ⟨_, (decide (x3_1 ≤ 200)), rs, H', ⟨by have := HK1.out; first | omega | exact Nat.le_refl _⟩, dn⟩
    ·
     (first | rw [c3b0] | (simp only [i64_w, i32_w]; rw [c3b0]) | skip)
     have H' := ak H; clear H
     go_wp2
     go_meet
     case rel => exact ⟨_, (false), rs, H', ⟨by have := HK1.out; first | omega | exact Nat.le_refl _⟩, dn⟩
   case rest =>
    clear HC2
    try clear c1
    try clear p2
    try clear c3
    try clear c3b0
    obtain ⟨kq, x11_1, rfl, HA, HJ1, ⟨mc1, rfl⟩⟩ := hcut
    cases kq with
    | zero => exact absurd HA.out (by simp [spec_TextValid.j1])
    | succ kj1 =>
     have H := HA.out
     clear HA
     simp only [spec_TextValid.j1] at H
     replace H := sb H
     rcases H with ⟨rfl, H⟩ | ⟨rfl, H⟩
     ·
      replace H := nde H; obtain ⟨c5b0, H⟩ := H; replace H := nde H; obtain ⟨c6b0, H⟩ := H; replace H := sd H
      rcases H with ⟨c8b0, H⟩ | ⟨c8b0, H⟩
      ·
       obtain rfl := Option.some.inj H
       obtain ⟨p7, q7, hx7⟩ := bx a0 x3_1
       go_wp2
       go_ret
       exact ⟨rs, dn⟩
      ·
       replace H := sp H
       rcases H with ⟨c10, H⟩ | ⟨c10, H⟩
       ·
        have c10b0 : decide (126 < (bt a0 x3_1)) = true := decide_eq_true c10
        clear c10
        obtain rfl := Option.some.inj H
        obtain ⟨p7, q7, hx7⟩ := bx a0 x3_1
        obtain ⟨p9, q9, hx9⟩ := bx a0 x3_1
        go_wp2
        go_ret
        exact ⟨rs, dn⟩
       ·
        have c10b0 : decide (126 < (bt a0 x3_1)) = false := decide_eq_false c10
        clear c10
        have H' := ak H; clear H
        obtain ⟨p7, q7, hx7⟩ := bx a0 x3_1
        obtain ⟨p9, q9, hx9⟩ := bx a0 x3_1
        go_wp2
        go_roundg kj1
        case measure => have := HK1.out; have := HJ1.out; omega
        case rel => exact ⟨(wrap64 (x3_1 + 1)), rs, H', ⟨by have := HK1.out; have := HJ1.out; omega⟩, dn⟩
     ·
      obtain rfl := Option.some.inj H
      go_wp2
      go_ret
      exact ⟨rs, dn⟩

/-! ### spec_l2Trim: function 179 -/
mutual
def spec_l2Trim.j1 : Nat → ByteArray → Option (ByteArray)
 | 0, _ => none
 | k + 1, x0 => spec_l2Trim.l1 k x0
def spec_l2Trim.l1 : Nat → ByteArray → Option (ByteArray)
 | 0, _ => none
 | k + 1, x0 => if (x0.size : Int) > 0 then (if 0 ≤ (wrap64 ((x0.size : Int) - 1)) then (if (wrap64 ((x0.size : Int) - 1)) < (x0.size : Int) then (if (bt x0 (wrap64 ((x0.size : Int) - 1))) = 32 then (if (wrap64 ((x0.size : Int) - 1)) ≤ (x0.size : Int) then (spec_l2Trim.l1 k (x0.extract 0 ((wrap64 ((x0.size : Int) - 1)) : Int).toNat)) else (none)) else (some x0)) else (none)) else (none)) else (some x0)
def spec_l2Trim.l0 : Nat → ByteArray → Option (ByteArray)
 | 0, _ => none
 | k + 1, x0 => if (x0.size : Int) > 0 then (if 0 < (x0.size : Int) then (if (bt x0 0) = 32 then (if 1 ≤ (x0.size : Int) then (spec_l2Trim.l0 k (x0.extract 1 x0.size)) else (none)) else (spec_l2Trim.j1 k x0)) else (none)) else (spec_l2Trim.j1 k x0)
end
def spec_l2Trim.f (k : Nat) (a0 : ByteArray) : Option (ByteArray) := spec_l2Trim.l0 k a0
set_option maxHeartbeats 8000000 in
set_option maxRecDepth 100000 in
theorem spec_l2Trim.calls (k : Nat) (a0 : ByteArray) (r : ByteArray) (w : World) (h : spec_l2Trim.f k a0 = some r) :
  Calls Tryz.prog 179 #[.string a0] w fun e w' => e = .returned (.string r) ∧ Drawn0 w w' := by
 have H : (spec_l2Trim.l0 k a0) = some r := h
 clear h
 have HC2 := ak H
 clear H
 go_enter Tryz.func179, Tryz.ntmps179
 go_upto_block 0 with (fail)
 go_cut [0] (fun v0 wc => ∃ (kq : Nat) (x0_1 : ByteArray), v0 = .string x0_1 ∧ Aside0 (spec_l2Trim.j1 kq x0_1 = some r) ∧ Aside0 (kq ≤ k) ∧ Drawn0 w wc)
 case first =>
  have H := HC2.out
  clear HC2
  have H' := ak H; clear H
  go_wp2
  go_loopg [0] k (fun kq v0 w' => ∃ (x0_1 : ByteArray), v0 = .string x0_1 ∧ Aside0 (spec_l2Trim.l0 kq x0_1 = some r) ∧ Aside0 (kq ≤ k) ∧ Drawn0 w w')
  case atStart => exact ⟨(a0), rs, H', ⟨Nat.le_refl _⟩, dn⟩
  case round =>
   clear H'
   try clear c1
   try clear p2
   obtain ⟨x0_1, rfl, HA, HK1, ⟨m1, rfl⟩⟩ := hrel
   cases gk with
   | zero => exact absurd HA.out (by simp [spec_l2Trim.l0])
   | succ k1 =>
    have H := HA.out
    clear HA
    simp only [spec_l2Trim.l0] at H
    replace H := sp H
    rcases H with ⟨c3, H⟩ | ⟨c3, H⟩
    ·
     have c3b0 : decide (0 < (x0_1.size : Int)) = true := decide_eq_true c3
     have c3b1 : decide (0 < x0_1.size) = true := decide_eq_true (by omega)
     clear c3
     (first | rw [c3b0] | (simp only [i64_w, i32_w]; rw [c3b0]) | skip)
     replace H := nn H; obtain ⟨c4, H⟩ := H
     have c4b0 := decide_eq_true c4
     have c4b1 : decide (0 < x0_1.size) = true := decide_eq_true (by omega)
     clear c4
     replace H := sq H
     rcases H with ⟨c6b0, c6b1, H⟩ | ⟨c6, c6b0, c6b1, H⟩
     ·
      replace H := ne_ H; obtain ⟨c7b0, c7b1, H⟩ := H
      have H' := ak H; clear H
      have p5 : 0 ≤ (0 : Int) := (by omega)
      have q5 : 0 < x0_1.size := (by have : (0 : Int) < (x0_1.size : Int) := of_decide_eq_true (by assumption); omega)
      have hx5 : ∀ h : 0 < x0_1.size, ((x0_1[0]'h).toNat : Int) = bt x0_1 0 := bt_at x0_1 0
      clear p5
      have qi5 : (0 < (x0_1.size : Int)) = True := eq_true (of_decide_eq_true (by assumption))
      replace q5 := eq_true q5
      go_wp2
      go_roundg k1
      case measure => have := HK1.out; omega
      case rel => exact ⟨(x0_1.extract 1 x0_1.size), rs, H', ⟨by have := HK1.out; omega⟩, dn⟩
     ·
      have H' := ak H; clear H
      have p5 : 0 ≤ (0 : Int) := (by omega)
      have q5 : 0 < x0_1.size := (by have : (0 : Int) < (x0_1.size : Int) := of_decide_eq_true (by assumption); omega)
      have hx5 : ∀ h : 0 < x0_1.size, ((x0_1[0]'h).toNat : Int) = bt x0_1 0 := bt_at x0_1 0
      clear p5
      have qi5 : (0 < (x0_1.size : Int)) = True := eq_true (of_decide_eq_true (by assumption))
      replace q5 := eq_true q5
      go_wp2
      go_meet
      case rel => exact ⟨_, (x0_1), rs, H', ⟨by have := HK1.out; first | omega | exact Nat.le_refl _⟩, dn⟩
    ·
     have c3b0 : decide (0 < (x0_1.size : Int)) = false := decide_eq_false c3
     have c3b1 : decide (0 < x0_1.size) = false := decide_eq_false (by omega)
     clear c3
     (first | rw [c3b0] | (simp only [i64_w, i32_w]; rw [c3b0]) | skip)
     have H' := ak H; clear H
     go_wp2
     go_meet
     case rel => exact ⟨_, (x0_1), rs, H', ⟨by have := HK1.out; first | omega | exact Nat.le_refl _⟩, dn⟩
 case rest =>
  clear HC2
  try clear c1
  try clear p2
  try clear c3
  try clear c3b0
  try clear c3b1
  try clear c4
  try clear c4b0
  try clear c4b1
  try clear p5
  try clear q5
  try clear hx5
  try clear qi5
  try clear c6
  try clear c6b0
  try clear c6b1
  try clear c7
  try clear c7b0
  try clear c7b1
  try clear p2
  try clear p5
  try clear q5
  obtain ⟨kq, x0_1, rfl, HA, HJ1, ⟨mc1, rfl⟩⟩ := hcut
  cases kq with
  | zero => exact absurd HA.out (by simp [spec_l2Trim.j1])
  | succ kj1 =>
   have H := HA.out
   clear HA
   simp only [spec_l2Trim.j1] at H
   have H' := ak H; clear H
   go_wp2
   go_loopg [0] kj1 (fun kq v0 w' => ∃ (x0_2 : ByteArray), v0 = .string x0_2 ∧ Aside0 (spec_l2Trim.l1 kq x0_2 = some r) ∧ Aside0 (kq ≤ kj1) ∧ Drawn0 w w')
   case atStart => exact ⟨(x0_1), rs, H', ⟨Nat.le_refl _⟩, dn⟩
   case round =>
    clear H'
    try clear c1
    try clear p2
    try clear c3
    try clear c3b0
    try clear c3b1
    try clear c4
    try clear c4b0
    try clear c4b1
    try clear p5
    try clear q5
    try clear hx5
    try clear qi5
    try clear c6
    try clear c6b0
    try clear c6b1
    try clear c7
    try clear c7b0
    try clear c7b1
    try clear p2
    try clear p5
    try clear q5
    obtain ⟨x0_2, rfl, HA, HK2, ⟨m2, rfl⟩⟩ := hrel
    cases gk with
    | zero => exact absurd HA.out (by simp [spec_l2Trim.l1])
    | succ k2 =>
     have H := HA.out
     clear HA
     simp only [spec_l2Trim.l1] at H
     replace H := sp H
     rcases H with ⟨c8, H⟩ | ⟨c8, H⟩
     ·
      have c8b0 : decide (0 < (x0_2.size : Int)) = true := decide_eq_true c8
      have c8b1 : decide (0 < x0_2.size) = true := decide_eq_true (by omega)
      clear c8
      obtain ⟨ji9, hji9⟩ : ∃ j_ : Int, (wrap64 ((x0_2.size : Int) - 1)) = j_ := ⟨_, rfl⟩
      replace H : (if 0 ≤ (ji9) then (if (ji9) < (x0_2.size : Int) then (if (bt x0_2 (ji9)) = 32 then (if (ji9) ≤ (x0_2.size : Int) then (spec_l2Trim.l1 k2 (x0_2.extract 0 ((ji9) : Int).toNat)) else (none)) else (some x0_2)) else (none)) else (none)) = some r := by first | (rw [hji9] at H; exact H) | (simp only [hji9] at H ⊢; exact H)
      have hji9w : (IntKind.i64.wrap ((x0_2.size : Int) - 1)) = ji9 := (i64_w _).trans hji9
      replace H := nde H; obtain ⟨c10b0, H⟩ := H; replace H := nde H; obtain ⟨c11b0, H⟩ := H; replace H := sq H
      rcases H with ⟨c13b0, c13b1, H⟩ | ⟨c13, c13b0, c13b1, H⟩
      ·
       have c14b0 := eq_true (of_decide_eq_true (by assumption) : 0 ≤ (ji9))
       replace H := ne_ H; obtain ⟨c15b0, c15b1, H⟩ := H
       have H' := ak H; clear H
       obtain ⟨p12, q12, hx12⟩ := bx x0_2 (ji9)
       go_wp2
       go_roundg k2
       case measure => have := HJ1.out; have := HK2.out; omega
       case rel => exact ⟨(x0_2.extract 0 ((ji9) : Int).toNat), (by first | rfl | (simp; done) | (simp only [← hji9] <;> (first | rfl | simp)) | (simp [*]; done)), H', ⟨by have := HJ1.out; have := HK2.out; omega⟩, dn⟩
      ·
       obtain rfl := Option.some.inj H
       obtain ⟨p12, q12, hx12⟩ := bx x0_2 (ji9)
       go_wp2
       go_ret
       exact ⟨by first | rfl | (simp; done) | (simp only [← hji9] <;> (first | rfl | simp)) | (simp [*]; done), dn⟩
     ·
      have c8b0 : decide (0 < (x0_2.size : Int)) = false := decide_eq_false c8
      have c8b1 : decide (0 < x0_2.size) = false := decide_eq_false (by omega)
      clear c8
      obtain rfl := Option.some.inj H
      go_wp2
      go_ret
      exact ⟨rs, dn⟩

/-! ### spec_l1Letter: function 183 -/
def spec_l1Letter.f (a0 : Int) : Option (Bool) := if a0 ≥ 97 then (if a0 ≤ 122 then (some true) else (if a0 ≥ 65 then (if a0 ≤ 90 then (some true) else (if a0 ≥ 48 then (some (decide (a0 ≤ 57))) else (some false))) else (if a0 ≥ 48 then (some (decide (a0 ≤ 57))) else (some false)))) else (if a0 ≥ 65 then (if a0 ≤ 90 then (some true) else (if a0 ≥ 48 then (some (decide (a0 ≤ 57))) else (some false))) else (if a0 ≥ 48 then (some (decide (a0 ≤ 57))) else (some false)))
set_option maxHeartbeats 8000000 in
set_option maxRecDepth 100000 in
theorem spec_l1Letter.calls (a0 : Int) (r : Bool) (w : World) (h : spec_l1Letter.f a0 = some r) :
  Calls Tryz.prog 183 #[.int .u8 a0] w fun e w' => e = .returned (.bool r) ∧ Drawn0 w w' := by
 have H : (if a0 ≥ 97 then (if a0 ≤ 122 then (some true) else (if a0 ≥ 65 then (if a0 ≤ 90 then (some true) else (if a0 ≥ 48 then (some (decide (a0 ≤ 57))) else (some false))) else (if a0 ≥ 48 then (some (decide (a0 ≤ 57))) else (some false)))) else (if a0 ≥ 65 then (if a0 ≤ 90 then (some true) else (if a0 ≥ 48 then (some (decide (a0 ≤ 57))) else (some false))) else (if a0 ≥ 48 then (some (decide (a0 ≤ 57))) else (some false)))) = some r := h
 clear h
 replace H := sp H
 rcases H with ⟨c2, H⟩ | ⟨c2, H⟩
 ·
  have c2b0 : decide (97 ≤ a0) = true := decide_eq_true c2
  clear c2
  replace H := sd H
  rcases H with ⟨c3b0, H⟩ | ⟨c3b0, H⟩
  ·
   obtain rfl := Option.some.inj H
   go_enter Tryz.func183, Tryz.ntmps183
   go_wp2
   go_ret
   exact ⟨rs, dn⟩
  ·
   replace H := sp H
   rcases H with ⟨c4, H⟩ | ⟨c4, H⟩
   ·
    have c4b0 : decide (65 ≤ a0) = true := decide_eq_true c4
    clear c4
    replace H := sd H
    rcases H with ⟨c5b0, H⟩ | ⟨c5b0, H⟩
    ·
     obtain rfl := Option.some.inj H
     go_enter Tryz.func183, Tryz.ntmps183
     go_wp2
     go_ret
     exact ⟨rs, dn⟩
    ·
     replace H := sp H
     rcases H with ⟨c6, H⟩ | ⟨c6, H⟩
     ·
      have c6b0 : decide (48 ≤ a0) = true := decide_eq_true c6
      clear c6
      obtain rfl := Option.some.inj H
      go_enter Tryz.func183, Tryz.ntmps183
      go_wp2
      go_ret
      exact ⟨rs, dn⟩
     ·
      have c6b0 : decide (48 ≤ a0) = false := decide_eq_false c6
      clear c6
      obtain rfl := Option.some.inj H
      go_enter Tryz.func183, Tryz.ntmps183
      go_wp2
      go_ret
      exact ⟨rs, dn⟩
   ·
    have c4b0 : decide (65 ≤ a0) = false := decide_eq_false c4
    clear c4
    replace H := sp H
    rcases H with ⟨c7, H⟩ | ⟨c7, H⟩
    ·
     have c7b0 : decide (48 ≤ a0) = true := decide_eq_true c7
     clear c7
     obtain rfl := Option.some.inj H
     go_enter Tryz.func183, Tryz.ntmps183
     go_wp2
     go_ret
     exact ⟨rs, dn⟩
    ·
     have c7b0 : decide (48 ≤ a0) = false := decide_eq_false c7
     clear c7
     obtain rfl := Option.some.inj H
     go_enter Tryz.func183, Tryz.ntmps183
     go_wp2
     go_ret
     exact ⟨rs, dn⟩
 ·
  have c2b0 : decide (97 ≤ a0) = false := decide_eq_false c2
  clear c2
  replace H := sp H
  rcases H with ⟨c8, H⟩ | ⟨c8, H⟩
  ·
   have c8b0 : decide (65 ≤ a0) = true := decide_eq_true c8
   clear c8
   replace H := sd H
   rcases H with ⟨c9b0, H⟩ | ⟨c9b0, H⟩
   ·
    obtain rfl := Option.some.inj H
    go_enter Tryz.func183, Tryz.ntmps183
    go_wp2
    go_ret
    exact ⟨rs, dn⟩
   ·
    replace H := sp H
    rcases H with ⟨c10, H⟩ | ⟨c10, H⟩
    ·
     have c10b0 : decide (48 ≤ a0) = true := decide_eq_true c10
     clear c10
     obtain rfl := Option.some.inj H
     go_enter Tryz.func183, Tryz.ntmps183
     go_wp2
     go_ret
     exact ⟨rs, dn⟩
    ·
     have c10b0 : decide (48 ≤ a0) = false := decide_eq_false c10
     clear c10
     obtain rfl := Option.some.inj H
     go_enter Tryz.func183, Tryz.ntmps183
     go_wp2
     go_ret
     exact ⟨rs, dn⟩
  ·
   have c8b0 : decide (65 ≤ a0) = false := decide_eq_false c8
   clear c8
   replace H := sp H
   rcases H with ⟨c11, H⟩ | ⟨c11, H⟩
   ·
    have c11b0 : decide (48 ≤ a0) = true := decide_eq_true c11
    clear c11
    obtain rfl := Option.some.inj H
    go_enter Tryz.func183, Tryz.ntmps183
    go_wp2
    go_ret
    exact ⟨rs, dn⟩
   ·
    have c11b0 : decide (48 ≤ a0) = false := decide_eq_false c11
    clear c11
    obtain rfl := Option.some.inj H
    go_enter Tryz.func183, Tryz.ntmps183
    go_wp2
    go_ret
    exact ⟨rs, dn⟩

end Go.Proofs.YtncdadcmghglkaaGreatDoor.PFnExactPartValid
