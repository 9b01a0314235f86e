/- Printed walks; conditions: those in each statement. -/
import Derived.Test.YtncdadcmghglkaaGreatDoorVFnCountPartsQt
import Derived.Test.YtncdadcmghglkaaGreatDoorVFnCountPartsYt
import Derived.Test.YtncdadcmghglkaaGreatDoorPFnCountPartsx0
import Derived.Test.YtncdadcmghglkaaGreatDoorPFnCountPartsx11
import Derived.Test.YtncdadcmghglkaaGreatDoorPFnCountPartsx12
-- short
-- dense
-- sq
-- sq2
namespace Go.Proofs.YtncdadcmghglkaaGreatDoor.PFnCountParts
open Go.RowKit Go.Proofs.YtncdadcmghglkaaGreatDoor.X Go.Proofs.YtncdadcmghglkaaGreatDoorW.bI Go.Proofs.YtncdadcmghglkaaGreatDoorW.gI Go.Proofs.YtncdadcmghglkaaGreatDoorW.iL
attribute [local go_sem] kN kP mF mG jB jC kQ kR   -- for this text's walks alone
set_option linter.unusedVariables false
set_option maxHeartbeats 8000000
set_option maxRecDepth 100000
set_option linter.unusedSimpArgs false
def jO.l0 : Nat → List (gY) → ByteArray → Int → Option (Int)
 | 0, _, _, _ => none
 | k + 1, x0, x1, x5 => if x5 < (x0.length : Int) then (if 0 ≤ x5 then ((qE.f ((fD x0 x5).f0) x1).bind fun ao0 => (if ao0 = true then (some x5) else (jO.l0 k x0 x1 (wrap64 (x5 + 1))))) else (none)) else (some (-1))
def jO.f (k : Nat) (l0 : List (gY)) (a1 : ByteArray) : Option (Int) := jO.l0 k l0 a1 0
theorem jO.calls {k c0 : Nat} {A0 : Option Addr} {l0 : List (gY)} {a1 : ByteArray} {r : Int} {w : World} (hr0 : Kd.C qJ w A0 l0.length l0) (hc0 : l0.length ≤ c0) (h : jO.f k l0 a1 = some r) :
  Calls Tryz.prog 177 #[.slice A0 l0.length c0, .string a1] w fun e w' => e = .returned (.int .i64 r) ∧ Below w.heap.size w w' := by
 have HR0 := ak hr0
 have xq := ak hc0
 clear hr0 hc0
 have HB := ak (Below.refl w.heap.size w)
 unfold jO.f at h; have H := h
 clear h
 have H' := ak H; clear H
 go_enter Tryz.func177, Tryz.ntmps177
 go_wp2
 go_loopg [5] k (fun kq v5 w' => ∃ (eH : Int), v5 = .int .i64 eH ∧ ah (jO.l0 kq l0 a1 eH = some r) ∧ ah (kq ≤ k) ∧ ah (Below w.heap.size w w'))
 case atStart => exact ⟨_, rs, H', ⟨Nat.le_refl _⟩, ⟨ul HB.out⟩⟩
 case round =>
  clear H'
  obtain ⟨eH, rfl, HA, xu, HB⟩ := hrel
  cases gk with
  | zero => exact zz HA.out
  | succ k1 =>
   obtain ⟨H⟩ := HA
   simp only [jO.l0] at H
   replace H := sd H
   rcases H with ⟨iQ, H⟩ | ⟨iQ, H⟩
   ·
    replace H := oM H; obtain ⟨rX, H⟩ := H; replace H := bd H; obtain ⟨ao0, A5, H⟩ := H; replace H := sb H
    rcases H with ⟨rfl, H⟩ | ⟨rfl, H⟩
    ·
     obtain rfl := s1 H
     have Xk := zi eH
     have Xl := zj eH l0.length
     obtain ⟨ao1, alE, Jf, Jg⟩ := qV HR0.out eH Xk Xl
     cases alE
     replace Jf := cl HB.out Jf
     replace Jg := cl HB.out Jg
     replace Xk := eq_true Xk
     replace Xl := eq_true Xl
     go_wp2_with (refine gB Tryz.func197 (qE.calls A5.out) ?_; intro w7 hb; replace HB := bs HB hb; clear hb)
     go_ret
     exact ⟨er, ul HB.out⟩
    ·
     have H' := ak H; clear H
     have Xk := zi eH
     have Xl := zj eH l0.length
     obtain ⟨ao1, alE, Jf, Jg⟩ := qV HR0.out eH Xk Xl
     cases alE
     replace Jf := cl HB.out Jf
     replace Jg := cl HB.out Jg
     replace Xk := eq_true Xk
     replace Xl := eq_true Xl
     go_wp2_with (refine gB Tryz.func197 (qE.calls A5.out) ?_; intro w8 hb; replace HB := bs HB hb; clear hb)
     go_roundg k1
     case measure => exact kl
     case rel => exact ⟨_, rs, H', ⟨kl⟩, ⟨ul HB.out⟩⟩
   ·
    obtain rfl := s1 H
    go_wp2
    go_ret
    exact ⟨er, ul HB.out⟩
def jU.f (k : Nat) (l0 : List (gY)) (a1 : ByteArray) : Option (ByteArray × Bool) := (jO.f k l0 a1).bind fun Vl => (if Vl < 0 then (some ((⟨#[]⟩ : ByteArray), false)) else (if 0 ≤ Vl then (if Vl < (l0.length : Int) then (some ((fD l0 Vl).f1, true)) else (none)) else (none)))
theorem jU.calls {k c0 : Nat} {A0 : Option Addr} {l0 : List (gY)} {a1 r1 : ByteArray} {r2 : Bool} {w : World} (hr0 : Kd.C qJ w A0 l0.length l0) (hc0 : l0.length ≤ c0) (h : jU.f k l0 a1 = some (r1, r2)) :
  Calls Tryz.prog 154 #[.slice A0 l0.length c0, .string a1] w fun e w' => e = .returned (.tuple #[.string r1, .bool r2]) ∧ Below w.heap.size w w' := by
 have HR0 := ak hr0
 have xq := ak hc0
 clear hr0 hc0
 have HB := ak (Below.refl w.heap.size w)
 unfold jU.f at h; have H := h
 clear h
 replace H := bd H; obtain ⟨Vl, A3, H⟩ := H; replace H := sd H
 rcases H with ⟨rX, H⟩ | ⟨rX, H⟩
 ·
  obtain ⟨rfl, rfl⟩ := s2 H
  go_enter Tryz.func154, Tryz.ntmps154
  go_wp2_with (refine gB Tryz.func177 (jO.calls (cu HR0.out) xq.out A3.out) ?_; intro w5 hb; replace HB := bs HB hb; clear hb)
  go_ret2
  exact ⟨er, ul HB.out⟩
 ·
  replace H := oM H; obtain ⟨nT, H⟩ := H; replace H := oM H; obtain ⟨rY, H⟩ := H
  obtain ⟨rfl, rfl⟩ := s2 H
  go_enter Tryz.func154, Tryz.ntmps154
  go_wp2_with (refine gB Tryz.func177 (jO.calls (cu HR0.out) xq.out A3.out) ?_; intro w8 hb; replace HB := bs HB hb; clear hb; have alF : 0 ≤ (Vl : Int) := of_decide_eq_true (by assumption); have alG : Vl < (l0.length : Int) := of_decide_eq_true (by assumption); obtain ⟨aAo, aw6, Tq, Tt⟩ := qV HR0.out Vl alF alG; cases aw6; replace Tq := (HB.out.cell (World.block_lt_of_cell? w _ Tq)).trans Tq; replace Tt := (HB.out.cell (World.block_lt_of_cell? w _ Tt)).trans Tt; replace alF := eq_true alF; replace alG := eq_true alG)
  go_ret2
  exact ⟨er, ul HB.out⟩
def gy.l0 : Nat → ByteArray → ByteArray → Int → Option (ByteArray × Int)
 | 0, _, _, _ => none
 | k + 1, x0, x6, x7 => if x7 < (x0.size : Int) then (if 0 ≤ x7 then (if (bt x0 x7) = 34 then (some (x6, wrap64 (x7 + 1))) else (if (bt x0 x7) = 92 then (if (wrap64 (x7 + 1)) = (x0.size : Int) then (some ((⟨#[]⟩ : ByteArray), (-1))) else (if 0 ≤ (wrap64 (x7 + 1)) then (if (wrap64 (x7 + 1)) ≤ (wrap64 ((wrap64 (x7 + 1)) + 1)) then (if (wrap64 ((wrap64 (x7 + 1)) + 1)) ≤ (x0.size : Int) then (if x6.size + (x0.extract ((wrap64 (x7 + 1)) : Int).toNat ((wrap64 ((wrap64 (x7 + 1)) + 1)) : Int).toNat).size ≤ 9223372036854775807 then (gy.l0 k x0 (x6 ++ (x0.extract ((wrap64 (x7 + 1)) : Int).toNat ((wrap64 ((wrap64 (x7 + 1)) + 1)) : Int).toNat)) (wrap64 ((wrap64 (x7 + 1)) + 1))) else (none)) else (none)) else (none)) else (none))) else (if x7 ≤ (wrap64 (x7 + 1)) then (if (wrap64 (x7 + 1)) ≤ (x0.size : Int) then (if x6.size + (x0.extract (x7 : Int).toNat ((wrap64 (x7 + 1)) : Int).toNat).size ≤ 9223372036854775807 then (gy.l0 k x0 (x6 ++ (x0.extract (x7 : Int).toNat ((wrap64 (x7 + 1)) : Int).toNat)) (wrap64 (x7 + 1))) else (none)) else (none)) else (none)))) else (none)) else (some ((⟨#[]⟩ : ByteArray), (-1)))
def gy.f (k : Nat) (a0 : ByteArray) (a1 : Int) : Option (ByteArray × Int) := gy.l0 k a0 (⟨#[]⟩ : ByteArray) (wrap64 (a1 + 1))
theorem gy.calls {k : Nat} {a0 r1 : ByteArray} {a1 r2 : Int} {w : World} (h : gy.f k a0 a1 = some (r1, r2)) :
  Calls Tryz.prog 198 #[.string a0, .int .i64 a1] w fun e w' => e = .returned (.tuple #[.string r1, .int .i64 r2]) ∧ dS w w' := by
 unfold gy.f at h; have H := h
 clear h
 have H' := ak H; clear H
 go_enter Tryz.func198, Tryz.ntmps198
 go_wp2
 go_loopg [6, 7] k (fun kq v6 v7 w' => ∃ (jH : ByteArray) (rH : Int), v6 = .string jH ∧ v7 = .int .i64 rH ∧ ah (gy.l0 kq a0 jH rH = some (r1, r2)) ∧ ah (kq ≤ k) ∧ dS w w')
 case atStart => exact ⟨_, _, rs, rs, H', ⟨Nat.le_refl _⟩, dn⟩
 case round =>
  clear H'
  obtain ⟨jH, rH, rfl, rfl, HA, xu, ⟨m1, rfl⟩⟩ := hrel
  cases gk with
  | zero => exact zz HA.out
  | succ k1 =>
   obtain ⟨H⟩ := HA
   simp only [gy.l0] at H
   replace H := sd H
   rcases H with ⟨iQ, H⟩ | ⟨iQ, H⟩
   ·
    replace H := oM H; obtain ⟨rX, H⟩ := H; replace H := sq H
    rcases H with ⟨nT, wF, H⟩ | ⟨c6, nT, wF, H⟩
    ·
     obtain ⟨rfl, rfl⟩ := s2 H
     obtain ⟨p5, q5, hx5⟩ := bx a0 rH
     go_wp2
     go_ret2
     exact ⟨rs, dn⟩
    ·
     replace H := sq H
     rcases H with ⟨sH, Ba, H⟩ | ⟨c8, sH, Ba, H⟩
     ·
      replace H := sq H
      rcases H with ⟨xU, EX, H⟩ | ⟨c9, xU, EX, H⟩
      ·
       obtain ⟨rfl, rfl⟩ := s2 H
       obtain ⟨p5, q5, hx5⟩ := bx a0 rH
       obtain ⟨p7, q7, hx7⟩ := bx a0 rH
       go_wp2
       go_ret2
       exact ⟨rs, dn⟩
      ·
       obtain ⟨Jh, OY⟩ : ∃ j_ : Int, (wrap64 (rH + 1)) = j_ := ⟨_, rfl⟩
       replace H : (if 0 ≤ (Jh) then (if (Jh) ≤ (wrap64 ((Jh) + 1)) then (if (wrap64 ((Jh) + 1)) ≤ (a0.size : Int) then (if jH.size + (a0.extract ((Jh) : Int).toNat ((wrap64 ((Jh) + 1)) : Int).toNat).size ≤ 9223372036854775807 then (gy.l0 k1 a0 (jH ++ (a0.extract ((Jh) : Int).toNat ((wrap64 ((Jh) + 1)) : Int).toNat)) (wrap64 ((Jh) + 1))) else (none)) else (none)) else (none)) else (none)) = some (r1, r2) := by first | (rw [OY] at H; exact H) | (simp only [OY] at H ⊢; exact H)
       (try rw [OY] at xU)
       (try rw [OY] at EX)
       have aw7 : (IntKind.i64.wrap (rH + 1)) = Jh := (dU _).trans OY
       replace H := zK H; obtain ⟨uH, Ec, H⟩ := H; replace H := nn H; obtain ⟨c12, H⟩ := H
       have xw := eq_true c12
       have CP := decide_eq_true c12
       replace H := nn H; obtain ⟨c13, H⟩ := H
       have vS := eq_true c13
       have zB := decide_eq_true c13
       replace H := nn H; obtain ⟨c14, H⟩ := H
       have tu := eq_true c14
       have xA := decide_eq_true c14
       try have aAp : (9223372036854775807 < jH.size + ((a0.extract ((Jh) : Int).toNat ((wrap64 ((Jh) + 1)) : Int).toNat).size)) = False := by have h_ := c14; simp only [ByteArray.size_append, ByteArray.size_extract] at h_; refine eq_false ?_; simp only [decide_eq_true_eq] at *; omega
       try have aoR : (9223372036854775807 < jH.size + (a0.extract ((Jh) : Int).toNat ((wrap64 ((Jh) + 1)) : Int).toNat).size) = False := eq_false (Nat.not_lt.2 c14)
       have H' := ak H; clear H
       obtain ⟨p5, q5, hx5⟩ := bx a0 rH
       obtain ⟨p7, q7, hx7⟩ := bx a0 rH
       go_wp2
       go_roundg k1
       case measure => exact kl
       case rel => exact ⟨_, _, (by first | rfl | (simp; done) | (simp only [← OY] <;> (first | rfl | simp)) | (simp [*]; done)), (by first | rfl | (simp; done) | (simp only [← OY] <;> (first | rfl | simp)) | (simp [*]; done)), H', ⟨kl⟩, dn⟩
     ·
      have vT := eq_true (of_decide_eq_true (by assumption) : 0 ≤ rH)
      replace H := nn H; obtain ⟨c16, H⟩ := H
      have zD := eq_true c16
      have Jd := decide_eq_true c16
      replace H := nn H; obtain ⟨c17, H⟩ := H
      have tq := eq_true c17
      have MJ := decide_eq_true c17
      replace H := nn H; obtain ⟨c18, H⟩ := H
      have zC := eq_true c18
      have OT := decide_eq_true c18
      try have aAq : (9223372036854775807 < jH.size + ((a0.extract (rH : Int).toNat ((wrap64 (rH + 1)) : Int).toNat).size)) = False := by have h_ := c18; simp only [ByteArray.size_append, ByteArray.size_extract] at h_; refine eq_false ?_; simp only [decide_eq_true_eq] at *; omega
      try have aiB : (9223372036854775807 < jH.size + (a0.extract (rH : Int).toNat ((wrap64 (rH + 1)) : Int).toNat).size) = False := eq_false (Nat.not_lt.2 c18)
      have H' := ak H; clear H
      obtain ⟨p5, q5, hx5⟩ := bx a0 rH
      obtain ⟨p7, q7, hx7⟩ := bx a0 rH
      go_wp2
      go_roundg k1
      case measure => exact kl
      case rel => exact ⟨_, _, rs, rs, H', ⟨kl⟩, dn⟩
   ·
    obtain ⟨rfl, rfl⟩ := s2 H
    go_wp2
    go_ret2
    exact ⟨rs, dn⟩
def jo.l0 : Nat → ByteArray → Int → Int → Option (ByteArray × ByteArray × Bool)
 | 0, _, _, _ => none
 | k + 1, x0, x1, x7 => if x7 < (x0.size : Int) then (if 0 ≤ x7 then (if (bt x0 x7) = 34 then ((gy.f k x0 x7).bind fun aiC => (if aiC.2 < 0 then (some (x0, (⟨#[]⟩ : ByteArray), false)) else (jo.l0 k x0 x1 aiC.2))) else (if (bt x0 x7) = x1 then (if x7 ≤ (x0.size : Int) then (if 0 ≤ (wrap64 (x7 + 1)) then (if (wrap64 (x7 + 1)) ≤ (x0.size : Int) then (some (x0.extract 0 (x7 : Int).toNat, x0.extract ((wrap64 (x7 + 1)) : Int).toNat x0.size, true)) else (none)) else (none)) else (none)) else (jo.l0 k x0 x1 (wrap64 (x7 + 1))))) else (none)) else (some (x0, (⟨#[]⟩ : ByteArray), false))
def jo.f (k : Nat) (a0 : ByteArray) (a1 : Int) : Option (ByteArray × ByteArray × Bool) := jo.l0 k a0 a1 0
theorem jo.calls {k : Nat} {a0 r1 r2 : ByteArray} {a1 : Int} {r3 : Bool} {w : World} (h : jo.f k a0 a1 = some (r1, r2, r3)) :
  Calls Tryz.prog 178 #[.string a0, .int .u8 a1] w fun e w' => e = .returned (.tuple #[.string r1, .string r2, .bool r3]) ∧ dS w w' := by
 unfold jo.f at h; have H := h
 clear h
 have H' := ak H; clear H
 go_enter Tryz.func178, Tryz.ntmps178
 go_wp2
 repeat (go_quiet (fail); try go_wp2)
 go_loopg [7] k (fun kq v7 w' => ∃ (rH : Int), v7 = .int .i64 rH ∧ ah (jo.l0 kq a0 a1 rH = some (r1, r2, r3)) ∧ ah (kq ≤ k) ∧ dS w w')
 case atStart => exact ⟨_, rs, H', ⟨Nat.le_refl _⟩, dn⟩
 case round =>
  clear H'
  obtain ⟨rH, rfl, HA, xu, ⟨m1, rfl⟩⟩ := hrel
  cases gk with
  | zero => exact zz HA.out
  | succ k1 =>
   obtain ⟨H⟩ := HA
   simp only [jo.l0] at H
   replace H := sd H
   rcases H with ⟨iQ, H⟩ | ⟨iQ, H⟩
   ·
    replace H := oM H; obtain ⟨rX, H⟩ := H; replace H := sq H
    rcases H with ⟨nT, wF, H⟩ | ⟨c6, nT, wF, H⟩
    ·
     replace H := bd H
     obtain ⟨⟨aDn, aDo⟩, A7, H⟩ := H
     (try dsimp only at H)
     replace H := sd H
     rcases H with ⟨sH, H⟩ | ⟨sH, H⟩
     ·
      obtain ⟨rfl, rfl, rfl⟩ := s3 H
      obtain ⟨p5, q5, hx5⟩ := bx a0 rH
      go_wp2_with (go_at_call 198; refine mA (gy.calls A7.out) ?_; intro nd; (try exact dq))
      repeat (go_quiet ((go_at_call 198; refine mA (gy.calls A7.out) ?_; intro nd; (try exact dq))); try go_wp2_with (go_at_call 198; refine mA (gy.calls A7.out) ?_; intro nd; (try exact dq)))
      go_ret3
      exact ⟨rs, dn⟩
     ·
      have H' := ak H; clear H
      obtain ⟨p5, q5, hx5⟩ := bx a0 rH
      go_wp2_with (go_at_call 198; refine mA (gy.calls A7.out) ?_; intro nd; (try exact dq))
      repeat (go_quiet ((go_at_call 198; refine mA (gy.calls A7.out) ?_; intro nd; (try exact dq))); try go_wp2_with (go_at_call 198; refine mA (gy.calls A7.out) ?_; intro nd; (try exact dq)))
      go_roundg k1
      case measure => exact kl
      case rel => exact ⟨_, rs, H', ⟨kl⟩, dn⟩
    ·
     replace H := sq H
     rcases H with ⟨oC, sK, H⟩ | ⟨c10, oC, sK, H⟩
     ·
      have uH := eq_true (of_decide_eq_true (by assumption) : 0 ≤ rH)
      replace H := zK H; obtain ⟨xw, CP, H⟩ := H
      obtain ⟨Tv, GU⟩ : ∃ j_ : Int, (wrap64 (rH + 1)) = j_ := ⟨_, rfl⟩
      replace H : (if 0 ≤ (Tv) then (if (Tv) ≤ (a0.size : Int) then (some (a0.extract 0 (rH : Int).toNat, a0.extract ((Tv) : Int).toNat a0.size, true)) else (none)) else (none)) = some (r1, r2, r3) := by first | (rw [GU] at H; exact H) | (simp only [GU] at H ⊢; exact H)
      have alH : (IntKind.i64.wrap (rH + 1)) = Tv := (dU _).trans GU
      replace H := zK H; obtain ⟨tu, xA, H⟩ := H; replace H := zK H; obtain ⟨vT, ES, H⟩ := H
      obtain ⟨rfl, rfl, rfl⟩ := s3 H
      obtain ⟨p5, q5, hx5⟩ := bx a0 rH
      obtain ⟨p9, q9, YQ⟩ := bx a0 rH
      go_wp2
      repeat (go_quiet (fail); try go_wp2)
      go_ret3
      exact ⟨by first | rfl | (simp; done) | (simp only [← GU] <;> (first | rfl | simp)) | (simp [*]; done), dn⟩
     ·
      have H' := ak H; clear H
      obtain ⟨p5, q5, hx5⟩ := bx a0 rH
      obtain ⟨p9, q9, YQ⟩ := bx a0 rH
      go_wp2
      repeat (go_quiet (fail); try go_wp2)
      go_roundg k1
      case measure => exact kl
      case rel => exact ⟨_, rs, H', ⟨kl⟩, dn⟩
   ·
    obtain ⟨rfl, rfl, rfl⟩ := s3 H
    go_wp2
    repeat (go_quiet (fail); try go_wp2)
    go_ret3
    exact ⟨rs, dn⟩
def jv.l0 : Nat → Int → Int → Option (Bool)
 | 0, _, _ => none
 | k + 1, x0, x3 => if x3 < 19 then (if 0 ≤ x3 then (if x0 = (bt (⟨#[33, 35, 36, 37, 38, 39, 42, 43, 45, 47, 61, 63, 94, 95, 96, 123, 124, 125, 126]⟩ : ByteArray) x3) then (some true) else (jv.l0 k x0 (wrap64 (x3 + 1)))) else (none)) else ((gK.f x0).bind fun ao2 => (some ao2))
def jv.f (k : Nat) (a0 : Int) : Option (Bool) := jv.l0 k a0 0
theorem jv.calls {k : Nat} {a0 : Int} {r : Bool} {w : World} (h : jv.f k a0 = some r) :
  Calls Tryz.prog 199 #[.int .u8 a0] w fun e w' => e = .returned (.bool r) ∧ dS w w' := by
 unfold jv.f at h; have H := h
 clear h
 have H' := ak H; clear H
 go_enter Tryz.func199, Tryz.ntmps199
 go_wp2
 go_loopg [3] k (fun kq v3 w' => ∃ (dM : Int), v3 = .int .i64 dM ∧ ah (jv.l0 kq a0 dM = some r) ∧ ah (kq ≤ k) ∧ dS w w')
 case atStart => exact ⟨_, rs, H', ⟨Nat.le_refl _⟩, dn⟩
 case round =>
  clear H'
  obtain ⟨dM, rfl, HA, xu, ⟨m1, rfl⟩⟩ := hrel
  cases gk with
  | zero => exact zz HA.out
  | succ k1 =>
   obtain ⟨H⟩ := HA
   simp only [jv.l0] at H
   replace H := sd H
   rcases H with ⟨oI, H⟩ | ⟨oI, H⟩
   ·
    replace H := oM H; obtain ⟨iQ, H⟩ := H; replace H := sq H
    rcases H with ⟨nR, Ji, H⟩ | ⟨c5, nR, Ji, H⟩
    ·
     obtain rfl := s1 H
     have p4 := zi dM
     have q4 := zj dM 19
     have hx4 := vO (⟨#[33, 35, 36, 37, 38, 39, 42, 43, 45, 47, 61, 63, 94, 95, 96, 123, 124, 125, 126]⟩ : ByteArray) dM
     replace p4 := eq_true p4
     replace q4 := eq_true q4
     go_wp2
     go_ret
     exact ⟨rs, dn⟩
    ·
     have H' := ak H; clear H
     have p4 := zi dM
     have q4 := zj dM 19
     have hx4 := vO (⟨#[33, 35, 36, 37, 38, 39, 42, 43, 45, 47, 61, 63, 94, 95, 96, 123, 124, 125, 126]⟩ : ByteArray) dM
     replace p4 := eq_true p4
     replace q4 := eq_true q4
     go_wp2
     go_roundg k1
     case measure => exact kl
     case rel => exact ⟨_, rs, H', ⟨kl⟩, dn⟩
   ·
    replace H := bd H; obtain ⟨ao2, A6, H⟩ := H
    obtain rfl := s1 H
    go_wp2_with (refine gA Tryz.func183 (gK.calls A6.out) ?_; intro nd)
    go_ret
    exact ⟨rs, dn⟩
mutual
def fF.l0 : Nat → ByteArray → List ByteArray → Int → Option (List ByteArray × Bool)
 | 0, _, _, _ => none
 | k + 1, x0, x4, x5 => if x5 < (x0.size : Int) then (if 0 ≤ x5 then (if (bt x0 x5) = 32 then (fF.l0 k x0 x4 (wrap64 (x5 + 1))) else (if (bt x0 x5) = 34 then ((gy.f k x0 x5).bind fun Jj => (if Jj.2 < 0 then (some ((([] : List ByteArray)), false)) else (if Jj.2 = x5 then (some ((([] : List ByteArray)), false)) else (if Jj.2 < (x0.size : Int) then (if 0 ≤ Jj.2 then (if (bt x0 Jj.2) = 32 then (if x4.length < 8796093022208 then (fF.l0 k x0 (x4 ++ [Jj.1]) Jj.2) else (none)) else (some ((([] : List ByteArray)), false))) else (none)) else (if x4.length < 8796093022208 then (fF.l0 k x0 (x4 ++ [Jj.1]) Jj.2) else (none)))))) else (fF.l1 k x0 x4 x5 x5))) else (none)) else (some (x4, true))
def fF.l1 : Nat → ByteArray → List ByteArray → Int → Int → Option (List ByteArray × Bool)
 | 0, _, _, _, _ => none
 | k + 1, x0, x4, x5, x6 => if x5 < (x0.size : Int) then (if 0 ≤ x5 then ((jv.f k (bt x0 x5)).bind fun ao3 => (if ao3 = true then (fF.l1 k x0 x4 (wrap64 (x5 + 1)) x6) else (if 0 ≤ x6 then (if x6 ≤ x5 then (if x5 ≤ (x0.size : Int) then (if x5 = x6 then (some ((([] : List ByteArray)), false)) else (if (bt x0 x5) = 32 then (if x4.length < 8796093022208 then (fF.l0 k x0 (x4 ++ [x0.extract (x6 : Int).toNat (x5 : Int).toNat]) x5) else (none)) else (some ((([] : List ByteArray)), false)))) else (none)) else (none)) else (none)))) else (none)) else (if 0 ≤ x6 then (if x6 ≤ x5 then (if x5 ≤ (x0.size : Int) then (if x5 = x6 then (some ((([] : List ByteArray)), false)) else (if x4.length < 8796093022208 then (fF.l0 k x0 (x4 ++ [x0.extract (x6 : Int).toNat (x5 : Int).toNat]) x5) else (none))) else (none)) else (none)) else (none))
end
def fF.f (k : Nat) (a0 : ByteArray) : Option (List ByteArray × Bool) := fF.l0 k a0 (([] : List ByteArray)) 0
theorem fF.calls {k : Nat} {a0 : ByteArray} {r1 : List ByteArray} {r2 : Bool} {w : World} (h : fF.f k a0 = some (r1, r2)) :
  Calls Tryz.prog 181 #[.string a0] w fun e w' => ∃ qj : Value, e = .returned (.tuple #[qj, .bool r2]) ∧ Kd.R Kd.string 9 w' w.heap.size (fun _ => True) qj r1 ∧ Below w.heap.size w w' := by
 have HB := ak (Below.refl w.heap.size w)
 unfold fF.f at h; have H := h
 clear h
 obtain ⟨aDp, aiD⟩ := nm ([] : List ByteArray)
 rw [← aiD.out] at H
 have H' := ak H; clear H
 go_enter Tryz.func181, Tryz.ntmps181
 go_wp2_with (refine gG 8 ?_; refine GN 8 Kd.string 9 aiD ?_; intro aDq w2 ho3 hb; have ao4 := ak (Kd.aA ho3 (aj (ul HB.out))); replace HB := bs HB hb; clear hb ho3)
 go_loopg [4, 5] k (fun kq v4 v5 w' => ∃ (dW : List ByteArray) (eH : Int), v5 = .int .i64 eH ∧ ah (fF.l0 kq a0 dW eH = some (r1, r2)) ∧ ah (kq ≤ k) ∧ ah (Kd.R Kd.string 9 w' w.heap.size (fun _ => True) v4 dW) ∧ ah (Below w.heap.size w w'))
 case atStart => exact ⟨_, _, rs, H', ⟨Nat.le_refl _⟩, ⟨ur ao4.out⟩, ⟨ul HB.out⟩⟩
 case round =>
  clear H'
  obtain ⟨dW, eH, rfl, HA, xu, iP, HB⟩ := hrel
  cases gk with
  | zero => exact zz HA.out
  | succ k1 =>
   obtain ⟨H⟩ := HA
   simp only [fF.l0] at H
   replace H := sd H
   rcases H with ⟨rX, H⟩ | ⟨rX, H⟩
   ·
    replace H := oM H; obtain ⟨nR, H⟩ := H; replace H := sq H
    rcases H with ⟨rY, Lc, H⟩ | ⟨c7, rY, Lc, H⟩
    ·
     have H' := ak H; clear H
     obtain ⟨p6, q6, hx6⟩ := bx a0 eH
     go_wp2
     go_roundg k1
     case measure => exact kl
     case rel => exact ⟨_, _, rs, H', ⟨kl⟩, ⟨ur iP.out⟩, ⟨ul HB.out⟩⟩
    ·
     replace H := sq H
     rcases H with ⟨xU, EX, H⟩ | ⟨c9, xU, EX, H⟩
     ·
      replace H := bd H
      obtain ⟨⟨ao5, abB⟩, U5, H⟩ := H
      (try dsimp only at H)
      replace H := sd H
      rcases H with ⟨uH, H⟩ | ⟨uH, H⟩
      ·
       obtain ⟨aDr, aiE⟩ := nm ([] : List ByteArray)
       rw [← aiE.out] at H
       obtain ⟨rfl, rfl⟩ := s2 H
       obtain ⟨p6, q6, hx6⟩ := bx a0 eH
       obtain ⟨p8, q8, hx8⟩ := bx a0 eH
       go_wp2_with (first | (refine gA Tryz.func198 (gy.calls U5.out) ?_; intro nd) | (refine gG 32 ?_; refine GN 32 Kd.string 9 aiE ?_; intro aDs w12 Tz hb; have ao6 := ak (Kd.aA (Kd.gU Tz (Kd.kX (ur iP.out))) (aj (ul HB.out))); replace iP := ak (Kd.fV (ur iP.out) (Kd.fQ Tz) hb); replace HB := bs HB hb; clear hb Tz))
       go_ret2
       exact ⟨_, er, ur (Kd.aZ ao6.out (fun _ hk => trivial)), ul HB.out⟩
      ·
       replace H := sq H
       rcases H with ⟨tu, xA, H⟩ | ⟨c14, tu, xA, H⟩
       ·
        obtain ⟨aDt, aiF⟩ := nm ([] : List ByteArray)
        rw [← aiF.out] at H
        obtain ⟨rfl, rfl⟩ := s2 H
        obtain ⟨p6, q6, hx6⟩ := bx a0 eH
        obtain ⟨p8, q8, hx8⟩ := bx a0 eH
        go_wp2_with (first | (refine gA Tryz.func198 (gy.calls U5.out) ?_; intro nd) | (refine gG 64 ?_; refine GN 64 Kd.string 9 aiF ?_; intro aDu w15 alI hb; have ao7 := ak (Kd.aA (Kd.gU alI (Kd.kX (ur iP.out))) (aj (ul HB.out))); replace iP := ak (Kd.fV (ur iP.out) (Kd.fQ alI) hb); replace HB := bs HB hb; clear hb alI))
        go_ret2
        exact ⟨_, er, ur (Kd.aZ ao7.out (fun _ hk => trivial)), ul HB.out⟩
       ·
        replace H := sd H
        rcases H with ⟨tq, H⟩ | ⟨tq, H⟩
        ·
         replace H := oM H; obtain ⟨zC, H⟩ := H; replace H := sq H
         rcases H with ⟨MP, Vm, H⟩ | ⟨c20, MP, Vm, H⟩
         ·
          replace H := nl H; obtain ⟨Vo, H⟩ := H
          obtain ⟨aDv, aiG⟩ := nm (dW ++ [ao5])
          rw [← aiG.out] at H
          have H' := ak H; clear H
          obtain ⟨p6, q6, hx6⟩ := bx a0 eH
          obtain ⟨p8, q8, hx8⟩ := bx a0 eH
          go_wp2_with (first | (refine gA Tryz.func198 (gy.calls U5.out) ?_; intro nd; have p19 : 0 ≤ (abB : Int) := of_decide_eq_true (by assumption); have q19 : abB < (a0.size : Int) := of_decide_eq_true (by assumption); have aw8 := vO a0 abB; replace p19 := eq_true p19; replace q19 := eq_true q19) | ((with_reducible refine dZ (b := .append) (xs := #[.tmp 65, .tmp 67]) rfl ?_); (try (refine lK (by rfl) ?_; dsimp only)); at_builtin; refine aP 65 67 Kd.string 23 9 (.string ⟨#[]⟩) 16 Tryz.underlying23 info9 HB (ur iP.out) aiG (by have := Vo.out; omega) ?_; intro aDw Xm ho hb hg hat; have ao8 := ak (ho); replace HB := ak (hb); clear ho hb hg hat iP))
          go_roundg k1
          case measure => exact kl
          case rel => exact ⟨_, _, rs, H', ⟨kl⟩, ⟨ur ao8.out⟩, ⟨ul HB.out⟩⟩
         ·
          obtain ⟨aDx, aiH⟩ := nm ([] : List ByteArray)
          rw [← aiH.out] at H
          obtain ⟨rfl, rfl⟩ := s2 H
          obtain ⟨p6, q6, hx6⟩ := bx a0 eH
          obtain ⟨p8, q8, hx8⟩ := bx a0 eH
          go_wp2_with (first | (refine gA Tryz.func198 (gy.calls U5.out) ?_; intro nd; have p19 : 0 ≤ (abB : Int) := of_decide_eq_true (by assumption); have q19 : abB < (a0.size : Int) := of_decide_eq_true (by assumption); have aw8 := vO a0 abB; replace p19 := eq_true p19; replace q19 := eq_true q19) | (refine gG 64 ?_; refine GN 64 Kd.string 9 aiH ?_; intro aDy w23 SX hb; have ao9 := ak (Kd.aA (Kd.gU SX (Kd.kX (ur iP.out))) (aj (ul HB.out))); replace iP := ak (Kd.fV (ur iP.out) (Kd.fQ SX) hb); replace HB := bs HB hb; clear hb SX))
          go_ret2
          exact ⟨_, er, ur (Kd.aZ ao9.out (fun _ hk => trivial)), ul HB.out⟩
        ·
         replace H := nl H; obtain ⟨Vp, H⟩ := H
         obtain ⟨aDz, aiI⟩ := nm (dW ++ [ao5])
         rw [← aiI.out] at H
         have H' := ak H; clear H
         obtain ⟨p6, q6, hx6⟩ := bx a0 eH
         obtain ⟨p8, q8, hx8⟩ := bx a0 eH
         go_wp2_with (first | (refine gA Tryz.func198 (gy.calls U5.out) ?_; intro nd) | ((with_reducible refine dZ (b := .append) (xs := #[.tmp 65, .tmp 67]) rfl ?_); (try (refine lK (by rfl) ?_; dsimp only)); at_builtin; refine aP 65 67 Kd.string 23 9 (.string ⟨#[]⟩) 16 Tryz.underlying23 info9 HB (ur iP.out) aiI (by have := Vp.out; omega) ?_; intro aDA w26 ho hb hg hat; have ao_ := ak (ho); replace HB := ak (hb); clear ho hb hg hat iP))
         go_roundg k1
         case measure => exact kl
         case rel => exact ⟨_, _, rs, H', ⟨kl⟩, ⟨ur ao_.out⟩, ⟨ul HB.out⟩⟩
     ·
      have H' := ak H; clear H
      obtain ⟨p6, q6, hx6⟩ := bx a0 eH
      obtain ⟨p8, q8, hx8⟩ := bx a0 eH
      go_wp2
      go_loopg [5] k1 (fun kq v5 w' => ∃ (sV : Int), v5 = .int .i64 sV ∧ ah (fF.l1 kq a0 dW sV eH = some (r1, r2)) ∧ ah (kq ≤ k1) ∧ ah (Kd.R Kd.string 9 w' w.heap.size (fun _ => True) u4 dW) ∧ ah (Below w.heap.size w w'))
      case atStart => exact ⟨_, rs, H', ⟨Nat.le_refl _⟩, ⟨ur iP.out⟩, ⟨ul HB.out⟩⟩
      case round =>
       clear H'
       try clear rX
       try clear nR
       try clear p6
       try clear q6
       try clear hx6
       try clear c7
       try clear rY
       try clear Lc
       try clear p8
       try clear q8
       try clear hx8
       try clear c9
       try clear xU
       try clear EX
       try clear p6
       try clear p8
       try clear q6
       try clear q8
       obtain ⟨sV, rfl, HA, HK2, iP, HB⟩ := hrel
       cases gk with
       | zero => exact zz HA.out
       | succ k2 =>
        obtain ⟨H⟩ := HA
        simp only [fF.l1] at H
        replace H := sd H
        rcases H with ⟨EO, H⟩ | ⟨EO, H⟩
        ·
         replace H := oM H; obtain ⟨EP, H⟩ := H; replace H := bd H; obtain ⟨ao3, A30, H⟩ := H; replace H := sb H
         rcases H with ⟨rfl, H⟩ | ⟨rfl, H⟩
         ·
          have H' := ak H; clear H
          obtain ⟨p29, q29, hx29⟩ := bx a0 sV
          go_wp2_with (go_at_call 199; refine mA (jv.calls A30.out) ?_; intro nd)
          go_roundg k2
          case measure => exact kl
          case rel => exact ⟨_, rs, H', ⟨kl⟩, ⟨ur iP.out⟩, ⟨ul HB.out⟩⟩
         ·
          replace H := zK H; obtain ⟨Vq, ac6, H⟩ := H; replace H := zK H; obtain ⟨Ri, ac7, H⟩ := H; replace H := zK H; obtain ⟨Vr, Vs, H⟩ := H; replace H := sq H
          rcases H with ⟨ac8, aiJ, H⟩ | ⟨c35, ac8, aiJ, H⟩
          ·
           obtain ⟨aDB, aiK⟩ := nm ([] : List ByteArray)
           rw [← aiK.out] at H
           obtain ⟨rfl, rfl⟩ := s2 H
           obtain ⟨p29, q29, hx29⟩ := bx a0 sV
           go_wp2_with (first | (go_at_call 199; refine mA (jv.calls A30.out) ?_; intro nd) | (refine gG 64 ?_; refine GN 64 Kd.string 9 aiK ?_; intro aDC w36 alJ hb; have apa := ak (Kd.aA (Kd.gU alJ (Kd.kX (ur iP.out))) (aj (ul HB.out))); replace iP := ak (Kd.fV (ur iP.out) (Kd.fQ alJ) hb); replace HB := bs HB hb; clear hb alJ))
           go_ret2
           exact ⟨_, er, ur (Kd.aZ apa.out (fun _ hk => trivial)), ul HB.out⟩
          ·
           replace H := sq H
           rcases H with ⟨apb, apc, H⟩ | ⟨c39, apb, apc, H⟩
           ·
            replace H := nl H; obtain ⟨Vt, H⟩ := H
            obtain ⟨aDD, aiL⟩ := nm (dW ++ [a0.extract (eH : Int).toNat (sV : Int).toNat])
            rw [← aiL.out] at H
            have H' := ak H; clear H
            obtain ⟨p29, q29, hx29⟩ := bx a0 sV
            go_wp2_with (first | (go_at_call 199; refine mA (jv.calls A30.out) ?_; intro nd; have p38 : 0 ≤ (sV : Int) := of_decide_eq_true (by assumption); have q38 : sV < (a0.size : Int) := of_decide_eq_true (by assumption); have hx38 := vO a0 sV; replace p38 := eq_true p38; replace q38 := eq_true q38) | ((with_reducible refine dZ (b := .append) (xs := #[.tmp 65, .tmp 67]) rfl ?_); (try (refine lK (by rfl) ?_; dsimp only)); at_builtin; refine aP 65 67 Kd.string 23 9 (.string ⟨#[]⟩) 16 Tryz.underlying23 info9 HB (ur iP.out) aiL (by have := Vt.out; omega) ?_; intro aDE w41 ho hb hg hat; have apd := ak (ho); replace HB := ak (hb); clear ho hb hg hat iP))
            go_roundg k2
            case measure => exact kl
            case rel => exact ⟨_, _, rs, H', ⟨kl⟩, ⟨ur apd.out⟩, ⟨ul HB.out⟩⟩
           ·
            obtain ⟨aDF, aiM⟩ := nm ([] : List ByteArray)
            rw [← aiM.out] at H
            obtain ⟨rfl, rfl⟩ := s2 H
            obtain ⟨p29, q29, hx29⟩ := bx a0 sV
            go_wp2_with (first | (go_at_call 199; refine mA (jv.calls A30.out) ?_; intro nd; have p38 : 0 ≤ (sV : Int) := of_decide_eq_true (by assumption); have q38 : sV < (a0.size : Int) := of_decide_eq_true (by assumption); have hx38 := vO a0 sV; replace p38 := eq_true p38; replace q38 := eq_true q38) | (refine gG 64 ?_; refine GN 64 Kd.string 9 aiM ?_; intro aDG w42 QH hb; have ape := ak (Kd.aA (Kd.gU QH (Kd.kX (ur iP.out))) (aj (ul HB.out))); replace iP := ak (Kd.fV (ur iP.out) (Kd.fQ QH) hb); replace HB := bs HB hb; clear hb QH))
            go_ret2
            exact ⟨_, er, ur (Kd.aZ ape.out (fun _ hk => trivial)), ul HB.out⟩
        ·
         replace H := zK H; obtain ⟨aAr, aAs, H⟩ := H; replace H := zK H; obtain ⟨aAt, aAu, H⟩ := H; replace H := zK H; obtain ⟨aAv, aAw, H⟩ := H; replace H := sq H
         rcases H with ⟨apf, apg, H⟩ | ⟨c47, apf, apg, H⟩
         ·
          obtain ⟨aDH, aiN⟩ := nm ([] : List ByteArray)
          rw [← aiN.out] at H
          obtain ⟨rfl, rfl⟩ := s2 H
          go_wp2_with (refine gG 64 ?_; refine GN 64 Kd.string 9 aiN ?_; intro aDI w48 alK hb; have aph := ak (Kd.aA (Kd.gU alK (Kd.kX (ur iP.out))) (aj (ul HB.out))); replace iP := ak (Kd.fV (ur iP.out) (Kd.fQ alK) hb); replace HB := bs HB hb; clear hb alK)
          go_ret2
          exact ⟨_, er, ur (Kd.aZ aph.out (fun _ hk => trivial)), ul HB.out⟩
         ·
          replace H := nl H; obtain ⟨apj, H⟩ := H
          obtain ⟨aDJ, aiO⟩ := nm (dW ++ [a0.extract (eH : Int).toNat (sV : Int).toNat])
          rw [← aiO.out] at H
          have H' := ak H; clear H
          go_wp2_with ((with_reducible refine dZ (b := .append) (xs := #[.tmp 65, .tmp 67]) rfl ?_); (try (refine lK (by rfl) ?_; dsimp only)); at_builtin; refine aP 65 67 Kd.string 23 9 (.string ⟨#[]⟩) 16 Tryz.underlying23 info9 HB (ur iP.out) aiO (by have := apj.out; omega) ?_; intro aDK w51 ho hb hg hat; have apk := ak (ho); replace HB := ak (hb); clear ho hb hg hat iP)
          go_roundg k2
          case measure => exact kl
          case rel => exact ⟨_, _, rs, H', ⟨kl⟩, ⟨ur apk.out⟩, ⟨ul HB.out⟩⟩
   ·
    obtain ⟨rfl, rfl⟩ := s2 H
    go_wp2
    go_ret2
    exact ⟨_, er, ur iP.out, ul HB.out⟩
def kS.f (k : Nat) (a0 : ByteArray) : Option (Bool) := (bT.f k a0).bind fun apl => (if apl = true then ((iD.f a0).bind fun apm => (some (apm.toList == a0.toList))) else (some false))
theorem kS.calls {k : Nat} {a0 : ByteArray} {r : Bool} {w : World} (h : kS.f k a0 = some r) :
  Calls Tryz.prog 200 #[.string a0] w fun e w' => e = .returned (.bool r) ∧ Below w.heap.size w w' := by
 have HB := ak (Below.refl w.heap.size w)
 unfold kS.f at h; have H := h
 clear h
 replace H := bd H; obtain ⟨apl, A2, H⟩ := H; replace H := sb H
 rcases H with ⟨rfl, H⟩ | ⟨rfl, H⟩
 ·
  replace H := bd H; obtain ⟨apm, A4, H⟩ := H
  obtain rfl := s1 H
  go_enter Tryz.func200, Tryz.ntmps200
  go_wp2_with (first | (refine gA Tryz.func184 (bT.calls A2.out) ?_; intro nd) | (go_at_call 180; refine mB (iD.calls A4.out) ?_; intro w5 hb; replace HB := bs HB hb; clear hb))
  go_ret
  exact ⟨er, ul HB.out⟩
 ·
  obtain rfl := s1 H
  go_enter Tryz.func200, Tryz.ntmps200
  go_wp2_with (refine gA Tryz.func184 (bT.calls A2.out) ?_; intro nd)
  go_ret
  exact ⟨er, ul HB.out⟩
def rJ.f (k : Nat) (a0 : ByteArray) : Option (Bool) := (aQ.f k a0).bind fun apn => (if apn = true then (some (decide ((a0.size : Int) ≤ 40))) else (some false))
theorem rJ.calls {k : Nat} {a0 : ByteArray} {r : Bool} {w : World} (h : rJ.f k a0 = some r) :
  Calls Tryz.prog 201 #[.string a0] w fun e w' => e = .returned (.bool r) ∧ dS w w' := by
 unfold rJ.f at h; have H := h
 clear h
 replace H := bd H; obtain ⟨apn, A2, H⟩ := H; replace H := sb H
 rcases H with ⟨rfl, H⟩ | ⟨rfl, H⟩
 ·
  obtain rfl := s1 H
  go_enter Tryz.func201, Tryz.ntmps201
  go_wp2_with (refine gA Tryz.func159 (aQ.calls A2.out) ?_; intro nd)
  go_ret
  exact ⟨rs, dn⟩
 ·
  obtain rfl := s1 H
  go_enter Tryz.func201, Tryz.ntmps201
  go_wp2_with (refine gA Tryz.func159 (aQ.calls A2.out) ?_; intro nd)
  go_ret
  exact ⟨rs, dn⟩
mutual
def dY.l0 : Nat → ByteArray → Int → Option (Bool)
 | 0, _, _ => none
 | k + 1, x0, x3 => if x3 < (x0.size : Int) then (dY.j1 k x0 x3 (decide (x3 ≤ 40))) else (dY.j1 k x0 x3 false)
def dY.j1 : Nat → ByteArray → Int → Bool → Option (Bool)
 | 0, _, _, _ => none
 | k + 1, x0, x3, x11 => if x11 = true then (if 0 ≤ x3 then (if x3 < (x0.size : Int) then ((jv.f k (bt x0 x3)).bind fun apo => (if apo = true then (dY.l0 k x0 (wrap64 (x3 + 1))) else (some false))) else (none)) else (none)) else (if (x0.size : Int) ≥ 1 then (some (decide ((x0.size : Int) ≤ 40))) else (some false))
end
def dY.f (k : Nat) (a0 : ByteArray) : Option (Bool) := dY.l0 k a0 0
theorem dY.calls {k : Nat} {a0 : ByteArray} {r : Bool} {w : World} (h : dY.f k a0 = some r) :
  Calls Tryz.prog 214 #[.string a0] w fun e w' => e = .returned (.bool r) ∧ dS w w' := by
 unfold dY.f at h; have H := h
 clear h
 have H' := ak H; clear H
 go_enter Tryz.func214, Tryz.ntmps214
 go_wp2
 go_loopg [3] k (fun kq v3 w' => ∃ (dM : Int), v3 = .int .i64 dM ∧ ah (dY.l0 kq a0 dM = some r) ∧ ah (kq ≤ k) ∧ dS w w')
 case atStart => exact ⟨_, rs, H', ⟨Nat.le_refl _⟩, dn⟩
 case round =>
  clear H'
  obtain ⟨dM, rfl, HA, xu, ⟨m1, rfl⟩⟩ := hrel
  cases gk with
  | zero => exact zz HA.out
  | succ k1 =>
   obtain ⟨H⟩ := HA
   simp only [dY.l0] at H
   have HC2 := ak H
   clear H
   go_upto_region 2 with (fail)
   go_cut [11] (fun v11 wc => ∃ (kq : Nat) (uU : Bool), v11 = .bool uU ∧ ah (dY.j1 kq a0 dM uU = some r) ∧ ah (kq ≤ k1) ∧ dS w wc)
   case first =>
    have H := HC2.out
    clear HC2
    replace H := sd H
    rcases H with ⟨iQ, H⟩ | ⟨iQ, H⟩
    ·
     (first | rw [iQ] | (simp only [dU, fU]; rw [iQ]) | skip)
     have H' := ak H; clear H
     go_wp2
     go_meet
     case rel => exact ⟨_, _, rs, H', ⟨kl⟩, dn⟩
    ·
     (first | rw [iQ] | (simp only [dU, fU]; rw [iQ]) | skip)
     have H' := ak H; clear H
     go_wp2
     go_meet
     case rel => exact ⟨_, _, rs, H', ⟨kl⟩, dn⟩
   case rest =>
    clear HC2
    obtain ⟨kq, uU, rfl, HA, HJ1, ⟨mc1, rfl⟩⟩ := hcut
    cases kq with
    | zero => exact zz HA.out
    | succ NI =>
     obtain ⟨H⟩ := HA
     simp only [dY.j1] at H
     replace H := sb H
     rcases H with ⟨rfl, H⟩ | ⟨rfl, H⟩
     ·
      replace H := oM H; obtain ⟨nR, H⟩ := H; replace H := oM H; obtain ⟨nT, H⟩ := H; replace H := bd H; obtain ⟨apo, A8, H⟩ := H; replace H := sb H
      rcases H with ⟨rfl, H⟩ | ⟨rfl, H⟩
      ·
       have H' := ak H; clear H
       obtain ⟨p7, q7, hx7⟩ := bx a0 dM
       go_wp2_with (refine gA Tryz.func199 (jv.calls A8.out) ?_; intro nd)
       go_roundg NI
       case measure => exact kl
       case rel => exact ⟨_, rs, H', ⟨kl⟩, dn⟩
      ·
       obtain rfl := s1 H
       obtain ⟨p7, q7, hx7⟩ := bx a0 dM
       go_wp2_with (refine gA Tryz.func199 (jv.calls A8.out) ?_; intro nd)
       go_ret
       exact ⟨rs, dn⟩
     ·
      replace H := sp H
      rcases H with ⟨c10, H⟩ | ⟨c10, H⟩
      ·
       have oC : decide (1 ≤ (a0.size : Int)) = true := decide_eq_true c10
       have sK : decide (1 ≤ a0.size) = true := decide_eq_true (by omega)
       clear c10
       obtain rfl := s1 H
       go_wp2
       go_ret
       exact ⟨rs, dn⟩
      ·
       have oC : decide (1 ≤ (a0.size : Int)) = false := decide_eq_false c10
       have sK : decide (1 ≤ a0.size) = false := decide_eq_false (by omega)
       clear c10
       obtain rfl := s1 H
       go_wp2
       go_ret
       exact ⟨rs, dn⟩
end Go.Proofs.YtncdadcmghglkaaGreatDoor.PFnCountParts
