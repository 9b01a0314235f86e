/- Printed walks; conditions: those in each statement. -/
import Derived.Test.YtncdadcmghglkaaGreatDoorVFnPartLinesQt
import Derived.Test.YtncdadcmghglkaaGreatDoorVFnPartLinesYt
import Derived.Test.YtncdadcmghglkaaGreatDoorPFnPartLinesx0
import Derived.Test.YtncdadcmghglkaaGreatDoorPFnPartLinesx2
import Derived.Test.YtncdadcmghglkaaGreatDoorPFnPartLinesx21
import Derived.Test.YtncdadcmghglkaaGreatDoorPFnPartLinesx1
-- short
-- dense
-- sq
-- sq2
namespace Go.Proofs.YtncdadcmghglkaaGreatDoor.PFnPartLines
open Go.RowKit Go.Proofs.YtncdadcmghglkaaGreatDoor.X Go.Proofs.YtncdadcmghglkaaGreatDoorW.bI Go.Proofs.YtncdadcmghglkaaGreatDoorW.iy Go.Proofs.YtncdadcmghglkaaGreatDoorW.iZ
attribute [local go_sem] kZ lg nK nM jW jX lq lu   -- for this text's walks alone
set_option linter.unusedVariables false
set_option maxHeartbeats 8000000
set_option maxRecDepth 100000
set_option linter.unusedSimpArgs false
def jF.l0 : Nat → List (gX) → ByteArray → Int → Option (Int)
 | 0, _, _, _ => none
 | k + 1, x0, x1, x5 => if x5 < (x0.length : Int) then (if 0 ≤ x5 then ((qx.f ((fC x0 x5).f0) x1).bind fun ar4 => (if ar4 = true then (some x5) else (jF.l0 k x0 x1 (wrap64 (x5 + 1))))) else (none)) else (some (-1))
def jF.f (k : Nat) (l0 : List (gX)) (a1 : ByteArray) : Option (Int) := jF.l0 k l0 a1 0
theorem jF.calls {k c0 : Nat} {A0 : Option Addr} {l0 : List (gX)} {a1 : ByteArray} {r : Int} {w : World} (hr0 : Kd.C qI w A0 l0.length l0) (hc0 : l0.length ≤ c0) (h : jF.f k l0 a1 = some r) :
  Calls Tryz.prog 177 #[.slice A0 l0.length c0, .string a1] w fun e w' => e = .returned (.int .i64 r) ∧ Below w.heap.size w w' := by
 have HR0 := ak hr0
 have xE := ak hc0
 clear hr0 hc0
 have HB := ak (Below.refl w.heap.size w)
 unfold jF.f at h; have H := h
 clear h
 have H' := ak H; clear H
 go_enter Tryz.func177, Tryz.ntmps177
 go_wp2
 go_loopg [5] k (fun kq v5 w' => ∃ (dM : Int), v5 = .int .i64 dM ∧ ah (jF.l0 kq l0 a1 dM = some r) ∧ ah (kq ≤ k) ∧ ah (Below w.heap.size w w'))
 case atStart => exact ⟨_, rs, H', ⟨Nat.le_refl _⟩, ⟨ul HB.out⟩⟩
 case round =>
  clear H'
  obtain ⟨dM, rfl, HA, xI, HB⟩ := hrel
  cases gk with
  | zero => exact zz HA.out
  | succ k1 =>
   obtain ⟨H⟩ := HA
   simp only [jF.l0] at H
   replace H := sd H
   rcases H with ⟨iO, H⟩ | ⟨iO, H⟩
   ·
    replace H := oq H; obtain ⟨qR, H⟩ := H; replace H := bd H; obtain ⟨ar4, A5, H⟩ := H; replace H := sb H
    rcases H with ⟨rfl, H⟩ | ⟨rfl, H⟩
    ·
     obtain rfl := s1 H
     have XF := zi dM
     have XG := zj dM l0.length
     obtain ⟨ar5, amu, Jy, Jz⟩ := qL HR0.out dM XF XG
     cases amu
     replace Jy := cl HB.out Jy
     replace Jz := cl HB.out Jz
     replace XF := eq_true XF
     replace XG := eq_true XG
     go_wp2_with (refine gB Tryz.func197 (qx.calls A5.out) ?_; intro w7 hb; replace HB := bs HB hb; clear hb)
     go_ret
     exact ⟨er, ul HB.out⟩
    ·
     have H' := ak H; clear H
     have XF := zi dM
     have XG := zj dM l0.length
     obtain ⟨ar5, amu, Jy, Jz⟩ := qL HR0.out dM XF XG
     cases amu
     replace Jy := cl HB.out Jy
     replace Jz := cl HB.out Jz
     replace XF := eq_true XF
     replace XG := eq_true XG
     go_wp2_with (refine gB Tryz.func197 (qx.calls A5.out) ?_; intro w8 hb; replace HB := bs HB hb; clear hb)
     go_roundg k1
     case measure => exact kl
     case rel => exact ⟨_, rs, H', ⟨kl⟩, ⟨ul HB.out⟩⟩
   ·
    obtain rfl := s1 H
    go_wp2
    go_ret
    exact ⟨er, ul HB.out⟩
def jL.f (k : Nat) (l0 : List (gX)) (a1 : ByteArray) : Option (ByteArray × Bool) := (jF.f k l0 a1).bind fun VH => (if VH < 0 then (some ((⟨#[]⟩ : ByteArray), false)) else (if 0 ≤ VH then (if VH < (l0.length : Int) then (some ((fC l0 VH).f1, true)) else (none)) else (none)))
theorem jL.calls {k c0 : Nat} {A0 : Option Addr} {l0 : List (gX)} {a1 r1 : ByteArray} {r2 : Bool} {w : World} (hr0 : Kd.C qI w A0 l0.length l0) (hc0 : l0.length ≤ c0) (h : jL.f k l0 a1 = some (r1, r2)) :
  Calls Tryz.prog 154 #[.slice A0 l0.length c0, .string a1] w fun e w' => e = .returned (.tuple #[.string r1, .bool r2]) ∧ Below w.heap.size w w' := by
 have HR0 := ak hr0
 have xE := ak hc0
 clear hr0 hc0
 have HB := ak (Below.refl w.heap.size w)
 unfold jL.f at h; have H := h
 clear h
 replace H := bd H; obtain ⟨VH, A3, H⟩ := H; replace H := sd H
 rcases H with ⟨qR, H⟩ | ⟨qR, H⟩
 ·
  obtain ⟨rfl, rfl⟩ := s2 H
  go_enter Tryz.func154, Tryz.ntmps154
  go_wp2_with (refine gB Tryz.func177 (jF.calls (cu HR0.out) xE.out A3.out) ?_; intro w5 hb; replace HB := bs HB hb; clear hb)
  go_ret2
  exact ⟨er, ul HB.out⟩
 ·
  replace H := oq H; obtain ⟨nN, H⟩ := H; replace H := oq H; obtain ⟨rF, H⟩ := H
  obtain ⟨rfl, rfl⟩ := s2 H
  go_enter Tryz.func154, Tryz.ntmps154
  go_wp2_with (refine gB Tryz.func177 (jF.calls (cu HR0.out) xE.out A3.out) ?_; intro w8 hb; replace HB := bs HB hb; clear hb; have amv : 0 ≤ (VH : Int) := of_decide_eq_true (by assumption); have amw : VH < (l0.length : Int) := of_decide_eq_true (by assumption); obtain ⟨aBF, ayY, T_, Ua⟩ := qL HR0.out VH amv amw; cases ayY; replace T_ := (HB.out.cell (World.block_lt_of_cell? w _ T_)).trans T_; replace Ua := (HB.out.cell (World.block_lt_of_cell? w _ Ua)).trans Ua; replace amv := eq_true amv; replace amw := eq_true amw)
  go_ret2
  exact ⟨er, ul HB.out⟩
def gy.l0 : Nat → ByteArray → ByteArray → Int → Option (ByteArray × Int)
 | 0, _, _, _ => none
 | k + 1, x0, x6, x7 => if x7 < (x0.size : Int) then (if 0 ≤ x7 then (if (bt x0 x7) = 34 then (some (x6, wrap64 (x7 + 1))) else (if (bt x0 x7) = 92 then (if (wrap64 (x7 + 1)) = (x0.size : Int) then (some ((⟨#[]⟩ : ByteArray), (-1))) else (if 0 ≤ (wrap64 (x7 + 1)) then (if (wrap64 (x7 + 1)) ≤ (wrap64 ((wrap64 (x7 + 1)) + 1)) then (if (wrap64 ((wrap64 (x7 + 1)) + 1)) ≤ (x0.size : Int) then (if x6.size + (x0.extract ((wrap64 (x7 + 1)) : Int).toNat ((wrap64 ((wrap64 (x7 + 1)) + 1)) : Int).toNat).size ≤ 9223372036854775807 then (gy.l0 k x0 (x6 ++ (x0.extract ((wrap64 (x7 + 1)) : Int).toNat ((wrap64 ((wrap64 (x7 + 1)) + 1)) : Int).toNat)) (wrap64 ((wrap64 (x7 + 1)) + 1))) else (none)) else (none)) else (none)) else (none))) else (if x7 ≤ (wrap64 (x7 + 1)) then (if (wrap64 (x7 + 1)) ≤ (x0.size : Int) then (if x6.size + (x0.extract (x7 : Int).toNat ((wrap64 (x7 + 1)) : Int).toNat).size ≤ 9223372036854775807 then (gy.l0 k x0 (x6 ++ (x0.extract (x7 : Int).toNat ((wrap64 (x7 + 1)) : Int).toNat)) (wrap64 (x7 + 1))) else (none)) else (none)) else (none)))) else (none)) else (some ((⟨#[]⟩ : ByteArray), (-1)))
def gy.f (k : Nat) (a0 : ByteArray) (a1 : Int) : Option (ByteArray × Int) := gy.l0 k a0 (⟨#[]⟩ : ByteArray) (wrap64 (a1 + 1))
theorem gy.calls {k : Nat} {a0 r1 : ByteArray} {a1 r2 : Int} {w : World} (h : gy.f k a0 a1 = some (r1, r2)) :
  Calls Tryz.prog 198 #[.string a0, .int .i64 a1] w fun e w' => e = .returned (.tuple #[.string r1, .int .i64 r2]) ∧ dP w w' := by
 unfold gy.f at h; have H := h
 clear h
 have H' := ak H; clear H
 go_enter Tryz.func198, Tryz.ntmps198
 go_wp2
 go_loopg [6, 7] k (fun kq v6 v7 w' => ∃ (jy : ByteArray) (ru : Int), v6 = .string jy ∧ v7 = .int .i64 ru ∧ ah (gy.l0 kq a0 jy ru = some (r1, r2)) ∧ ah (kq ≤ k) ∧ dP w w')
 case atStart => exact ⟨_, _, rs, rs, H', ⟨Nat.le_refl _⟩, dn⟩
 case round =>
  clear H'
  obtain ⟨jy, ru, rfl, rfl, HA, xI, ⟨m1, rfl⟩⟩ := hrel
  cases gk with
  | zero => exact zz HA.out
  | succ k1 =>
   obtain ⟨H⟩ := HA
   simp only [gy.l0] at H
   replace H := sd H
   rcases H with ⟨iO, H⟩ | ⟨iO, H⟩
   ·
    replace H := oq H; obtain ⟨qR, H⟩ := H; replace H := sq H
    rcases H with ⟨nN, wR, H⟩ | ⟨c6, nN, wR, H⟩
    ·
     obtain ⟨rfl, rfl⟩ := s2 H
     obtain ⟨p5, q5, hx5⟩ := bx a0 ru
     go_wp2
     go_ret2
     exact ⟨rs, dn⟩
    ·
     replace H := sq H
     rcases H with ⟨tX, Eu, H⟩ | ⟨c8, tX, Eu, H⟩
     ·
      replace H := sq H
      rcases H with ⟨xY, EN, H⟩ | ⟨c9, xY, EN, H⟩
      ·
       obtain ⟨rfl, rfl⟩ := s2 H
       obtain ⟨p5, q5, hx5⟩ := bx a0 ru
       obtain ⟨p7, q7, hx7⟩ := bx a0 ru
       go_wp2
       go_ret2
       exact ⟨rs, dn⟩
      ·
       obtain ⟨JA, Pz⟩ : ∃ j_ : Int, (wrap64 (ru + 1)) = j_ := ⟨_, rfl⟩
       replace H : (if 0 ≤ (JA) then (if (JA) ≤ (wrap64 ((JA) + 1)) then (if (wrap64 ((JA) + 1)) ≤ (a0.size : Int) then (if jy.size + (a0.extract ((JA) : Int).toNat ((wrap64 ((JA) + 1)) : Int).toNat).size ≤ 9223372036854775807 then (gy.l0 k1 a0 (jy ++ (a0.extract ((JA) : Int).toNat ((wrap64 ((JA) + 1)) : Int).toNat)) (wrap64 ((JA) + 1))) else (none)) else (none)) else (none)) else (none)) = some (r1, r2) := by first | (rw [Pz] at H; exact H) | (simp only [Pz] at H ⊢; exact H)
       (try rw [Pz] at xY)
       (try rw [Pz] at EN)
       have ayZ : (IntKind.i64.wrap (ru + 1)) = JA := (iK _).trans Pz
       replace H := yL H; obtain ⟨t_, D7, H⟩ := H; replace H := nn H; obtain ⟨c12, H⟩ := H
       have wU := eq_true c12
       have CP := decide_eq_true c12
       replace H := nn H; obtain ⟨c13, H⟩ := H
       have vw := eq_true c13
       have zy := decide_eq_true c13
       replace H := nn H; obtain ⟨c14, H⟩ := H
       have sH := eq_true c14
       have wS := decide_eq_true c14
       try have aBG : (9223372036854775807 < jy.size + ((a0.extract ((JA) : Int).toNat ((wrap64 ((JA) + 1)) : Int).toNat).size)) = False := by have h_ := c14; simp only [ByteArray.size_append, ByteArray.size_extract] at h_; refine eq_false ?_; simp only [decide_eq_true_eq] at *; omega
       try have arU : (9223372036854775807 < jy.size + (a0.extract ((JA) : Int).toNat ((wrap64 ((JA) + 1)) : Int).toNat).size) = False := eq_false (Nat.not_lt.2 c14)
       have H' := ak H; clear H
       obtain ⟨p5, q5, hx5⟩ := bx a0 ru
       obtain ⟨p7, q7, hx7⟩ := bx a0 ru
       go_wp2
       go_roundg k1
       case measure => exact kl
       case rel => exact ⟨_, _, (by first | rfl | (simp; done) | (simp only [← Pz] <;> (first | rfl | simp)) | (simp [*]; done)), (by first | rfl | (simp; done) | (simp only [← Pz] <;> (first | rfl | simp)) | (simp [*]; done)), H', ⟨kl⟩, dn⟩
     ·
      have vC := eq_true (of_decide_eq_true (by assumption) : 0 ≤ ru)
      replace H := nn H; obtain ⟨c16, H⟩ := H
      have zA := eq_true c16
      have Jw := decide_eq_true c16
      replace H := nn H; obtain ⟨c17, H⟩ := H
      have sJ := eq_true c17
      have Nb := decide_eq_true c17
      replace H := nn H; obtain ⟨c18, H⟩ := H
      have vF := eq_true c18
      have I9 := decide_eq_true c18
      try have aBH : (9223372036854775807 < jy.size + ((a0.extract (ru : Int).toNat ((wrap64 (ru + 1)) : Int).toNat).size)) = False := by have h_ := c18; simp only [ByteArray.size_append, ByteArray.size_extract] at h_; refine eq_false ?_; simp only [decide_eq_true_eq] at *; omega
      try have ZA : (9223372036854775807 < jy.size + (a0.extract (ru : Int).toNat ((wrap64 (ru + 1)) : Int).toNat).size) = False := eq_false (Nat.not_lt.2 c18)
      have H' := ak H; clear H
      obtain ⟨p5, q5, hx5⟩ := bx a0 ru
      obtain ⟨p7, q7, hx7⟩ := bx a0 ru
      go_wp2
      go_roundg k1
      case measure => exact kl
      case rel => exact ⟨_, _, rs, rs, H', ⟨kl⟩, dn⟩
   ·
    obtain ⟨rfl, rfl⟩ := s2 H
    go_wp2
    go_ret2
    exact ⟨rs, dn⟩
def ji.l0 : Nat → ByteArray → Int → Int → Option (ByteArray × ByteArray × Bool)
 | 0, _, _, _ => none
 | k + 1, x0, x1, x7 => if x7 < (x0.size : Int) then (if 0 ≤ x7 then (if (bt x0 x7) = 34 then ((gy.f k x0 x7).bind fun ajn => (if ajn.2 < 0 then (some (x0, (⟨#[]⟩ : ByteArray), false)) else (ji.l0 k x0 x1 ajn.2))) else (if (bt x0 x7) = x1 then (if x7 ≤ (x0.size : Int) then (if 0 ≤ (wrap64 (x7 + 1)) then (if (wrap64 (x7 + 1)) ≤ (x0.size : Int) then (some (x0.extract 0 (x7 : Int).toNat, x0.extract ((wrap64 (x7 + 1)) : Int).toNat x0.size, true)) else (none)) else (none)) else (none)) else (ji.l0 k x0 x1 (wrap64 (x7 + 1))))) else (none)) else (some (x0, (⟨#[]⟩ : ByteArray), false))
def ji.f (k : Nat) (a0 : ByteArray) (a1 : Int) : Option (ByteArray × ByteArray × Bool) := ji.l0 k a0 a1 0
theorem ji.calls {k : Nat} {a0 r1 r2 : ByteArray} {a1 : Int} {r3 : Bool} {w : World} (h : ji.f k a0 a1 = some (r1, r2, r3)) :
  Calls Tryz.prog 178 #[.string a0, .int .u8 a1] w fun e w' => e = .returned (.tuple #[.string r1, .string r2, .bool r3]) ∧ dP w w' := by
 unfold ji.f at h; have H := h
 clear h
 have H' := ak H; clear H
 go_enter Tryz.func178, Tryz.ntmps178
 go_wp2
 repeat (go_quiet (fail); try go_wp2)
 go_loopg [7] k (fun kq v7 w' => ∃ (ru : Int), v7 = .int .i64 ru ∧ ah (ji.l0 kq a0 a1 ru = some (r1, r2, r3)) ∧ ah (kq ≤ k) ∧ dP w w')
 case atStart => exact ⟨_, rs, H', ⟨Nat.le_refl _⟩, dn⟩
 case round =>
  clear H'
  obtain ⟨ru, rfl, HA, xI, ⟨m1, rfl⟩⟩ := hrel
  cases gk with
  | zero => exact zz HA.out
  | succ k1 =>
   obtain ⟨H⟩ := HA
   simp only [ji.l0] at H
   replace H := sd H
   rcases H with ⟨iO, H⟩ | ⟨iO, H⟩
   ·
    replace H := oq H; obtain ⟨qR, H⟩ := H; replace H := sq H
    rcases H with ⟨nN, wR, H⟩ | ⟨c6, nN, wR, H⟩
    ·
     replace H := bd H
     obtain ⟨⟨aFB, aFC⟩, A7, H⟩ := H
     (try dsimp only at H)
     replace H := sd H
     rcases H with ⟨tX, H⟩ | ⟨tX, H⟩
     ·
      obtain ⟨rfl, rfl, rfl⟩ := s3 H
      obtain ⟨p5, q5, hx5⟩ := bx a0 ru
      go_wp2_with (go_at_call 198; refine mA (gy.calls A7.out) ?_; intro nd; (try exact dq))
      repeat (go_quiet ((go_at_call 198; refine mA (gy.calls A7.out) ?_; intro nd; (try exact dq))); try go_wp2_with (go_at_call 198; refine mA (gy.calls A7.out) ?_; intro nd; (try exact dq)))
      go_ret3
      exact ⟨rs, dn⟩
     ·
      have H' := ak H; clear H
      obtain ⟨p5, q5, hx5⟩ := bx a0 ru
      go_wp2_with (go_at_call 198; refine mA (gy.calls A7.out) ?_; intro nd; (try exact dq))
      repeat (go_quiet ((go_at_call 198; refine mA (gy.calls A7.out) ?_; intro nd; (try exact dq))); try go_wp2_with (go_at_call 198; refine mA (gy.calls A7.out) ?_; intro nd; (try exact dq)))
      go_roundg k1
      case measure => exact kl
      case rel => exact ⟨_, rs, H', ⟨kl⟩, dn⟩
    ·
     replace H := sq H
     rcases H with ⟨nY, rX, H⟩ | ⟨c10, nY, rX, H⟩
     ·
      have t_ := eq_true (of_decide_eq_true (by assumption) : 0 ≤ ru)
      replace H := yL H; obtain ⟨wU, CP, H⟩ := H
      obtain ⟨TM, G8⟩ : ∃ j_ : Int, (wrap64 (ru + 1)) = j_ := ⟨_, rfl⟩
      replace H : (if 0 ≤ (TM) then (if (TM) ≤ (a0.size : Int) then (some (a0.extract 0 (ru : Int).toNat, a0.extract ((TM) : Int).toNat a0.size, true)) else (none)) else (none)) = some (r1, r2, r3) := by first | (rw [G8] at H; exact H) | (simp only [G8] at H ⊢; exact H)
      have alQ : (IntKind.i64.wrap (ru + 1)) = TM := (iK _).trans G8
      replace H := yL H; obtain ⟨sH, wS, H⟩ := H; replace H := yL H; obtain ⟨vC, ER, H⟩ := H
      obtain ⟨rfl, rfl, rfl⟩ := s3 H
      obtain ⟨p5, q5, hx5⟩ := bx a0 ru
      obtain ⟨p9, q9, YO⟩ := bx a0 ru
      go_wp2
      repeat (go_quiet (fail); try go_wp2)
      go_ret3
      exact ⟨by first | rfl | (simp; done) | (simp only [← G8] <;> (first | rfl | simp)) | (simp [*]; done), dn⟩
     ·
      have H' := ak H; clear H
      obtain ⟨p5, q5, hx5⟩ := bx a0 ru
      obtain ⟨p9, q9, YO⟩ := bx a0 ru
      go_wp2
      repeat (go_quiet (fail); try go_wp2)
      go_roundg k1
      case measure => exact kl
      case rel => exact ⟨_, rs, H', ⟨kl⟩, dn⟩
   ·
    obtain ⟨rfl, rfl, rfl⟩ := s3 H
    go_wp2
    repeat (go_quiet (fail); try go_wp2)
    go_ret3
    exact ⟨rs, dn⟩
def jm.l0 : Nat → Int → Int → Option (Bool)
 | 0, _, _ => none
 | k + 1, x0, x3 => if x3 < 19 then (if 0 ≤ x3 then (if x0 = (bt (⟨#[33, 35, 36, 37, 38, 39, 42, 43, 45, 47, 61, 63, 94, 95, 96, 123, 124, 125, 126]⟩ : ByteArray) x3) then (some true) else (jm.l0 k x0 (wrap64 (x3 + 1)))) else (none)) else ((gJ.f x0).bind fun ar6 => (some ar6))
def jm.f (k : Nat) (a0 : Int) : Option (Bool) := jm.l0 k a0 0
theorem jm.calls {k : Nat} {a0 : Int} {r : Bool} {w : World} (h : jm.f k a0 = some r) :
  Calls Tryz.prog 199 #[.int .u8 a0] w fun e w' => e = .returned (.bool r) ∧ dP w w' := by
 unfold jm.f at h; have H := h
 clear h
 have H' := ak H; clear H
 go_enter Tryz.func199, Tryz.ntmps199
 go_wp2
 go_loopg [3] k (fun kq v3 w' => ∃ (dW : Int), v3 = .int .i64 dW ∧ ah (jm.l0 kq a0 dW = some r) ∧ ah (kq ≤ k) ∧ dP w w')
 case atStart => exact ⟨_, rs, H', ⟨Nat.le_refl _⟩, dn⟩
 case round =>
  clear H'
  obtain ⟨dW, rfl, HA, xI, ⟨m1, rfl⟩⟩ := hrel
  cases gk with
  | zero => exact zz HA.out
  | succ k1 =>
   obtain ⟨H⟩ := HA
   simp only [jm.l0] at H
   replace H := sd H
   rcases H with ⟨ou, H⟩ | ⟨ou, H⟩
   ·
    replace H := oq H; obtain ⟨iO, H⟩ := H; replace H := sq H
    rcases H with ⟨mW, IY, H⟩ | ⟨c5, mW, IY, H⟩
    ·
     obtain rfl := s1 H
     have p4 := zi dW
     have q4 := zj dW 19
     have hx4 := vH (⟨#[33, 35, 36, 37, 38, 39, 42, 43, 45, 47, 61, 63, 94, 95, 96, 123, 124, 125, 126]⟩ : ByteArray) dW
     replace p4 := eq_true p4
     replace q4 := eq_true q4
     go_wp2
     go_ret
     exact ⟨rs, dn⟩
    ·
     have H' := ak H; clear H
     have p4 := zi dW
     have q4 := zj dW 19
     have hx4 := vH (⟨#[33, 35, 36, 37, 38, 39, 42, 43, 45, 47, 61, 63, 94, 95, 96, 123, 124, 125, 126]⟩ : ByteArray) dW
     replace p4 := eq_true p4
     replace q4 := eq_true q4
     go_wp2
     go_roundg k1
     case measure => exact kl
     case rel => exact ⟨_, rs, H', ⟨kl⟩, dn⟩
   ·
    replace H := bd H; obtain ⟨ar6, A6, H⟩ := H
    obtain rfl := s1 H
    go_wp2_with (refine gA Tryz.func183 (gJ.calls A6.out) ?_; intro nd)
    go_ret
    exact ⟨rs, dn⟩
mutual
def fF.l0 : Nat → ByteArray → List ByteArray → Int → Option (List ByteArray × Bool)
 | 0, _, _, _ => none
 | k + 1, x0, x4, x5 => if x5 < (x0.size : Int) then (if 0 ≤ x5 then (if (bt x0 x5) = 32 then (fF.l0 k x0 x4 (wrap64 (x5 + 1))) else (if (bt x0 x5) = 34 then ((gy.f k x0 x5).bind fun JB => (if JB.2 < 0 then (some ((([] : List ByteArray)), false)) else (if JB.2 = x5 then (some ((([] : List ByteArray)), false)) else (if JB.2 < (x0.size : Int) then (if 0 ≤ JB.2 then (if (bt x0 JB.2) = 32 then (if x4.length < 8796093022208 then (fF.l0 k x0 (x4 ++ [JB.1]) JB.2) else (none)) else (some ((([] : List ByteArray)), false))) else (none)) else (if x4.length < 8796093022208 then (fF.l0 k x0 (x4 ++ [JB.1]) JB.2) else (none)))))) else (fF.l1 k x0 x4 x5 x5))) else (none)) else (some (x4, true))
def fF.l1 : Nat → ByteArray → List ByteArray → Int → Int → Option (List ByteArray × Bool)
 | 0, _, _, _, _ => none
 | k + 1, x0, x4, x5, x6 => if x5 < (x0.size : Int) then (if 0 ≤ x5 then ((jm.f k (bt x0 x5)).bind fun ar7 => (if ar7 = true then (fF.l1 k x0 x4 (wrap64 (x5 + 1)) x6) else (if 0 ≤ x6 then (if x6 ≤ x5 then (if x5 ≤ (x0.size : Int) then (if x5 = x6 then (some ((([] : List ByteArray)), false)) else (if (bt x0 x5) = 32 then (if x4.length < 8796093022208 then (fF.l0 k x0 (x4 ++ [x0.extract (x6 : Int).toNat (x5 : Int).toNat]) x5) else (none)) else (some ((([] : List ByteArray)), false)))) else (none)) else (none)) else (none)))) else (none)) else (if 0 ≤ x6 then (if x6 ≤ x5 then (if x5 ≤ (x0.size : Int) then (if x5 = x6 then (some ((([] : List ByteArray)), false)) else (if x4.length < 8796093022208 then (fF.l0 k x0 (x4 ++ [x0.extract (x6 : Int).toNat (x5 : Int).toNat]) x5) else (none))) else (none)) else (none)) else (none))
end
def fF.f (k : Nat) (a0 : ByteArray) : Option (List ByteArray × Bool) := fF.l0 k a0 (([] : List ByteArray)) 0
theorem fF.calls {k : Nat} {a0 : ByteArray} {r1 : List ByteArray} {r2 : Bool} {w : World} (h : fF.f k a0 = some (r1, r2)) :
  Calls Tryz.prog 181 #[.string a0] w fun e w' => ∃ oV : Value, e = .returned (.tuple #[oV, .bool r2]) ∧ Kd.R Kd.string 9 w' w.heap.size (fun _ => True) oV r1 ∧ Below w.heap.size w w' := by
 have HB := ak (Below.refl w.heap.size w)
 unfold fF.f at h; have H := h
 clear h
 obtain ⟨aFD, ajo⟩ := nm ([] : List ByteArray)
 rw [← ajo.out] at H
 have H' := ak H; clear H
 go_enter Tryz.func181, Tryz.ntmps181
 go_wp2_with (refine gG 8 ?_; refine Gu 8 Kd.string 9 ajo ?_; intro aFE w2 ho3 hb; have ar8 := ak (Kd.aC ho3 (aj (ul HB.out))); replace HB := bs HB hb; clear hb ho3)
 go_loopg [4, 5] k (fun kq v4 v5 w' => ∃ (eP : List ByteArray) (dM : Int), v5 = .int .i64 dM ∧ ah (fF.l0 kq a0 eP dM = some (r1, r2)) ∧ ah (kq ≤ k) ∧ ah (Kd.R Kd.string 9 w' w.heap.size (fun _ => True) v4 eP) ∧ ah (Below w.heap.size w w'))
 case atStart => exact ⟨_, _, rs, H', ⟨Nat.le_refl _⟩, ⟨ur ar8.out⟩, ⟨ul HB.out⟩⟩
 case round =>
  clear H'
  obtain ⟨eP, dM, rfl, HA, xI, dO, HB⟩ := hrel
  cases gk with
  | zero => exact zz HA.out
  | succ k1 =>
   obtain ⟨H⟩ := HA
   simp only [fF.l0] at H
   replace H := sd H
   rcases H with ⟨qR, H⟩ | ⟨qR, H⟩
   ·
    replace H := oq H; obtain ⟨mW, H⟩ := H; replace H := sq H
    rcases H with ⟨rF, HY, H⟩ | ⟨c7, rF, HY, H⟩
    ·
     have H' := ak H; clear H
     obtain ⟨p6, q6, hx6⟩ := bx a0 dM
     go_wp2
     go_roundg k1
     case measure => exact kl
     case rel => exact ⟨_, _, rs, H', ⟨kl⟩, ⟨ur dO.out⟩, ⟨ul HB.out⟩⟩
    ·
     replace H := sq H
     rcases H with ⟨xY, EN, H⟩ | ⟨c9, xY, EN, H⟩
     ·
      replace H := bd H
      obtain ⟨⟨ar9, abC⟩, WV, H⟩ := H
      (try dsimp only at H)
      replace H := sd H
      rcases H with ⟨t_, H⟩ | ⟨t_, H⟩
      ·
       obtain ⟨aFF, ajp⟩ := nm ([] : List ByteArray)
       rw [← ajp.out] at H
       obtain ⟨rfl, rfl⟩ := s2 H
       obtain ⟨p6, q6, hx6⟩ := bx a0 dM
       obtain ⟨p8, q8, hx8⟩ := bx a0 dM
       go_wp2_with (first | (refine gA Tryz.func198 (gy.calls WV.out) ?_; intro nd) | (refine gG 32 ?_; refine Gu 32 Kd.string 9 ajp ?_; intro aFG w12 Ub hb; have ar_ := ak (Kd.aC (Kd.dR Ub (Kd.jh (ur dO.out))) (aj (ul HB.out))); replace dO := ak (Kd.bH (ur dO.out) (Kd.bZ Ub) hb); replace HB := bs HB hb; clear hb Ub))
       go_ret2
       exact ⟨_, er, ur (Kd.aY ar_.out (fun _ hk => trivial)), ul HB.out⟩
      ·
       replace H := sq H
       rcases H with ⟨sH, wS, H⟩ | ⟨c14, sH, wS, H⟩
       ·
        obtain ⟨aFH, ajq⟩ := nm ([] : List ByteArray)
        rw [← ajq.out] at H
        obtain ⟨rfl, rfl⟩ := s2 H
        obtain ⟨p6, q6, hx6⟩ := bx a0 dM
        obtain ⟨p8, q8, hx8⟩ := bx a0 dM
        go_wp2_with (first | (refine gA Tryz.func198 (gy.calls WV.out) ?_; intro nd) | (refine gG 64 ?_; refine Gu 64 Kd.string 9 ajq ?_; intro aFI w15 amx hb; have asa := ak (Kd.aC (Kd.dR amx (Kd.jh (ur dO.out))) (aj (ul HB.out))); replace dO := ak (Kd.bH (ur dO.out) (Kd.bZ amx) hb); replace HB := bs HB hb; clear hb amx))
        go_ret2
        exact ⟨_, er, ur (Kd.aY asa.out (fun _ hk => trivial)), ul HB.out⟩
       ·
        replace H := sd H
        rcases H with ⟨sJ, H⟩ | ⟨sJ, H⟩
        ·
         replace H := oq H; obtain ⟨vF, H⟩ := H; replace H := sq H
         rcases H with ⟨Q_, U7, H⟩ | ⟨c20, Q_, U7, H⟩
         ·
          replace H := nl H; obtain ⟨Vw, H⟩ := H
          obtain ⟨aFJ, ajr⟩ := nm (eP ++ [ar9])
          rw [← ajr.out] at H
          have H' := ak H; clear H
          obtain ⟨p6, q6, hx6⟩ := bx a0 dM
          obtain ⟨p8, q8, hx8⟩ := bx a0 dM
          go_wp2_with (first | (refine gA Tryz.func198 (gy.calls WV.out) ?_; intro nd; have p19 : 0 ≤ (abC : Int) := of_decide_eq_true (by assumption); have q19 : abC < (a0.size : Int) := of_decide_eq_true (by assumption); have ay0 := vH a0 abC; replace p19 := eq_true p19; replace q19 := eq_true q19) | ((with_reducible refine eu (b := .append) (xs := #[.tmp 65, .tmp 67]) rfl ?_); (try (refine lD (by rfl) ?_; dsimp only)); at_builtin; refine aP 65 67 Kd.string 23 9 (.string ⟨#[]⟩) 16 Tryz.underlying23 info9 HB (ur dO.out) ajr (by have := Vw.out; omega) ?_; intro aFK YX ho hb hg hat; have asb := ak (ho); replace HB := ak (hb); clear ho hb hg hat dO))
          go_roundg k1
          case measure => exact kl
          case rel => exact ⟨_, _, rs, H', ⟨kl⟩, ⟨ur asb.out⟩, ⟨ul HB.out⟩⟩
         ·
          obtain ⟨aFL, ajs⟩ := nm ([] : List ByteArray)
          rw [← ajs.out] at H
          obtain ⟨rfl, rfl⟩ := s2 H
          obtain ⟨p6, q6, hx6⟩ := bx a0 dM
          obtain ⟨p8, q8, hx8⟩ := bx a0 dM
          go_wp2_with (first | (refine gA Tryz.func198 (gy.calls WV.out) ?_; intro nd; have p19 : 0 ≤ (abC : Int) := of_decide_eq_true (by assumption); have q19 : abC < (a0.size : Int) := of_decide_eq_true (by assumption); have ay0 := vH a0 abC; replace p19 := eq_true p19; replace q19 := eq_true q19) | (refine gG 64 ?_; refine Gu 64 Kd.string 9 ajs ?_; intro aFM w23 TR hb; have asc := ak (Kd.aC (Kd.dR TR (Kd.jh (ur dO.out))) (aj (ul HB.out))); replace dO := ak (Kd.bH (ur dO.out) (Kd.bZ TR) hb); replace HB := bs HB hb; clear hb TR))
          go_ret2
          exact ⟨_, er, ur (Kd.aY asc.out (fun _ hk => trivial)), ul HB.out⟩
        ·
         replace H := nl H; obtain ⟨VI, H⟩ := H
         obtain ⟨aFN, ajt⟩ := nm (eP ++ [ar9])
         rw [← ajt.out] at H
         have H' := ak H; clear H
         obtain ⟨p6, q6, hx6⟩ := bx a0 dM
         obtain ⟨p8, q8, hx8⟩ := bx a0 dM
         go_wp2_with (first | (refine gA Tryz.func198 (gy.calls WV.out) ?_; intro nd) | ((with_reducible refine eu (b := .append) (xs := #[.tmp 65, .tmp 67]) rfl ?_); (try (refine lD (by rfl) ?_; dsimp only)); at_builtin; refine aP 65 67 Kd.string 23 9 (.string ⟨#[]⟩) 16 Tryz.underlying23 info9 HB (ur dO.out) ajt (by have := VI.out; omega) ?_; intro aFO w26 ho hb hg hat; have ase := ak (ho); replace HB := ak (hb); clear ho hb hg hat dO))
         go_roundg k1
         case measure => exact kl
         case rel => exact ⟨_, _, rs, H', ⟨kl⟩, ⟨ur ase.out⟩, ⟨ul HB.out⟩⟩
     ·
      have H' := ak H; clear H
      obtain ⟨p6, q6, hx6⟩ := bx a0 dM
      obtain ⟨p8, q8, hx8⟩ := bx a0 dM
      go_wp2
      go_loopg [5] k1 (fun kq v5 w' => ∃ (sG : Int), v5 = .int .i64 sG ∧ ah (fF.l1 kq a0 eP sG dM = some (r1, r2)) ∧ ah (kq ≤ k1) ∧ ah (Kd.R Kd.string 9 w' w.heap.size (fun _ => True) u4 eP) ∧ ah (Below w.heap.size w w'))
      case atStart => exact ⟨_, rs, H', ⟨Nat.le_refl _⟩, ⟨ur dO.out⟩, ⟨ul HB.out⟩⟩
      case round =>
       clear H'
       try clear qR
       try clear mW
       try clear p6
       try clear q6
       try clear hx6
       try clear c7
       try clear rF
       try clear HY
       try clear p8
       try clear q8
       try clear hx8
       try clear c9
       try clear xY
       try clear EN
       try clear p6
       try clear p8
       try clear q6
       try clear q8
       obtain ⟨sG, rfl, HA, MJ, dO, HB⟩ := hrel
       cases gk with
       | zero => exact zz HA.out
       | succ k2 =>
        obtain ⟨H⟩ := HA
        simp only [fF.l1] at H
        replace H := sd H
        rcases H with ⟨EO, H⟩ | ⟨EO, H⟩
        ·
         replace H := oq H; obtain ⟨EP, H⟩ := H; replace H := bd H; obtain ⟨ar7, A30, H⟩ := H; replace H := sb H
         rcases H with ⟨rfl, H⟩ | ⟨rfl, H⟩
         ·
          have H' := ak H; clear H
          obtain ⟨p29, q29, hx29⟩ := bx a0 sG
          go_wp2_with (go_at_call 199; refine mA (jm.calls A30.out) ?_; intro nd)
          go_roundg k2
          case measure => exact kl
          case rel => exact ⟨_, rs, H', ⟨kl⟩, ⟨ur dO.out⟩, ⟨ul HB.out⟩⟩
         ·
          replace H := yL H; obtain ⟨Vl, ady, H⟩ := H; replace H := yL H; obtain ⟨Rk, adk, H⟩ := H; replace H := yL H; obtain ⟨OY, OZ, H⟩ := H; replace H := sq H
          rcases H with ⟨Ze, adz, H⟩ | ⟨c35, Ze, adz, H⟩
          ·
           obtain ⟨aFP, aju⟩ := nm ([] : List ByteArray)
           rw [← aju.out] at H
           obtain ⟨rfl, rfl⟩ := s2 H
           obtain ⟨p29, q29, hx29⟩ := bx a0 sG
           go_wp2_with (first | (go_at_call 199; refine mA (jm.calls A30.out) ?_; intro nd) | (refine gG 64 ?_; refine Gu 64 Kd.string 9 aju ?_; intro aFQ w36 amy hb; have asf := ak (Kd.aC (Kd.dR amy (Kd.jh (ur dO.out))) (aj (ul HB.out))); replace dO := ak (Kd.bH (ur dO.out) (Kd.bZ amy) hb); replace HB := bs HB hb; clear hb amy))
           go_ret2
           exact ⟨_, er, ur (Kd.aY asf.out (fun _ hk => trivial)), ul HB.out⟩
          ·
           replace H := sq H
           rcases H with ⟨ajv, ajw, H⟩ | ⟨c39, ajv, ajw, H⟩
           ·
            replace H := nl H; obtain ⟨Ve, H⟩ := H
            obtain ⟨aFR, ajx⟩ := nm (eP ++ [a0.extract (dM : Int).toNat (sG : Int).toNat])
            rw [← ajx.out] at H
            have H' := ak H; clear H
            obtain ⟨p29, q29, hx29⟩ := bx a0 sG
            go_wp2_with (first | (go_at_call 199; refine mA (jm.calls A30.out) ?_; intro nd; have p38 : 0 ≤ (sG : Int) := of_decide_eq_true (by assumption); have q38 : sG < (a0.size : Int) := of_decide_eq_true (by assumption); have hx38 := vH a0 sG; replace p38 := eq_true p38; replace q38 := eq_true q38) | ((with_reducible refine eu (b := .append) (xs := #[.tmp 65, .tmp 67]) rfl ?_); (try (refine lD (by rfl) ?_; dsimp only)); at_builtin; refine aP 65 67 Kd.string 23 9 (.string ⟨#[]⟩) 16 Tryz.underlying23 info9 HB (ur dO.out) ajx (by have := Ve.out; omega) ?_; intro aFS w41 ho hb hg hat; have asg := ak (ho); replace HB := ak (hb); clear ho hb hg hat dO))
            go_roundg k2
            case measure => exact kl
            case rel => exact ⟨_, _, rs, H', ⟨kl⟩, ⟨ur asg.out⟩, ⟨ul HB.out⟩⟩
           ·
            obtain ⟨aFT, ajy⟩ := nm ([] : List ByteArray)
            rw [← ajy.out] at H
            obtain ⟨rfl, rfl⟩ := s2 H
            obtain ⟨p29, q29, hx29⟩ := bx a0 sG
            go_wp2_with (first | (go_at_call 199; refine mA (jm.calls A30.out) ?_; intro nd; have p38 : 0 ≤ (sG : Int) := of_decide_eq_true (by assumption); have q38 : sG < (a0.size : Int) := of_decide_eq_true (by assumption); have hx38 := vH a0 sG; replace p38 := eq_true p38; replace q38 := eq_true q38) | (refine gG 64 ?_; refine Gu 64 Kd.string 9 ajy ?_; intro aFU w42 QN hb; have ash := ak (Kd.aC (Kd.dR QN (Kd.jh (ur dO.out))) (aj (ul HB.out))); replace dO := ak (Kd.bH (ur dO.out) (Kd.bZ QN) hb); replace HB := bs HB hb; clear hb QN))
            go_ret2
            exact ⟨_, er, ur (Kd.aY ash.out (fun _ hk => trivial)), ul HB.out⟩
        ·
         replace H := yL H; obtain ⟨aBI, aBJ, H⟩ := H; replace H := yL H; obtain ⟨aBK, aBL, H⟩ := H; replace H := yL H; obtain ⟨aBM, aBN, H⟩ := H; replace H := sq H
         rcases H with ⟨asi, asj, H⟩ | ⟨c47, asi, asj, H⟩
         ·
          obtain ⟨aFV, ajz⟩ := nm ([] : List ByteArray)
          rw [← ajz.out] at H
          obtain ⟨rfl, rfl⟩ := s2 H
          go_wp2_with (refine gG 64 ?_; refine Gu 64 Kd.string 9 ajz ?_; intro aFW w48 amA hb; have asl := ak (Kd.aC (Kd.dR amA (Kd.jh (ur dO.out))) (aj (ul HB.out))); replace dO := ak (Kd.bH (ur dO.out) (Kd.bZ amA) hb); replace HB := bs HB hb; clear hb amA)
          go_ret2
          exact ⟨_, er, ur (Kd.aY asl.out (fun _ hk => trivial)), ul HB.out⟩
         ·
          replace H := nl H; obtain ⟨asn, H⟩ := H
          obtain ⟨aFX, ajA⟩ := nm (eP ++ [a0.extract (dM : Int).toNat (sG : Int).toNat])
          rw [← ajA.out] at H
          have H' := ak H; clear H
          go_wp2_with ((with_reducible refine eu (b := .append) (xs := #[.tmp 65, .tmp 67]) rfl ?_); (try (refine lD (by rfl) ?_; dsimp only)); at_builtin; refine aP 65 67 Kd.string 23 9 (.string ⟨#[]⟩) 16 Tryz.underlying23 info9 HB (ur dO.out) ajA (by have := asn.out; omega) ?_; intro aFY w51 ho hb hg hat; have aso := ak (ho); replace HB := ak (hb); clear ho hb hg hat dO)
          go_roundg k2
          case measure => exact kl
          case rel => exact ⟨_, _, rs, H', ⟨kl⟩, ⟨ur aso.out⟩, ⟨ul HB.out⟩⟩
   ·
    obtain ⟨rfl, rfl⟩ := s2 H
    go_wp2
    go_ret2
    exact ⟨_, er, ur dO.out, ul HB.out⟩
def kE.f (k : Nat) (a0 : ByteArray) : Option (Bool) := (bP.f k a0).bind fun asq => (if asq = true then ((iF.f a0).bind fun asr => (some (asr.toList == a0.toList))) else (some false))
theorem kE.calls {k : Nat} {a0 : ByteArray} {r : Bool} {w : World} (h : kE.f k a0 = some r) :
  Calls Tryz.prog 200 #[.string a0] w fun e w' => e = .returned (.bool r) ∧ Below w.heap.size w w' := by
 have HB := ak (Below.refl w.heap.size w)
 unfold kE.f at h; have H := h
 clear h
 replace H := bd H; obtain ⟨asq, A2, H⟩ := H; replace H := sb H
 rcases H with ⟨rfl, H⟩ | ⟨rfl, H⟩
 ·
  replace H := bd H; obtain ⟨asr, A4, H⟩ := H
  obtain rfl := s1 H
  go_enter Tryz.func200, Tryz.ntmps200
  go_wp2_with (first | (refine gA Tryz.func184 (bP.calls A2.out) ?_; intro nd) | (go_at_call 180; refine mB (iF.calls A4.out) ?_; intro w5 hb; replace HB := bs HB hb; clear hb))
  go_ret
  exact ⟨er, ul HB.out⟩
 ·
  obtain rfl := s1 H
  go_enter Tryz.func200, Tryz.ntmps200
  go_wp2_with (refine gA Tryz.func184 (bP.calls A2.out) ?_; intro nd)
  go_ret
  exact ⟨er, ul HB.out⟩
def rC.f (k : Nat) (a0 : ByteArray) : Option (Bool) := (aQ.f k a0).bind fun asu => (if asu = true then (some (decide ((a0.size : Int) ≤ 40))) else (some false))
theorem rC.calls {k : Nat} {a0 : ByteArray} {r : Bool} {w : World} (h : rC.f k a0 = some r) :
  Calls Tryz.prog 201 #[.string a0] w fun e w' => e = .returned (.bool r) ∧ dP w w' := by
 unfold rC.f at h; have H := h
 clear h
 replace H := bd H; obtain ⟨asu, A2, H⟩ := H; replace H := sb H
 rcases H with ⟨rfl, H⟩ | ⟨rfl, H⟩
 ·
  obtain rfl := s1 H
  go_enter Tryz.func201, Tryz.ntmps201
  go_wp2_with (refine gA Tryz.func159 (aQ.calls A2.out) ?_; intro nd)
  go_ret
  exact ⟨rs, dn⟩
 ·
  obtain rfl := s1 H
  go_enter Tryz.func201, Tryz.ntmps201
  go_wp2_with (refine gA Tryz.func159 (aQ.calls A2.out) ?_; intro nd)
  go_ret
  exact ⟨rs, dn⟩
mutual
def dZ.l0 : Nat → ByteArray → Int → Option (Bool)
 | 0, _, _ => none
 | k + 1, x0, x3 => if x3 < (x0.size : Int) then (dZ.j1 k x0 x3 (decide (x3 ≤ 40))) else (dZ.j1 k x0 x3 false)
def dZ.j1 : Nat → ByteArray → Int → Bool → Option (Bool)
 | 0, _, _, _ => none
 | k + 1, x0, x3, x11 => if x11 = true then (if 0 ≤ x3 then (if x3 < (x0.size : Int) then ((jm.f k (bt x0 x3)).bind fun asv => (if asv = true then (dZ.l0 k x0 (wrap64 (x3 + 1))) else (some false))) else (none)) else (none)) else (if (x0.size : Int) ≥ 1 then (some (decide ((x0.size : Int) ≤ 40))) else (some false))
end
def dZ.f (k : Nat) (a0 : ByteArray) : Option (Bool) := dZ.l0 k a0 0
theorem dZ.calls {k : Nat} {a0 : ByteArray} {r : Bool} {w : World} (h : dZ.f k a0 = some r) :
  Calls Tryz.prog 214 #[.string a0] w fun e w' => e = .returned (.bool r) ∧ dP w w' := by
 unfold dZ.f at h; have H := h
 clear h
 have H' := ak H; clear H
 go_enter Tryz.func214, Tryz.ntmps214
 go_wp2
 go_loopg [3] k (fun kq v3 w' => ∃ (dW : Int), v3 = .int .i64 dW ∧ ah (dZ.l0 kq a0 dW = some r) ∧ ah (kq ≤ k) ∧ dP w w')
 case atStart => exact ⟨_, rs, H', ⟨Nat.le_refl _⟩, dn⟩
 case round =>
  clear H'
  obtain ⟨dW, rfl, HA, xI, ⟨m1, rfl⟩⟩ := hrel
  cases gk with
  | zero => exact zz HA.out
  | succ k1 =>
   obtain ⟨H⟩ := HA
   simp only [dZ.l0] at H
   have HC2 := ak H
   clear H
   go_upto_region 2 with (fail)
   go_cut [11] (fun v11 wc => ∃ (kq : Nat) (uq : Bool), v11 = .bool uq ∧ ah (dZ.j1 kq a0 dW uq = some r) ∧ ah (kq ≤ k1) ∧ dP w wc)
   case first =>
    have H := HC2.out
    clear HC2
    replace H := sd H
    rcases H with ⟨iO, H⟩ | ⟨iO, H⟩
    ·
     (first | rw [iO] | (simp only [iK, jI]; rw [iO]) | skip)
     have H' := ak H; clear H
     go_wp2
     go_meet
     case rel => exact ⟨_, _, rs, H', ⟨kl⟩, dn⟩
    ·
     (first | rw [iO] | (simp only [iK, jI]; rw [iO]) | skip)
     have H' := ak H; clear H
     go_wp2
     go_meet
     case rel => exact ⟨_, _, rs, H', ⟨kl⟩, dn⟩
   case rest =>
    clear HC2
    obtain ⟨kq, uq, rfl, HA, HJ1, ⟨mc1, rfl⟩⟩ := hcut
    cases kq with
    | zero => exact zz HA.out
    | succ NK =>
     obtain ⟨H⟩ := HA
     simp only [dZ.j1] at H
     replace H := sb H
     rcases H with ⟨rfl, H⟩ | ⟨rfl, H⟩
     ·
      replace H := oq H; obtain ⟨mW, H⟩ := H; replace H := oq H; obtain ⟨nN, H⟩ := H; replace H := bd H; obtain ⟨asv, A8, H⟩ := H; replace H := sb H
      rcases H with ⟨rfl, H⟩ | ⟨rfl, H⟩
      ·
       have H' := ak H; clear H
       obtain ⟨p7, q7, hx7⟩ := bx a0 dW
       go_wp2_with (refine gA Tryz.func199 (jm.calls A8.out) ?_; intro nd)
       go_roundg NK
       case measure => exact kl
       case rel => exact ⟨_, rs, H', ⟨kl⟩, dn⟩
      ·
       obtain rfl := s1 H
       obtain ⟨p7, q7, hx7⟩ := bx a0 dW
       go_wp2_with (refine gA Tryz.func199 (jm.calls A8.out) ?_; intro nd)
       go_ret
       exact ⟨rs, dn⟩
     ·
      replace H := sp H
      rcases H with ⟨c10, H⟩ | ⟨c10, H⟩
      ·
       have nY : decide (1 ≤ (a0.size : Int)) = true := decide_eq_true c10
       have rX : decide (1 ≤ a0.size) = true := decide_eq_true (by omega)
       clear c10
       obtain rfl := s1 H
       go_wp2
       go_ret
       exact ⟨rs, dn⟩
      ·
       have nY : decide (1 ≤ (a0.size : Int)) = false := decide_eq_false c10
       have rX : decide (1 ≤ a0.size) = false := decide_eq_false (by omega)
       clear c10
       obtain rfl := s1 H
       go_wp2
       go_ret
       exact ⟨rs, dn⟩
end Go.Proofs.YtncdadcmghglkaaGreatDoor.PFnPartLines
