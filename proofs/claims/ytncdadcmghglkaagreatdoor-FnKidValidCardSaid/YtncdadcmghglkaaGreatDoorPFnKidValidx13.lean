/- Printed walks; conditions: those in each statement. -/
import Derived.Test.YtncdadcmghglkaaGreatDoorVFnKidValidQt
import Derived.Test.YtncdadcmghglkaaGreatDoorVFnKidValidYt
import Derived.Test.YtncdadcmghglkaaGreatDoorPFnKidValidx0
import Derived.Test.YtncdadcmghglkaaGreatDoorPFnKidValidx11
import Derived.Test.YtncdadcmghglkaaGreatDoorPFnKidValidx12
-- short
-- dense
-- sq
-- sq2
namespace Go.Proofs.YtncdadcmghglkaaGreatDoor.PFnKidValid
open Go.RowKit Go.Proofs.YtncdadcmghglkaaGreatDoor.X Go.Proofs.YtncdadcmghglkaaGreatDoorW.bI Go.Proofs.YtncdadcmghglkaaGreatDoorW.gq Go.Proofs.YtncdadcmghglkaaGreatDoorW.iJ
attribute [local go_sem] kJ kK mD mF jv jw kL kM   -- for this text's walks alone
set_option linter.unusedVariables false
set_option maxHeartbeats 8000000
set_option maxRecDepth 100000
set_option linter.unusedSimpArgs false
def jK.l0 : Nat → List (gU) → ByteArray → Int → Option (Int)
 | 0, _, _, _ => none
 | k + 1, x0, x1, x5 => if x5 < (x0.length : Int) then (if 0 ≤ x5 then ((qE.f ((fB x0 x5).f0) x1).bind fun ap_ => (if ap_ = true then (some x5) else (jK.l0 k x0 x1 (wrap64 (x5 + 1))))) else (none)) else (some (-1))
def jK.f (k : Nat) (l0 : List (gU)) (a1 : ByteArray) : Option (Int) := jK.l0 k l0 a1 0
theorem jK.calls {k c0 : Nat} {A0 : Option Addr} {l0 : List (gU)} {a1 : ByteArray} {r : Int} {w : World} (hr0 : Kd.C qj w A0 l0.length l0) (hc0 : l0.length ≤ c0) (h : jK.f k l0 a1 = some r) :
  Calls Tryz.prog 177 #[.slice A0 l0.length c0, .string a1] w fun e w' => e = .returned (.int .i64 r) ∧ Below w.heap.size w w' := by
 have HR0 := ak hr0
 have yu := ak hc0
 clear hr0 hc0
 have HB := ak (Below.refl w.heap.size w)
 unfold jK.f at h; have H := h
 clear h
 have H' := ak H; clear H
 go_enter Tryz.func177, Tryz.ntmps177
 go_wp2
 go_loopg [5] k (fun kq v5 w' => ∃ (eP : Int), v5 = .int .i64 eP ∧ ah (jK.l0 kq l0 a1 eP = some r) ∧ ah (kq ≤ k) ∧ ah (Below w.heap.size w w'))
 case atStart => exact ⟨_, rs, H', ⟨Nat.le_refl _⟩, ⟨ul HB.out⟩⟩
 case round =>
  clear H'
  obtain ⟨eP, rfl, HA, xG, HB⟩ := hrel
  cases gk with
  | zero => exact zz HA.out
  | succ k1 =>
   obtain ⟨H⟩ := HA
   simp only [jK.l0] at H
   replace H := sd H
   rcases H with ⟨iO, H⟩ | ⟨iO, H⟩
   ·
    replace H := oL H; obtain ⟨su, H⟩ := H; replace H := bd H; obtain ⟨ap_, A5, H⟩ := H; replace H := sb H
    rcases H with ⟨rfl, H⟩ | ⟨rfl, H⟩
    ·
     obtain rfl := s1 H
     have X8 := zi eP
     have X9 := zj eP l0.length
     obtain ⟨aqa, amF, JJ, JK⟩ := qX HR0.out eP X8 X9
     cases amF
     replace JJ := cl HB.out JJ
     replace JK := cl HB.out JK
     replace X8 := eq_true X8
     replace X9 := eq_true X9
     go_wp2_with (refine gB Tryz.func197 (qE.calls A5.out) ?_; intro w7 hb; replace HB := bs HB hb; clear hb)
     go_ret
     exact ⟨er, ul HB.out⟩
    ·
     have H' := ak H; clear H
     have X8 := zi eP
     have X9 := zj eP l0.length
     obtain ⟨aqa, amF, JJ, JK⟩ := qX HR0.out eP X8 X9
     cases amF
     replace JJ := cl HB.out JJ
     replace JK := cl HB.out JK
     replace X8 := eq_true X8
     replace X9 := eq_true X9
     go_wp2_with (refine gB Tryz.func197 (qE.calls A5.out) ?_; intro w8 hb; replace HB := bs HB hb; clear hb)
     go_roundg k1
     case measure => exact kl
     case rel => exact ⟨_, rs, H', ⟨kl⟩, ⟨ul HB.out⟩⟩
   ·
    obtain rfl := s1 H
    go_wp2
    go_ret
    exact ⟨er, ul HB.out⟩
def jP.f (k : Nat) (l0 : List (gU)) (a1 : ByteArray) : Option (ByteArray × Bool) := (jK.f k l0 a1).bind fun V6 => (if V6 < 0 then (some ((⟨#[]⟩ : ByteArray), false)) else (if 0 ≤ V6 then (if V6 < (l0.length : Int) then (some ((fB l0 V6).f1, true)) else (none)) else (none)))
theorem jP.calls {k c0 : Nat} {A0 : Option Addr} {l0 : List (gU)} {a1 r1 : ByteArray} {r2 : Bool} {w : World} (hr0 : Kd.C qj w A0 l0.length l0) (hc0 : l0.length ≤ c0) (h : jP.f k l0 a1 = some (r1, r2)) :
  Calls Tryz.prog 154 #[.slice A0 l0.length c0, .string a1] w fun e w' => e = .returned (.tuple #[.string r1, .bool r2]) ∧ Below w.heap.size w w' := by
 have HR0 := ak hr0
 have yu := ak hc0
 clear hr0 hc0
 have HB := ak (Below.refl w.heap.size w)
 unfold jP.f at h; have H := h
 clear h
 replace H := bd H; obtain ⟨V6, A3, H⟩ := H; replace H := sd H
 rcases H with ⟨su, H⟩ | ⟨su, H⟩
 ·
  obtain ⟨rfl, rfl⟩ := s2 H
  go_enter Tryz.func154, Tryz.ntmps154
  go_wp2_with (refine gB Tryz.func177 (jK.calls (cu HR0.out) yu.out A3.out) ?_; intro w5 hb; replace HB := bs HB hb; clear hb)
  go_ret2
  exact ⟨er, ul HB.out⟩
 ·
  replace H := oL H; obtain ⟨oz, H⟩ := H; replace H := oL H; obtain ⟨sD, H⟩ := H
  obtain ⟨rfl, rfl⟩ := s2 H
  go_enter Tryz.func154, Tryz.ntmps154
  go_wp2_with (refine gB Tryz.func177 (jK.calls (cu HR0.out) yu.out A3.out) ?_; intro w8 hb; replace HB := bs HB hb; clear hb; have amG : 0 ≤ (V6 : Int) := of_decide_eq_true (by assumption); have amH : V6 < (l0.length : Int) := of_decide_eq_true (by assumption); obtain ⟨aBQ, ayx, Ur, Us⟩ := qX HR0.out V6 amG amH; cases ayx; replace Ur := (HB.out.cell (World.block_lt_of_cell? w _ Ur)).trans Ur; replace Us := (HB.out.cell (World.block_lt_of_cell? w _ Us)).trans Us; replace amG := eq_true amG; replace amH := eq_true amH)
  go_ret2
  exact ⟨er, ul HB.out⟩
def f_.l0 : Nat → ByteArray → ByteArray → Int → Option (ByteArray × Int)
 | 0, _, _, _ => none
 | k + 1, x0, x6, x7 => if x7 < (x0.size : Int) then (if 0 ≤ x7 then (if (bt x0 x7) = 34 then (some (x6, wrap64 (x7 + 1))) else (if (bt x0 x7) = 92 then (if (wrap64 (x7 + 1)) = (x0.size : Int) then (some ((⟨#[]⟩ : ByteArray), (-1))) else (if 0 ≤ (wrap64 (x7 + 1)) then (if (wrap64 (x7 + 1)) ≤ (wrap64 ((wrap64 (x7 + 1)) + 1)) then (if (wrap64 ((wrap64 (x7 + 1)) + 1)) ≤ (x0.size : Int) then (if x6.size + (x0.extract ((wrap64 (x7 + 1)) : Int).toNat ((wrap64 ((wrap64 (x7 + 1)) + 1)) : Int).toNat).size ≤ 9223372036854775807 then (f_.l0 k x0 (x6 ++ (x0.extract ((wrap64 (x7 + 1)) : Int).toNat ((wrap64 ((wrap64 (x7 + 1)) + 1)) : Int).toNat)) (wrap64 ((wrap64 (x7 + 1)) + 1))) else (none)) else (none)) else (none)) else (none))) else (if x7 ≤ (wrap64 (x7 + 1)) then (if (wrap64 (x7 + 1)) ≤ (x0.size : Int) then (if x6.size + (x0.extract (x7 : Int).toNat ((wrap64 (x7 + 1)) : Int).toNat).size ≤ 9223372036854775807 then (f_.l0 k x0 (x6 ++ (x0.extract (x7 : Int).toNat ((wrap64 (x7 + 1)) : Int).toNat)) (wrap64 (x7 + 1))) else (none)) else (none)) else (none)))) else (none)) else (some ((⟨#[]⟩ : ByteArray), (-1)))
def f_.f (k : Nat) (a0 : ByteArray) (a1 : Int) : Option (ByteArray × Int) := f_.l0 k a0 (⟨#[]⟩ : ByteArray) (wrap64 (a1 + 1))
theorem f_.calls {k : Nat} {a0 r1 : ByteArray} {a1 r2 : Int} {w : World} (h : f_.f k a0 a1 = some (r1, r2)) :
  Calls Tryz.prog 198 #[.string a0, .int .i64 a1] w fun e w' => e = .returned (.tuple #[.string r1, .int .i64 r2]) ∧ dS w w' := by
 unfold f_.f at h; have H := h
 clear h
 have H' := ak H; clear H
 go_enter Tryz.func198, Tryz.ntmps198
 go_wp2
 go_loopg [6, 7] k (fun kq v6 v7 w' => ∃ (jD : ByteArray) (rJ : Int), v6 = .string jD ∧ v7 = .int .i64 rJ ∧ ah (f_.l0 kq a0 jD rJ = some (r1, r2)) ∧ ah (kq ≤ k) ∧ dS w w')
 case atStart => exact ⟨_, _, rs, rs, H', ⟨Nat.le_refl _⟩, dn⟩
 case round =>
  clear H'
  obtain ⟨jD, rJ, rfl, rfl, HA, xG, ⟨m1, rfl⟩⟩ := hrel
  cases gk with
  | zero => exact zz HA.out
  | succ k1 =>
   obtain ⟨H⟩ := HA
   simp only [f_.l0] at H
   replace H := sd H
   rcases H with ⟨iO, H⟩ | ⟨iO, H⟩
   ·
    replace H := oL H; obtain ⟨su, H⟩ := H; replace H := sq H
    rcases H with ⟨oz, xH, H⟩ | ⟨c6, oz, xH, H⟩
    ·
     obtain ⟨rfl, rfl⟩ := s2 H
     obtain ⟨p5, q5, hx5⟩ := bx a0 rJ
     go_wp2
     go_ret2
     exact ⟨rs, dn⟩
    ·
     replace H := sq H
     rcases H with ⟨tu, Dl, H⟩ | ⟨c8, tu, Dl, H⟩
     ·
      replace H := sq H
      rcases H with ⟨yh, Fz, H⟩ | ⟨c9, yh, Fz, H⟩
      ·
       obtain ⟨rfl, rfl⟩ := s2 H
       obtain ⟨p5, q5, hx5⟩ := bx a0 rJ
       obtain ⟨p7, q7, hx7⟩ := bx a0 rJ
       go_wp2
       go_ret2
       exact ⟨rs, dn⟩
      ·
       obtain ⟨JL, PW⟩ : ∃ j_ : Int, (wrap64 (rJ + 1)) = j_ := ⟨_, rfl⟩
       replace H : (if 0 ≤ (JL) then (if (JL) ≤ (wrap64 ((JL) + 1)) then (if (wrap64 ((JL) + 1)) ≤ (a0.size : Int) then (if jD.size + (a0.extract ((JL) : Int).toNat ((wrap64 ((JL) + 1)) : Int).toNat).size ≤ 9223372036854775807 then (f_.l0 k1 a0 (jD ++ (a0.extract ((JL) : Int).toNat ((wrap64 ((JL) + 1)) : Int).toNat)) (wrap64 ((JL) + 1))) else (none)) else (none)) else (none)) else (none)) = some (r1, r2) := by first | (rw [PW] at H; exact H) | (simp only [PW] at H ⊢; exact H)
       (try rw [PW] at yh)
       (try rw [PW] at Fz)
       have ayy : (IntKind.i64.wrap (rJ + 1)) = JL := (dP _).trans PW
       replace H := Ac H; obtain ⟨uH, EC, H⟩ := H; replace H := nn H; obtain ⟨c12, H⟩ := H
       have xI := eq_true c12
       have Dn := decide_eq_true c12
       replace H := nn H; obtain ⟨c13, H⟩ := H
       have wo := eq_true c13
       have zU := decide_eq_true c13
       replace H := nn H; obtain ⟨c14, H⟩ := H
       have qC := eq_true c14
       have wI := decide_eq_true c14
       try have aBR : (9223372036854775807 < jD.size + ((a0.extract ((JL) : Int).toNat ((wrap64 ((JL) + 1)) : Int).toNat).size)) = False := by have h_ := c14; simp only [ByteArray.size_append, ByteArray.size_extract] at h_; refine eq_false ?_; simp only [decide_eq_true_eq] at *; omega
       try have ap1 : (9223372036854775807 < jD.size + (a0.extract ((JL) : Int).toNat ((wrap64 ((JL) + 1)) : Int).toNat).size) = False := eq_false (Nat.not_lt.2 c14)
       have H' := ak H; clear H
       obtain ⟨p5, q5, hx5⟩ := bx a0 rJ
       obtain ⟨p7, q7, hx7⟩ := bx a0 rJ
       go_wp2
       go_roundg k1
       case measure => exact kl
       case rel => exact ⟨_, _, (by first | rfl | (simp; done) | (simp only [← PW] <;> (first | rfl | simp)) | (simp [*]; done)), (by first | rfl | (simp; done) | (simp only [← PW] <;> (first | rfl | simp)) | (simp [*]; done)), H', ⟨kl⟩, dn⟩
     ·
      have wu := eq_true (of_decide_eq_true (by assumption) : 0 ≤ rJ)
      replace H := nn H; obtain ⟨c16, H⟩ := H
      have zW := eq_true c16
      have JH := decide_eq_true c16
      replace H := nn H; obtain ⟨c17, H⟩ := H
      have tJ := eq_true c17
      have NM := decide_eq_true c17
      replace H := nn H; obtain ⟨c18, H⟩ := H
      have zV := eq_true c18
      have PO := decide_eq_true c18
      try have aBS : (9223372036854775807 < jD.size + ((a0.extract (rJ : Int).toNat ((wrap64 (rJ + 1)) : Int).toNat).size)) = False := by have h_ := c18; simp only [ByteArray.size_append, ByteArray.size_extract] at h_; refine eq_false ?_; simp only [decide_eq_true_eq] at *; omega
      try have ajw : (9223372036854775807 < jD.size + (a0.extract (rJ : Int).toNat ((wrap64 (rJ + 1)) : Int).toNat).size) = False := eq_false (Nat.not_lt.2 c18)
      have H' := ak H; clear H
      obtain ⟨p5, q5, hx5⟩ := bx a0 rJ
      obtain ⟨p7, q7, hx7⟩ := bx a0 rJ
      go_wp2
      go_roundg k1
      case measure => exact kl
      case rel => exact ⟨_, _, rs, rs, H', ⟨kl⟩, dn⟩
   ·
    obtain ⟨rfl, rfl⟩ := s2 H
    go_wp2
    go_ret2
    exact ⟨rs, dn⟩
def ji.l0 : Nat → ByteArray → Int → Int → Option (ByteArray × ByteArray × Bool)
 | 0, _, _, _ => none
 | k + 1, x0, x1, x7 => if x7 < (x0.size : Int) then (if 0 ≤ x7 then (if (bt x0 x7) = 34 then ((f_.f k x0 x7).bind fun ajx => (if ajx.2 < 0 then (some (x0, (⟨#[]⟩ : ByteArray), false)) else (ji.l0 k x0 x1 ajx.2))) else (if (bt x0 x7) = x1 then (if x7 ≤ (x0.size : Int) then (if 0 ≤ (wrap64 (x7 + 1)) then (if (wrap64 (x7 + 1)) ≤ (x0.size : Int) then (some (x0.extract 0 (x7 : Int).toNat, x0.extract ((wrap64 (x7 + 1)) : Int).toNat x0.size, true)) else (none)) else (none)) else (none)) else (ji.l0 k x0 x1 (wrap64 (x7 + 1))))) else (none)) else (some (x0, (⟨#[]⟩ : ByteArray), false))
def ji.f (k : Nat) (a0 : ByteArray) (a1 : Int) : Option (ByteArray × ByteArray × Bool) := ji.l0 k a0 a1 0
theorem ji.calls {k : Nat} {a0 r1 r2 : ByteArray} {a1 : Int} {r3 : Bool} {w : World} (h : ji.f k a0 a1 = some (r1, r2, r3)) :
  Calls Tryz.prog 178 #[.string a0, .int .u8 a1] w fun e w' => e = .returned (.tuple #[.string r1, .string r2, .bool r3]) ∧ dS w w' := by
 unfold ji.f at h; have H := h
 clear h
 have H' := ak H; clear H
 go_enter Tryz.func178, Tryz.ntmps178
 go_wp2
 repeat (go_quiet (fail); try go_wp2)
 go_loopg [7] k (fun kq v7 w' => ∃ (rJ : Int), v7 = .int .i64 rJ ∧ ah (ji.l0 kq a0 a1 rJ = some (r1, r2, r3)) ∧ ah (kq ≤ k) ∧ dS w w')
 case atStart => exact ⟨_, rs, H', ⟨Nat.le_refl _⟩, dn⟩
 case round =>
  clear H'
  obtain ⟨rJ, rfl, HA, xG, ⟨m1, rfl⟩⟩ := hrel
  cases gk with
  | zero => exact zz HA.out
  | succ k1 =>
   obtain ⟨H⟩ := HA
   simp only [ji.l0] at H
   replace H := sd H
   rcases H with ⟨iO, H⟩ | ⟨iO, H⟩
   ·
    replace H := oL H; obtain ⟨su, H⟩ := H; replace H := sq H
    rcases H with ⟨oz, xH, H⟩ | ⟨c6, oz, xH, H⟩
    ·
     replace H := bd H
     obtain ⟨⟨aEQ, aER⟩, A7, H⟩ := H
     (try dsimp only at H)
     replace H := sd H
     rcases H with ⟨tu, H⟩ | ⟨tu, H⟩
     ·
      obtain ⟨rfl, rfl, rfl⟩ := s3 H
      obtain ⟨p5, q5, hx5⟩ := bx a0 rJ
      go_wp2_with (go_at_call 198; refine mA (f_.calls A7.out) ?_; intro nd; (try exact dq))
      repeat (go_quiet ((go_at_call 198; refine mA (f_.calls A7.out) ?_; intro nd; (try exact dq))); try go_wp2_with (go_at_call 198; refine mA (f_.calls A7.out) ?_; intro nd; (try exact dq)))
      go_ret3
      exact ⟨rs, dn⟩
     ·
      have H' := ak H; clear H
      obtain ⟨p5, q5, hx5⟩ := bx a0 rJ
      go_wp2_with (go_at_call 198; refine mA (f_.calls A7.out) ?_; intro nd; (try exact dq))
      repeat (go_quiet ((go_at_call 198; refine mA (f_.calls A7.out) ?_; intro nd; (try exact dq))); try go_wp2_with (go_at_call 198; refine mA (f_.calls A7.out) ?_; intro nd; (try exact dq)))
      go_roundg k1
      case measure => exact kl
      case rel => exact ⟨_, rs, H', ⟨kl⟩, dn⟩
    ·
     replace H := sq H
     rcases H with ⟨oC, sS, H⟩ | ⟨c10, oC, sS, H⟩
     ·
      have uH := eq_true (of_decide_eq_true (by assumption) : 0 ≤ rJ)
      replace H := Ac H; obtain ⟨xI, Dn, H⟩ := H
      obtain ⟨Ut, H9⟩ : ∃ j_ : Int, (wrap64 (rJ + 1)) = j_ := ⟨_, rfl⟩
      replace H : (if 0 ≤ (Ut) then (if (Ut) ≤ (a0.size : Int) then (some (a0.extract 0 (rJ : Int).toNat, a0.extract ((Ut) : Int).toNat a0.size, true)) else (none)) else (none)) = some (r1, r2, r3) := by first | (rw [H9] at H; exact H) | (simp only [H9] at H ⊢; exact H)
      have amI : (IntKind.i64.wrap (rJ + 1)) = Ut := (dP _).trans H9
      replace H := Ac H; obtain ⟨qC, wI, H⟩ := H; replace H := Ac H; obtain ⟨wu, Fj, H⟩ := H
      obtain ⟨rfl, rfl, rfl⟩ := s3 H
      obtain ⟨p5, q5, hx5⟩ := bx a0 rJ
      obtain ⟨p9, q9, Zv⟩ := bx a0 rJ
      go_wp2
      repeat (go_quiet (fail); try go_wp2)
      go_ret3
      exact ⟨by first | rfl | (simp; done) | (simp only [← H9] <;> (first | rfl | simp)) | (simp [*]; done), dn⟩
     ·
      have H' := ak H; clear H
      obtain ⟨p5, q5, hx5⟩ := bx a0 rJ
      obtain ⟨p9, q9, Zv⟩ := bx a0 rJ
      go_wp2
      repeat (go_quiet (fail); try go_wp2)
      go_roundg k1
      case measure => exact kl
      case rel => exact ⟨_, rs, H', ⟨kl⟩, dn⟩
   ·
    obtain ⟨rfl, rfl, rfl⟩ := s3 H
    go_wp2
    repeat (go_quiet (fail); try go_wp2)
    go_ret3
    exact ⟨rs, dn⟩
def jl.l0 : Nat → Int → Int → Option (Bool)
 | 0, _, _ => none
 | k + 1, x0, x3 => if x3 < 19 then (if 0 ≤ x3 then (if x0 = (bt (⟨#[33, 35, 36, 37, 38, 39, 42, 43, 45, 47, 61, 63, 94, 95, 96, 123, 124, 125, 126]⟩ : ByteArray) x3) then (some true) else (jl.l0 k x0 (wrap64 (x3 + 1)))) else (none)) else ((gI.f x0).bind fun aqb => (some aqb))
def jl.f (k : Nat) (a0 : Int) : Option (Bool) := jl.l0 k a0 0
theorem jl.calls {k : Nat} {a0 : Int} {r : Bool} {w : World} (h : jl.f k a0 = some r) :
  Calls Tryz.prog 199 #[.int .u8 a0] w fun e w' => e = .returned (.bool r) ∧ dS w w' := by
 unfold jl.f at h; have H := h
 clear h
 have H' := ak H; clear H
 go_enter Tryz.func199, Tryz.ntmps199
 go_wp2
 go_loopg [3] k (fun kq v3 w' => ∃ (dM : Int), v3 = .int .i64 dM ∧ ah (jl.l0 kq a0 dM = some r) ∧ ah (kq ≤ k) ∧ dS w w')
 case atStart => exact ⟨_, rs, H', ⟨Nat.le_refl _⟩, dn⟩
 case round =>
  clear H'
  obtain ⟨dM, rfl, HA, xG, ⟨m1, rfl⟩⟩ := hrel
  cases gk with
  | zero => exact zz HA.out
  | succ k1 =>
   obtain ⟨H⟩ := HA
   simp only [jl.l0] at H
   replace H := sd H
   rcases H with ⟨nT, H⟩ | ⟨nT, H⟩
   ·
    replace H := oL H; obtain ⟨iO, H⟩ := H; replace H := sq H
    rcases H with ⟨nO, JM, H⟩ | ⟨c5, nO, JM, H⟩
    ·
     obtain rfl := s1 H
     have p4 := zi dM
     have q4 := zj dM 19
     have hx4 := vY (⟨#[33, 35, 36, 37, 38, 39, 42, 43, 45, 47, 61, 63, 94, 95, 96, 123, 124, 125, 126]⟩ : ByteArray) dM
     replace p4 := eq_true p4
     replace q4 := eq_true q4
     go_wp2
     go_ret
     exact ⟨rs, dn⟩
    ·
     have H' := ak H; clear H
     have p4 := zi dM
     have q4 := zj dM 19
     have hx4 := vY (⟨#[33, 35, 36, 37, 38, 39, 42, 43, 45, 47, 61, 63, 94, 95, 96, 123, 124, 125, 126]⟩ : ByteArray) dM
     replace p4 := eq_true p4
     replace q4 := eq_true q4
     go_wp2
     go_roundg k1
     case measure => exact kl
     case rel => exact ⟨_, rs, H', ⟨kl⟩, dn⟩
   ·
    replace H := bd H; obtain ⟨aqb, A6, H⟩ := H
    obtain rfl := s1 H
    go_wp2_with (refine gA Tryz.func183 (gI.calls A6.out) ?_; intro nd)
    go_ret
    exact ⟨rs, dn⟩
mutual
def fD.l0 : Nat → ByteArray → List ByteArray → Int → Option (List ByteArray × Bool)
 | 0, _, _, _ => none
 | k + 1, x0, x4, x5 => if x5 < (x0.size : Int) then (if 0 ≤ x5 then (if (bt x0 x5) = 32 then (fD.l0 k x0 x4 (wrap64 (x5 + 1))) else (if (bt x0 x5) = 34 then ((f_.f k x0 x5).bind fun JO => (if JO.2 < 0 then (some ((([] : List ByteArray)), false)) else (if JO.2 = x5 then (some ((([] : List ByteArray)), false)) else (if JO.2 < (x0.size : Int) then (if 0 ≤ JO.2 then (if (bt x0 JO.2) = 32 then (if x4.length < 8796093022208 then (fD.l0 k x0 (x4 ++ [JO.1]) JO.2) else (none)) else (some ((([] : List ByteArray)), false))) else (none)) else (if x4.length < 8796093022208 then (fD.l0 k x0 (x4 ++ [JO.1]) JO.2) else (none)))))) else (fD.l1 k x0 x4 x5 x5))) else (none)) else (some (x4, true))
def fD.l1 : Nat → ByteArray → List ByteArray → Int → Int → Option (List ByteArray × Bool)
 | 0, _, _, _, _ => none
 | k + 1, x0, x4, x5, x6 => if x5 < (x0.size : Int) then (if 0 ≤ x5 then ((jl.f k (bt x0 x5)).bind fun aqc => (if aqc = true then (fD.l1 k x0 x4 (wrap64 (x5 + 1)) x6) else (if 0 ≤ x6 then (if x6 ≤ x5 then (if x5 ≤ (x0.size : Int) then (if x5 = x6 then (some ((([] : List ByteArray)), false)) else (if (bt x0 x5) = 32 then (if x4.length < 8796093022208 then (fD.l0 k x0 (x4 ++ [x0.extract (x6 : Int).toNat (x5 : Int).toNat]) x5) else (none)) else (some ((([] : List ByteArray)), false)))) else (none)) else (none)) else (none)))) else (none)) else (if 0 ≤ x6 then (if x6 ≤ x5 then (if x5 ≤ (x0.size : Int) then (if x5 = x6 then (some ((([] : List ByteArray)), false)) else (if x4.length < 8796093022208 then (fD.l0 k x0 (x4 ++ [x0.extract (x6 : Int).toNat (x5 : Int).toNat]) x5) else (none))) else (none)) else (none)) else (none))
end
def fD.f (k : Nat) (a0 : ByteArray) : Option (List ByteArray × Bool) := fD.l0 k a0 (([] : List ByteArray)) 0
theorem fD.calls {k : Nat} {a0 : ByteArray} {r1 : List ByteArray} {r2 : Bool} {w : World} (h : fD.f k a0 = some (r1, r2)) :
  Calls Tryz.prog 181 #[.string a0] w fun e w' => ∃ ql : Value, e = .returned (.tuple #[ql, .bool r2]) ∧ Kd.R Kd.string 9 w' w.heap.size (fun _ => True) ql r1 ∧ Below w.heap.size w w' := by
 have HB := ak (Below.refl w.heap.size w)
 unfold fD.f at h; have H := h
 clear h
 obtain ⟨aES, ajy⟩ := nm ([] : List ByteArray)
 rw [← ajy.out] at H
 have H' := ak H; clear H
 go_enter Tryz.func181, Tryz.ntmps181
 go_wp2_with (refine gG 8 ?_; refine H7 8 Kd.string 9 ajy ?_; intro aET w2 ho3 hb; have aqd := ak (Kd.aC ho3 (aj (ul HB.out))); replace HB := bs HB hb; clear hb ho3)
 go_loopg [4, 5] k (fun kq v4 v5 w' => ∃ (dV : List ByteArray) (eP : Int), v5 = .int .i64 eP ∧ ah (fD.l0 kq a0 dV eP = some (r1, r2)) ∧ ah (kq ≤ k) ∧ ah (Kd.R Kd.string 9 w' w.heap.size (fun _ => True) v4 dV) ∧ ah (Below w.heap.size w w'))
 case atStart => exact ⟨_, _, rs, H', ⟨Nat.le_refl _⟩, ⟨ur aqd.out⟩, ⟨ul HB.out⟩⟩
 case round =>
  clear H'
  obtain ⟨dV, eP, rfl, HA, xG, iM, HB⟩ := hrel
  cases gk with
  | zero => exact zz HA.out
  | succ k1 =>
   obtain ⟨H⟩ := HA
   simp only [fD.l0] at H
   replace H := sd H
   rcases H with ⟨su, H⟩ | ⟨su, H⟩
   ·
    replace H := oL H; obtain ⟨nO, H⟩ := H; replace H := sq H
    rcases H with ⟨sD, Mc, H⟩ | ⟨c7, sD, Mc, H⟩
    ·
     have H' := ak H; clear H
     obtain ⟨p6, q6, hx6⟩ := bx a0 eP
     go_wp2
     go_roundg k1
     case measure => exact kl
     case rel => exact ⟨_, _, rs, H', ⟨kl⟩, ⟨ur iM.out⟩, ⟨ul HB.out⟩⟩
    ·
     replace H := sq H
     rcases H with ⟨yh, Fz, H⟩ | ⟨c9, yh, Fz, H⟩
     ·
      replace H := bd H
      obtain ⟨⟨aqe, aco⟩, VN, H⟩ := H
      (try dsimp only at H)
      replace H := sd H
      rcases H with ⟨uH, H⟩ | ⟨uH, H⟩
      ·
       obtain ⟨aEU, ajz⟩ := nm ([] : List ByteArray)
       rw [← ajz.out] at H
       obtain ⟨rfl, rfl⟩ := s2 H
       obtain ⟨p6, q6, hx6⟩ := bx a0 eP
       obtain ⟨p8, q8, hx8⟩ := bx a0 eP
       go_wp2_with (first | (refine gA Tryz.func198 (f_.calls VN.out) ?_; intro nd) | (refine gG 32 ?_; refine H7 32 Kd.string 9 ajz ?_; intro aEV w12 Uu hb; have aqf := ak (Kd.aC (Kd.gK Uu (Kd.kU (ur iM.out))) (aj (ul HB.out))); replace iM := ak (Kd.fP (ur iM.out) (Kd.fO Uu) hb); replace HB := bs HB hb; clear hb Uu))
       go_ret2
       exact ⟨_, er, ur (Kd.bn aqf.out (fun _ hk => trivial)), ul HB.out⟩
      ·
       replace H := sq H
       rcases H with ⟨qC, wI, H⟩ | ⟨c14, qC, wI, H⟩
       ·
        obtain ⟨aEW, ajA⟩ := nm ([] : List ByteArray)
        rw [← ajA.out] at H
        obtain ⟨rfl, rfl⟩ := s2 H
        obtain ⟨p6, q6, hx6⟩ := bx a0 eP
        obtain ⟨p8, q8, hx8⟩ := bx a0 eP
        go_wp2_with (first | (refine gA Tryz.func198 (f_.calls VN.out) ?_; intro nd) | (refine gG 64 ?_; refine H7 64 Kd.string 9 ajA ?_; intro aEX w15 amJ hb; have aqg := ak (Kd.aC (Kd.gK amJ (Kd.kU (ur iM.out))) (aj (ul HB.out))); replace iM := ak (Kd.fP (ur iM.out) (Kd.fO amJ) hb); replace HB := bs HB hb; clear hb amJ))
        go_ret2
        exact ⟨_, er, ur (Kd.bn aqg.out (fun _ hk => trivial)), ul HB.out⟩
       ·
        replace H := sd H
        rcases H with ⟨tJ, H⟩ | ⟨tJ, H⟩
        ·
         replace H := oL H; obtain ⟨zV, H⟩ := H; replace H := sq H
         rcases H with ⟨SH, V7, H⟩ | ⟨c20, SH, V7, H⟩
         ·
          replace H := nl H; obtain ⟨V8, H⟩ := H
          obtain ⟨aEY, ajB⟩ := nm (dV ++ [aqe])
          rw [← ajB.out] at H
          have H' := ak H; clear H
          obtain ⟨p6, q6, hx6⟩ := bx a0 eP
          obtain ⟨p8, q8, hx8⟩ := bx a0 eP
          go_wp2_with (first | (refine gA Tryz.func198 (f_.calls VN.out) ?_; intro nd; have p19 : 0 ≤ (aco : Int) := of_decide_eq_true (by assumption); have q19 : aco < (a0.size : Int) := of_decide_eq_true (by assumption); have ayz := vY a0 aco; replace p19 := eq_true p19; replace q19 := eq_true q19) | ((with_reducible refine eu (b := .append) (xs := #[.tmp 65, .tmp 67]) rfl ?_); (try (refine lD (by rfl) ?_; dsimp only)); at_builtin; refine aP 65 67 Kd.string 23 9 (.string ⟨#[]⟩) 16 Tryz.underlying23 info9 HB (ur iM.out) ajB (by have := V8.out; omega) ?_; intro aEZ X_ ho hb hg hat; have aqh := ak (ho); replace HB := ak (hb); clear ho hb hg hat iM))
          go_roundg k1
          case measure => exact kl
          case rel => exact ⟨_, _, rs, H', ⟨kl⟩, ⟨ur aqh.out⟩, ⟨ul HB.out⟩⟩
         ·
          obtain ⟨aE0, ajC⟩ := nm ([] : List ByteArray)
          rw [← ajC.out] at H
          obtain ⟨rfl, rfl⟩ := s2 H
          obtain ⟨p6, q6, hx6⟩ := bx a0 eP
          obtain ⟨p8, q8, hx8⟩ := bx a0 eP
          go_wp2_with (first | (refine gA Tryz.func198 (f_.calls VN.out) ?_; intro nd; have p19 : 0 ≤ (aco : Int) := of_decide_eq_true (by assumption); have q19 : aco < (a0.size : Int) := of_decide_eq_true (by assumption); have ayz := vY a0 aco; replace p19 := eq_true p19; replace q19 := eq_true q19) | (refine gG 64 ?_; refine H7 64 Kd.string 9 ajC ?_; intro aE1 w23 Uf hb; have aqi := ak (Kd.aC (Kd.gK Uf (Kd.kU (ur iM.out))) (aj (ul HB.out))); replace iM := ak (Kd.fP (ur iM.out) (Kd.fO Uf) hb); replace HB := bs HB hb; clear hb Uf))
          go_ret2
          exact ⟨_, er, ur (Kd.bn aqi.out (fun _ hk => trivial)), ul HB.out⟩
        ·
         replace H := nl H; obtain ⟨V9, H⟩ := H
         obtain ⟨aE2, ajD⟩ := nm (dV ++ [aqe])
         rw [← ajD.out] at H
         have H' := ak H; clear H
         obtain ⟨p6, q6, hx6⟩ := bx a0 eP
         obtain ⟨p8, q8, hx8⟩ := bx a0 eP
         go_wp2_with (first | (refine gA Tryz.func198 (f_.calls VN.out) ?_; intro nd) | ((with_reducible refine eu (b := .append) (xs := #[.tmp 65, .tmp 67]) rfl ?_); (try (refine lD (by rfl) ?_; dsimp only)); at_builtin; refine aP 65 67 Kd.string 23 9 (.string ⟨#[]⟩) 16 Tryz.underlying23 info9 HB (ur iM.out) ajD (by have := V9.out; omega) ?_; intro aE3 w26 ho hb hg hat; have aqj := ak (ho); replace HB := ak (hb); clear ho hb hg hat iM))
         go_roundg k1
         case measure => exact kl
         case rel => exact ⟨_, _, rs, H', ⟨kl⟩, ⟨ur aqj.out⟩, ⟨ul HB.out⟩⟩
     ·
      have H' := ak H; clear H
      obtain ⟨p6, q6, hx6⟩ := bx a0 eP
      obtain ⟨p8, q8, hx8⟩ := bx a0 eP
      go_wp2
      go_loopg [5] k1 (fun kq v5 w' => ∃ (rH : Int), v5 = .int .i64 rH ∧ ah (fD.l1 kq a0 dV rH eP = some (r1, r2)) ∧ ah (kq ≤ k1) ∧ ah (Kd.R Kd.string 9 w' w.heap.size (fun _ => True) u4 dV) ∧ ah (Below w.heap.size w w'))
      case atStart => exact ⟨_, rs, H', ⟨Nat.le_refl _⟩, ⟨ur iM.out⟩, ⟨ul HB.out⟩⟩
      case round =>
       clear H'
       try clear su
       try clear nO
       try clear p6
       try clear q6
       try clear hx6
       try clear c7
       try clear sD
       try clear Mc
       try clear p8
       try clear q8
       try clear hx8
       try clear c9
       try clear yh
       try clear Fz
       try clear p6
       try clear p8
       try clear q6
       try clear q8
       obtain ⟨rH, rfl, HA, Zw, iM, HB⟩ := hrel
       cases gk with
       | zero => exact zz HA.out
       | succ k2 =>
        obtain ⟨H⟩ := HA
        simp only [fD.l1] at H
        replace H := sd H
        rcases H with ⟨Fe, H⟩ | ⟨Fe, H⟩
        ·
         replace H := oL H; obtain ⟨Fg, H⟩ := H; replace H := bd H; obtain ⟨aqc, A30, H⟩ := H; replace H := sb H
         rcases H with ⟨rfl, H⟩ | ⟨rfl, H⟩
         ·
          have H' := ak H; clear H
          obtain ⟨p29, q29, hx29⟩ := bx a0 rH
          go_wp2_with (go_at_call 199; refine mA (jl.calls A30.out) ?_; intro nd)
          go_roundg k2
          case measure => exact kl
          case rel => exact ⟨_, rs, H', ⟨kl⟩, ⟨ur iM.out⟩, ⟨ul HB.out⟩⟩
         ·
          replace H := Ac H; obtain ⟨V_, adN, H⟩ := H; replace H := Ac H; obtain ⟨SI, adO, H⟩ := H; replace H := Ac H; obtain ⟨PX, PY, H⟩ := H; replace H := sq H
          rcases H with ⟨Wh, ZA, H⟩ | ⟨c35, Wh, ZA, H⟩
          ·
           obtain ⟨aE4, ajE⟩ := nm ([] : List ByteArray)
           rw [← ajE.out] at H
           obtain ⟨rfl, rfl⟩ := s2 H
           obtain ⟨p29, q29, hx29⟩ := bx a0 rH
           go_wp2_with (first | (go_at_call 199; refine mA (jl.calls A30.out) ?_; intro nd) | (refine gG 64 ?_; refine H7 64 Kd.string 9 ajE ?_; intro aE5 w36 amK hb; have aqk := ak (Kd.aC (Kd.gK amK (Kd.kU (ur iM.out))) (aj (ul HB.out))); replace iM := ak (Kd.fP (ur iM.out) (Kd.fO amK) hb); replace HB := bs HB hb; clear hb amK))
           go_ret2
           exact ⟨_, er, ur (Kd.bn aqk.out (fun _ hk => trivial)), ul HB.out⟩
          ·
           replace H := sq H
           rcases H with ⟨aql, aqm, H⟩ | ⟨c39, aql, aqm, H⟩
           ·
            replace H := nl H; obtain ⟨Wi, H⟩ := H
            obtain ⟨aE6, ajF⟩ := nm (dV ++ [a0.extract (eP : Int).toNat (rH : Int).toNat])
            rw [← ajF.out] at H
            have H' := ak H; clear H
            obtain ⟨p29, q29, hx29⟩ := bx a0 rH
            go_wp2_with (first | (go_at_call 199; refine mA (jl.calls A30.out) ?_; intro nd; have p38 : 0 ≤ (rH : Int) := of_decide_eq_true (by assumption); have q38 : rH < (a0.size : Int) := of_decide_eq_true (by assumption); have hx38 := vY a0 rH; replace p38 := eq_true p38; replace q38 := eq_true q38) | ((with_reducible refine eu (b := .append) (xs := #[.tmp 65, .tmp 67]) rfl ?_); (try (refine lD (by rfl) ?_; dsimp only)); at_builtin; refine aP 65 67 Kd.string 23 9 (.string ⟨#[]⟩) 16 Tryz.underlying23 info9 HB (ur iM.out) ajF (by have := Wi.out; omega) ?_; intro aE7 w41 ho hb hg hat; have aqn := ak (ho); replace HB := ak (hb); clear ho hb hg hat iM))
            go_roundg k2
            case measure => exact kl
            case rel => exact ⟨_, _, rs, H', ⟨kl⟩, ⟨ur aqn.out⟩, ⟨ul HB.out⟩⟩
           ·
            obtain ⟨aE8, ajG⟩ := nm ([] : List ByteArray)
            rw [← ajG.out] at H
            obtain ⟨rfl, rfl⟩ := s2 H
            obtain ⟨p29, q29, hx29⟩ := bx a0 rH
            go_wp2_with (first | (go_at_call 199; refine mA (jl.calls A30.out) ?_; intro nd; have p38 : 0 ≤ (rH : Int) := of_decide_eq_true (by assumption); have q38 : rH < (a0.size : Int) := of_decide_eq_true (by assumption); have hx38 := vY a0 rH; replace p38 := eq_true p38; replace q38 := eq_true q38) | (refine gG 64 ?_; refine H7 64 Kd.string 9 ajG ?_; intro aE9 w42 RN hb; have aqo := ak (Kd.aC (Kd.gK RN (Kd.kU (ur iM.out))) (aj (ul HB.out))); replace iM := ak (Kd.fP (ur iM.out) (Kd.fO RN) hb); replace HB := bs HB hb; clear hb RN))
            go_ret2
            exact ⟨_, er, ur (Kd.bn aqo.out (fun _ hk => trivial)), ul HB.out⟩
        ·
         replace H := Ac H; obtain ⟨aBT, aBU, H⟩ := H; replace H := Ac H; obtain ⟨aBV, aBW, H⟩ := H; replace H := Ac H; obtain ⟨aBX, aBY, H⟩ := H; replace H := sq H
         rcases H with ⟨aqp, aqr, H⟩ | ⟨c47, aqp, aqr, H⟩
         ·
          obtain ⟨aE_, ajH⟩ := nm ([] : List ByteArray)
          rw [← ajH.out] at H
          obtain ⟨rfl, rfl⟩ := s2 H
          go_wp2_with (refine gG 64 ?_; refine H7 64 Kd.string 9 ajH ?_; intro aFa w48 amL hb; have aqs := ak (Kd.aC (Kd.gK amL (Kd.kU (ur iM.out))) (aj (ul HB.out))); replace iM := ak (Kd.fP (ur iM.out) (Kd.fO amL) hb); replace HB := bs HB hb; clear hb amL)
          go_ret2
          exact ⟨_, er, ur (Kd.bn aqs.out (fun _ hk => trivial)), ul HB.out⟩
         ·
          replace H := nl H; obtain ⟨aqt, H⟩ := H
          obtain ⟨aFb, ajI⟩ := nm (dV ++ [a0.extract (eP : Int).toNat (rH : Int).toNat])
          rw [← ajI.out] at H
          have H' := ak H; clear H
          go_wp2_with ((with_reducible refine eu (b := .append) (xs := #[.tmp 65, .tmp 67]) rfl ?_); (try (refine lD (by rfl) ?_; dsimp only)); at_builtin; refine aP 65 67 Kd.string 23 9 (.string ⟨#[]⟩) 16 Tryz.underlying23 info9 HB (ur iM.out) ajI (by have := aqt.out; omega) ?_; intro aFc w51 ho hb hg hat; have aqu := ak (ho); replace HB := ak (hb); clear ho hb hg hat iM)
          go_roundg k2
          case measure => exact kl
          case rel => exact ⟨_, _, rs, H', ⟨kl⟩, ⟨ur aqu.out⟩, ⟨ul HB.out⟩⟩
   ·
    obtain ⟨rfl, rfl⟩ := s2 H
    go_wp2
    go_ret2
    exact ⟨_, er, ur iM.out, ul HB.out⟩
def kN.f (k : Nat) (a0 : ByteArray) : Option (Bool) := (bT.f k a0).bind fun aqv => (if aqv = true then ((iy.f a0).bind fun aqw => (some (aqw.toList == a0.toList))) else (some false))
theorem kN.calls {k : Nat} {a0 : ByteArray} {r : Bool} {w : World} (h : kN.f k a0 = some r) :
  Calls Tryz.prog 200 #[.string a0] w fun e w' => e = .returned (.bool r) ∧ Below w.heap.size w w' := by
 have HB := ak (Below.refl w.heap.size w)
 unfold kN.f at h; have H := h
 clear h
 replace H := bd H; obtain ⟨aqv, A2, H⟩ := H; replace H := sb H
 rcases H with ⟨rfl, H⟩ | ⟨rfl, H⟩
 ·
  replace H := bd H; obtain ⟨aqw, A4, H⟩ := H
  obtain rfl := s1 H
  go_enter Tryz.func200, Tryz.ntmps200
  go_wp2_with (first | (refine gA Tryz.func184 (bT.calls A2.out) ?_; intro nd) | (go_at_call 180; refine mB (iy.calls A4.out) ?_; intro w5 hb; replace HB := bs HB hb; clear hb))
  go_ret
  exact ⟨er, ul HB.out⟩
 ·
  obtain rfl := s1 H
  go_enter Tryz.func200, Tryz.ntmps200
  go_wp2_with (refine gA Tryz.func184 (bT.calls A2.out) ?_; intro nd)
  go_ret
  exact ⟨er, ul HB.out⟩
def rM.f (k : Nat) (a0 : ByteArray) : Option (Bool) := (aQ.f k a0).bind fun aqx => (if aqx = true then (some (decide ((a0.size : Int) ≤ 40))) else (some false))
theorem rM.calls {k : Nat} {a0 : ByteArray} {r : Bool} {w : World} (h : rM.f k a0 = some r) :
  Calls Tryz.prog 201 #[.string a0] w fun e w' => e = .returned (.bool r) ∧ dS w w' := by
 unfold rM.f at h; have H := h
 clear h
 replace H := bd H; obtain ⟨aqx, A2, H⟩ := H; replace H := sb H
 rcases H with ⟨rfl, H⟩ | ⟨rfl, H⟩
 ·
  obtain rfl := s1 H
  go_enter Tryz.func201, Tryz.ntmps201
  go_wp2_with (refine gA Tryz.func159 (aQ.calls A2.out) ?_; intro nd)
  go_ret
  exact ⟨rs, dn⟩
 ·
  obtain rfl := s1 H
  go_enter Tryz.func201, Tryz.ntmps201
  go_wp2_with (refine gA Tryz.func159 (aQ.calls A2.out) ?_; intro nd)
  go_ret
  exact ⟨rs, dn⟩
mutual
def dZ.l0 : Nat → ByteArray → Int → Option (Bool)
 | 0, _, _ => none
 | k + 1, x0, x3 => if x3 < (x0.size : Int) then (dZ.j1 k x0 x3 (decide (x3 ≤ 40))) else (dZ.j1 k x0 x3 false)
def dZ.j1 : Nat → ByteArray → Int → Bool → Option (Bool)
 | 0, _, _, _ => none
 | k + 1, x0, x3, x11 => if x11 = true then (if 0 ≤ x3 then (if x3 < (x0.size : Int) then ((jl.f k (bt x0 x3)).bind fun aqy => (if aqy = true then (dZ.l0 k x0 (wrap64 (x3 + 1))) else (some false))) else (none)) else (none)) else (if (x0.size : Int) ≥ 1 then (some (decide ((x0.size : Int) ≤ 40))) else (some false))
end
def dZ.f (k : Nat) (a0 : ByteArray) : Option (Bool) := dZ.l0 k a0 0
theorem dZ.calls {k : Nat} {a0 : ByteArray} {r : Bool} {w : World} (h : dZ.f k a0 = some r) :
  Calls Tryz.prog 214 #[.string a0] w fun e w' => e = .returned (.bool r) ∧ dS w w' := by
 unfold dZ.f at h; have H := h
 clear h
 have H' := ak H; clear H
 go_enter Tryz.func214, Tryz.ntmps214
 go_wp2
 go_loopg [3] k (fun kq v3 w' => ∃ (dM : Int), v3 = .int .i64 dM ∧ ah (dZ.l0 kq a0 dM = some r) ∧ ah (kq ≤ k) ∧ dS w w')
 case atStart => exact ⟨_, rs, H', ⟨Nat.le_refl _⟩, dn⟩
 case round =>
  clear H'
  obtain ⟨dM, rfl, HA, xG, ⟨m1, rfl⟩⟩ := hrel
  cases gk with
  | zero => exact zz HA.out
  | succ k1 =>
   obtain ⟨H⟩ := HA
   simp only [dZ.l0] at H
   have HC2 := ak H
   clear H
   go_upto_region 2 with (fail)
   go_cut [11] (fun v11 wc => ∃ (kq : Nat) (uU : Bool), v11 = .bool uU ∧ ah (dZ.j1 kq a0 dM uU = some r) ∧ ah (kq ≤ k1) ∧ dS w wc)
   case first =>
    have H := HC2.out
    clear HC2
    replace H := sd H
    rcases H with ⟨iO, H⟩ | ⟨iO, H⟩
    ·
     (first | rw [iO] | (simp only [dP, fG]; rw [iO]) | skip)
     have H' := ak H; clear H
     go_wp2
     go_meet
     case rel => exact ⟨_, _, rs, H', ⟨kl⟩, dn⟩
    ·
     (first | rw [iO] | (simp only [dP, fG]; rw [iO]) | skip)
     have H' := ak H; clear H
     go_wp2
     go_meet
     case rel => exact ⟨_, _, rs, H', ⟨kl⟩, dn⟩
   case rest =>
    clear HC2
    obtain ⟨kq, uU, rfl, HA, HJ1, ⟨mc1, rfl⟩⟩ := hcut
    cases kq with
    | zero => exact zz HA.out
    | succ Ox =>
     obtain ⟨H⟩ := HA
     simp only [dZ.j1] at H
     replace H := sb H
     rcases H with ⟨rfl, H⟩ | ⟨rfl, H⟩
     ·
      replace H := oL H; obtain ⟨nO, H⟩ := H; replace H := oL H; obtain ⟨oz, H⟩ := H; replace H := bd H; obtain ⟨aqy, A8, H⟩ := H; replace H := sb H
      rcases H with ⟨rfl, H⟩ | ⟨rfl, H⟩
      ·
       have H' := ak H; clear H
       obtain ⟨p7, q7, hx7⟩ := bx a0 dM
       go_wp2_with (refine gA Tryz.func199 (jl.calls A8.out) ?_; intro nd)
       go_roundg Ox
       case measure => exact kl
       case rel => exact ⟨_, rs, H', ⟨kl⟩, dn⟩
      ·
       obtain rfl := s1 H
       obtain ⟨p7, q7, hx7⟩ := bx a0 dM
       go_wp2_with (refine gA Tryz.func199 (jl.calls A8.out) ?_; intro nd)
       go_ret
       exact ⟨rs, dn⟩
     ·
      replace H := sp H
      rcases H with ⟨c10, H⟩ | ⟨c10, H⟩
      ·
       have oC : decide (1 ≤ (a0.size : Int)) = true := decide_eq_true c10
       have sS : decide (1 ≤ a0.size) = true := decide_eq_true (by omega)
       clear c10
       obtain rfl := s1 H
       go_wp2
       go_ret
       exact ⟨rs, dn⟩
      ·
       have oC : decide (1 ≤ (a0.size : Int)) = false := decide_eq_false c10
       have sS : decide (1 ≤ a0.size) = false := decide_eq_false (by omega)
       clear c10
       obtain rfl := s1 H
       go_wp2
       go_ret
       exact ⟨rs, dn⟩
end Go.Proofs.YtncdadcmghglkaaGreatDoor.PFnKidValid
