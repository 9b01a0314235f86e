/- Printed walks; conditions: those in each statement. -/
import Derived.Test.YtncdadcmghglkaaGreatDoorVFnPartLinesQt
import Derived.Test.YtncdadcmghglkaaGreatDoorVFnPartLinesYt
import Derived.Test.YtncdadcmghglkaaGreatDoorPFnPartLinesx0
import Derived.Test.YtncdadcmghglkaaGreatDoorPFnPartLinesx1
import Derived.Test.YtncdadcmghglkaaGreatDoorPFnPartLinesx8
import Derived.Test.YtncdadcmghglkaaGreatDoorPFnPartLinesx10
-- short
-- dense
-- sq
-- sq2
namespace Go.Proofs.YtncdadcmghglkaaGreatDoor.PFnPartLines
open Go.RowKit Go.Proofs.YtncdadcmghglkaaGreatDoor.X Go.Proofs.YtncdadcmghglkaaGreatDoorW.bI Go.Proofs.YtncdadcmghglkaaGreatDoorW.iy Go.Proofs.YtncdadcmghglkaaGreatDoorW.iZ
attribute [local go_sem] kZ lg nK nM jW jX lq lu   -- for this text's walks alone
set_option linter.unusedVariables false
set_option maxHeartbeats 8000000
set_option maxRecDepth 100000
set_option linter.unusedSimpArgs false
def uG.f (k : Nat) (l0 : List Int) : Option ((List (gX)) × List ByteArray × (List (nG))) := (sU.f l0).bind fun ac7 => ((dX.f k ac7.1 ac7.2 3).bind fun Y1 => ((dN.f k ac7.1 Y1.2.2.2 Y1.1 Y1.2.1 Y1.2.2.1).bind fun ac8 => (some (ac8.1, ac8.2.1, ac8.2.2.1))))
theorem uG.calls {k c0 : Nat} {A0 : Option Addr} {l0 : List Int} {r1 : List (gX)} {r2 : List ByteArray} {r3 : List (nG)} {w : World} (hr0 : Kd.C (Kd.int .u8) w A0 l0.length l0) (hc0 : l0.length ≤ c0) (h : uG.f k l0 = some (r1, r2, r3)) :
  Calls Tryz.prog 65 #[.slice A0 l0.length c0] w fun e w' => ∃ oV Di EG : Value, e = .returned (.agg #[oV, Di, EG]) ∧ Kd.R qI 69 w' w.heap.size (fun _ => True) oV r1 ∧ Kd.R Kd.string 9 w' w.heap.size (fun _ => True) Di r2 ∧ Kd.R k28 28 w' w.heap.size (fun k_ => some k_ ≠ (oV : Value).ownBlock ∧ some k_ ≠ (Di : Value).ownBlock) EG r3 ∧ Below w.heap.size w w' := by
 have EH := Tryz.underlying28
 have HR0 := ak hr0
 have xE := ak hc0
 clear hr0 hc0
 have HB := ak (Below.refl w.heap.size w)
 unfold uG.f at h; have H := h
 clear h
 replace H := bd H
 obtain ⟨⟨agr, ayd⟩, A2, H⟩ := H
 (try dsimp only at H)
 replace H := bd H
 obtain ⟨⟨ao4, ao5, ao6, ags⟩, A3, H⟩ := H
 (try dsimp only at H)
 replace H := bd H
 obtain ⟨⟨aye, ayf, ayg, aDJ⟩, A4, H⟩ := H
 (try dsimp only at H)
 obtain ⟨rfl, rfl, rfl⟩ := s3 H
 go_enter Tryz.func65, Tryz.ntmps65
 go_wp2_with (first | (refine bX HB 2 #[.slice none 0 0, .slice none 0 0, .slice none 0 0] 28 ?_; intro ac9 w5 EK aAY hb; replace HB := bs HB hb; clear hb) | (refine gL 55 5 Tryz.func55 #[.slice A0 l0.length c0] ?_; (with_reducible refine (sU.calls w ?fZ HR0.out xE.out A2.out).mono ?_); (case fZ => exact oJ); rintro e w6 ⟨abn, rfl, hi, hb, hb2⟩; refine ⟨_, rfl, ?_⟩; have ac_ := ak (hi); have abo := ak (aN.acF hi (qA (ub EK.out) hb2) (by decide)); have La := ak (Ne.symm (aN.acF hi (qA (ub EK.out) hb2) (by decide))); replace EK := kb EK hb2; replace HB := ak (hb); clear hb; (try clear hb2); (try clear hi)) | (refine gL 56 8 Tryz.func56 #[.pointer (some ⟨abn, 0, none⟩), .int .i64 3] ?_; (with_reducible refine (dX.calls k abn agr ayd 3 ao4 ao5 ao6 ags w _ ?fZ ?jc A3.out).mono ?_); (case fZ => exact oI); (case jc => exact oJ); rintro e w7 ⟨aDK, aDL, aDM, rfl, ho0, ho1, ho2, hi, hb, hk⟩; refine ⟨_, rfl, ?_⟩; have O8 := ak (Kd.aC ho0 (aj oJ)); have MO := ak (Kd.aC ho1 (aj oJ)); have Rj := ak (Kd.aC (Kd.nH ho2 (g := ac9) (o := .cells #[.slice none 0 0, .slice none 0 0, .slice none 0 0] 28 (0, 0)) (ub EK.out)) (aj oJ)); replace EK := kc EK hk La; replace HB := ak (hb); replace ac_ := ak (hi); clear hb; (try clear hk); (try clear hi); (try clear ho0); (try clear ho1); (try clear ho2); obtain ⟨Ao8, WR, eo8⟩ := Kd.aI O8.out; subst eo8; obtain ⟨Ao9, co9, eo9⟩ := Kd.aI MO.out; subst eo9; obtain ⟨ayh, ayi, ayj⟩ := Kd.aI Rj.out; subst ayj) | (refine gL 68 9 Tryz.func68 #[.pointer (some ⟨abn, 0, none⟩), .agg #[.slice Ao8 ao4.length WR, .slice Ao9 ao5.length co9, .slice ayh ao6.length ayi]] ?_; (with_reducible refine (dN.calls w ?fZ ?jc (Kd.O9 (aN.apart (show aN w _ abn agr ags from oI) (ur O8.out) (by decide)) (fun _ h_ => h_.2)) ((Kd.ay O8.out).2.1) (cu ((Kd.ay MO.out).2.2)) ((Kd.ay MO.out).2.1) (nU (aN.own_ne ac_.out MO.out (by decide))) (Kd.O9 (aN.apart (show aN w _ abn agr ags from oI) (ur Rj.out) (by decide)) (fun _ h_ => h_.2)) ((Kd.ay Rj.out).2.1) A4.out).mono ?_); (case fZ => exact oI); (case jc => exact oJ); rintro e U3 ⟨aDN, aDO, aDP, rfl, ho0, ho1, ho2, hi, hb, hk⟩; refine ⟨_, rfl, ?_⟩; have ao7 := ak (Kd.aC (Kd.dR ho0 (Kd.jh (ur O8.out))) (aj oJ)); have ao8 := ak (Kd.aC (Kd.dR ho1 (Kd.jh (ur MO.out))) (aj oJ)); have ao9 := ak (Kd.aC (Kd.nH (Kd.dR (Kd.dR (Kd.dR ho2 (Kd.jh (ur O8.out))) (Kd.jh (ur MO.out))) (Kd.jh (ur Rj.out))) (g := ac9) (o := .cells #[.slice none 0 0, .slice none 0 0, .slice none 0 0] 28 (0, 0)) (ub EK.out)) (aj oJ)); replace EK := kc EK hk La; replace O8 := kj O8 hk ho0; replace MO := kj MO hk ho1; replace Rj := ak (Kd.aY (Kd.sS (Kd.sS (Kd.sS (Kd.Td (aN.apart (show aN w _ abn agr ags from oI) (ur Rj.out) (by decide)) hk) (Kd.bZ ho0)) (Kd.bZ ho1)) (Kd.bZ ho2)) (fun _ h_ => h_.1)); replace HB := ak (hb); replace ac_ := ak (hi); clear hb; (try clear hk); (try clear hi); (try clear ho0); (try clear ho1); (try clear ho2); obtain ⟨y7, xP, OT⟩ := Kd.aI ao7.out; subst OT; have ail := La.out; have ain := abo.out; have z14 := kK EK.out; obtain ⟨KZ, K_, S9⟩ := Kd.aI ao8.out; subst S9; obtain ⟨Vb, Vd, TD⟩ := Kd.aI ao9.out; subst TD))
 refine bodyPost_ret (results_cell_row rfl _ _ ac9 28 #[.slice y7 aye.length xP, .slice KZ ayf.length K_, .slice Vb ayg.length Vd] (0, 0) _ rfl bq Tryz.underlying28 rfl (by kernel_rfl)) rfl ?_
 exact ⟨_, _, _, er, rr, rr, rr, oJ⟩
def lT.f (k : Nat) (l0 : List Int) : Option ((List (gX)) × List ByteArray × (List (nG))) := (uG.f k l0).bind fun ada => (some (ada.1, ada.2.1, ada.2.2))
theorem lT.calls {k c0 : Nat} {A0 : Option Addr} {l0 : List Int} {r1 : List (gX)} {r2 : List ByteArray} {r3 : List (nG)} {w : World} (hr0 : Kd.C (Kd.int .u8) w A0 l0.length l0) (hc0 : l0.length ≤ c0) (h : lT.f k l0 = some (r1, r2, r3)) :
  Calls Tryz.prog 23 #[.slice A0 l0.length c0] w fun e w' => ∃ oV Di EG : Value, e = .returned (.agg #[oV, Di, EG]) ∧ Kd.R qI 69 w' w.heap.size (fun _ => True) oV r1 ∧ Kd.R Kd.string 9 w' w.heap.size (fun _ => True) Di r2 ∧ Kd.R k28 28 w' w.heap.size (fun k_ => some k_ ≠ (oV : Value).ownBlock ∧ some k_ ≠ (Di : Value).ownBlock) EG r3 ∧ Below w.heap.size w w' := by
 have EH := Tryz.underlying28
 have HR0 := ak hr0
 have xE := ak hc0
 clear hr0 hc0
 have HB := ak (Below.refl w.heap.size w)
 unfold lT.f at h; have H := h
 clear h
 replace H := bd H
 obtain ⟨⟨ayk, ayl, aym⟩, A2, H⟩ := H
 (try dsimp only at H)
 obtain ⟨rfl, rfl, rfl⟩ := s3 H
 go_enter Tryz.func23, Tryz.ntmps23
 go_wp2_with (first | (refine bX HB 2 #[.slice none 0 0, .slice none 0 0, .slice none 0 0] 28 ?_; intro aio w3 Y2 aAZ hb; replace HB := bs HB hb; clear hb) | (refine gL 65 4 Tryz.func65 #[.slice A0 l0.length c0] ?_; (with_reducible refine (uG.calls (cu (Kd.bf HR0.out HB.out)) xE.out A2.out).mono ?_); rintro e w4 ⟨aDQ, aDR, aDS, rfl, ho0, ho1, ho2, hb⟩; refine ⟨_, rfl, ?_⟩; have ao_ := ak (Kd.aC ho0 (aj bb)); have apa := ak (Kd.aC ho1 (aj bb)); have apb := ak (Kd.aC (Kd.nH ho2 (g := aio) (o := .cells #[.slice none 0 0, .slice none 0 0, .slice none 0 0] 28 (0, 0)) (ub Y2.out)) (aj bb)); replace Y2 := kb Y2 hb; replace HB := bz HB hb; clear hb; (try clear ho0); (try clear ho1); (try clear ho2); obtain ⟨Ao5, co5, eo5⟩ := Kd.aI ao_.out; subst eo5; have z6 := kK Y2.out; obtain ⟨Ao7, co7, eo7⟩ := Kd.aI apa.out; subst eo7; obtain ⟨Ao8, WR, eo8⟩ := Kd.aI apb.out; subst eo8))
 refine bodyPost_ret (results_cell_row rfl _ _ aio 28 #[.slice Ao5 ayk.length co5, .slice Ao7 ayl.length co7, .slice Ao8 aym.length WR] (0, 0) _ rfl bq Tryz.underlying28 rfl (by kernel_rfl)) rfl ?_
 exact ⟨_, _, _, er, rr, rr, rr, bb⟩
def bg.l0 : Nat → ByteArray → Int → Int → Option (Bool)
 | 0, _, _, _ => none
 | k + 1, x0, x5, x6 => if x6 < x5 then (if 0 ≤ x6 then (if x6 < (x0.size : Int) then (if (bt x0 x6) < 32 then (some false) else (if (bt x0 x6) > 126 then (some false) else (bg.l0 k x0 x5 (wrap64 (x6 + 1))))) else (none)) else (none)) else (some (decide ((x0.size : Int) ≤ 200)))
def bg.f (k : Nat) (a0 : ByteArray) : Option (Bool) := bg.l0 k a0 (a0.size : Int) 0
theorem bg.calls {k : Nat} {a0 : ByteArray} {r : Bool} {w : World} (h : bg.f k a0 = some r) :
  Calls Tryz.prog 89 #[.string a0] w fun e w' => e = .returned (.bool r) ∧ dP w w' := by
 unfold bg.f at h; have H := h
 clear h
 have H' := ak H; clear H
 go_enter Tryz.func89, Tryz.ntmps89
 go_wp2
 go_loopg [6] k (fun kq v6 w' => ∃ (jy : Int), v6 = .int .i64 jy ∧ ah (bg.l0 kq a0 (a0.size : Int) jy = some r) ∧ ah (kq ≤ k) ∧ dP w w')
 case atStart => exact ⟨_, rs, H', ⟨Nat.le_refl _⟩, dn⟩
 case round =>
  clear H'
  obtain ⟨jy, rfl, HA, xI, ⟨m1, rfl⟩⟩ := hrel
  cases gk with
  | zero => exact zz HA.out
  | succ k1 =>
   obtain ⟨H⟩ := HA
   simp only [bg.l0] at H
   replace H := sd H
   rcases H with ⟨ou, H⟩ | ⟨ou, H⟩
   ·
    replace H := oq H; obtain ⟨iO, H⟩ := H; replace H := oq H; obtain ⟨qR, H⟩ := H; replace H := sd H
    rcases H with ⟨nN, H⟩ | ⟨nN, H⟩
    ·
     obtain rfl := s1 H
     obtain ⟨p5, q5, hx5⟩ := bx a0 jy
     go_wp2
     go_ret
     exact ⟨rs, dn⟩
    ·
     replace H := sp H
     rcases H with ⟨c8, H⟩ | ⟨c8, H⟩
     ·
      have tX : decide (126 < (bt a0 jy)) = true := decide_eq_true c8
      clear c8
      obtain rfl := s1 H
      obtain ⟨p5, q5, hx5⟩ := bx a0 jy
      obtain ⟨p7, q7, hx7⟩ := bx a0 jy
      go_wp2
      go_ret
      exact ⟨rs, dn⟩
     ·
      have tX : decide (126 < (bt a0 jy)) = false := decide_eq_false c8
      clear c8
      have H' := ak H; clear H
      obtain ⟨p5, q5, hx5⟩ := bx a0 jy
      obtain ⟨p7, q7, hx7⟩ := bx a0 jy
      go_wp2
      go_roundg k1
      case measure => exact kl
      case rel => exact ⟨_, rs, H', ⟨kl⟩, dn⟩
   ·
    obtain rfl := s1 H
    go_wp2
    go_ret
    exact ⟨rs, dn⟩
def kH.f (a0 : ByteArray) (a1 : ByteArray) : Option (ByteArray) := if a1.data.toList = [32] then (if a0.size ≤ 9223372036854775807 then some ⟨(Lib.trimB a0.data.toList 32).toArray⟩ else none) else none
theorem kH.calls {a0 a1 r : ByteArray} {w : World} (h : kH.f a0 a1 = some r) :
  Calls Tryz.prog 92 #[.string a0, .string a1] w fun e w' => e = .returned (.string r) ∧ dP w w' := by
 unfold kH.f at h
 split at h
 ·
  rename_i h1
  split at h
  ·
   rename_i hs
   injection h with h
   subst h
   have e1 : a1 = ⟨#[32]⟩ := by
    cases a1 with
    | mk d => exact congrArg ByteArray.mk (Array.toList_inj.mp h1)
   subst e1
   refine (Tryz.strings_Trim_one a0 32 (by decide) w hs).mono ?_
   rintro e w' ⟨he, hw⟩
   refine ⟨he, ?_⟩
   rcases hw with rfl | rfl
   ·
    exact ⟨⟨0, rfl⟩⟩
   ·
    exact ⟨⟨1, rfl⟩⟩
  ·
   cases h
 ·
  cases h
def bC.f (a0 : Int) : Option (Bool) := if a0 ≥ 97 then (if a0 ≤ 122 then (some true) else (if a0 ≥ 65 then (some (decide (a0 ≤ 90))) else (some false))) else (if a0 ≥ 65 then (some (decide (a0 ≤ 90))) else (some false))
theorem bC.calls {a0 : Int} {r : Bool} {w : World} (h : bC.f a0 = some r) :
  Calls Tryz.prog 140 #[.int .u8 a0] w fun e w' => e = .returned (.bool r) ∧ dP w w' := by
 unfold bC.f at h; have H := h
 clear h
 replace H := sp H
 rcases H with ⟨c2, H⟩ | ⟨c2, H⟩
 ·
  have ou : decide (97 ≤ a0) = true := decide_eq_true c2
  clear c2
  replace H := sd H
  rcases H with ⟨iO, H⟩ | ⟨iO, H⟩
  ·
   obtain rfl := s1 H
   go_enter Tryz.func140, Tryz.ntmps140
   go_wp2
   go_ret
   exact ⟨rs, dn⟩
  ·
   replace H := sp H
   rcases H with ⟨c4, H⟩ | ⟨c4, H⟩
   ·
    have qR : decide (65 ≤ a0) = true := decide_eq_true c4
    clear c4
    obtain rfl := s1 H
    go_enter Tryz.func140, Tryz.ntmps140
    go_wp2
    go_ret
    exact ⟨rs, dn⟩
   ·
    have qR : decide (65 ≤ a0) = false := decide_eq_false c4
    clear c4
    obtain rfl := s1 H
    go_enter Tryz.func140, Tryz.ntmps140
    go_wp2
    go_ret
    exact ⟨rs, dn⟩
 ·
  have ou : decide (97 ≤ a0) = false := decide_eq_false c2
  clear c2
  replace H := sp H
  rcases H with ⟨c5, H⟩ | ⟨c5, H⟩
  ·
   have mW : decide (65 ≤ a0) = true := decide_eq_true c5
   clear c5
   obtain rfl := s1 H
   go_enter Tryz.func140, Tryz.ntmps140
   go_wp2
   go_ret
   exact ⟨rs, dn⟩
  ·
   have mW : decide (65 ≤ a0) = false := decide_eq_false c5
   clear c5
   obtain rfl := s1 H
   go_enter Tryz.func140, Tryz.ntmps140
   go_wp2
   go_ret
   exact ⟨rs, dn⟩
def dF.f (a0 : Int) : Option (Bool) := if a0 ≥ 48 then (some (decide (a0 ≤ 57))) else (some false)
theorem dF.calls {a0 : Int} {r : Bool} {w : World} (h : dF.f a0 = some r) :
  Calls Tryz.prog 141 #[.int .u8 a0] w fun e w' => e = .returned (.bool r) ∧ dP w w' := by
 unfold dF.f at h; have H := h
 clear h
 replace H := sp H
 rcases H with ⟨c2, H⟩ | ⟨c2, H⟩
 ·
  have ou : decide (48 ≤ a0) = true := decide_eq_true c2
  clear c2
  obtain rfl := s1 H
  go_enter Tryz.func141, Tryz.ntmps141
  go_wp2
  go_ret
  exact ⟨rs, dn⟩
 ·
  have ou : decide (48 ≤ a0) = false := decide_eq_false c2
  clear c2
  obtain rfl := s1 H
  go_enter Tryz.func141, Tryz.ntmps141
  go_wp2
  go_ret
  exact ⟨rs, dn⟩
def qm.f (a0 : Int) : Option (Bool) := (bC.f a0).bind fun apc => (if apc = true then (some true) else ((dF.f a0).bind fun apd => (if apd = true then (some true) else (some (a0 == 45)))))
theorem qm.calls {a0 : Int} {r : Bool} {w : World} (h : qm.f a0 = some r) :
  Calls Tryz.prog 185 #[.int .u8 a0] w fun e w' => e = .returned (.bool r) ∧ dP w w' := by
 unfold qm.f at h; have H := h
 clear h
 replace H := bd H; obtain ⟨apc, A2, H⟩ := H; replace H := sb H
 rcases H with ⟨rfl, H⟩ | ⟨rfl, H⟩
 ·
  obtain rfl := s1 H
  go_enter Tryz.func185, Tryz.ntmps185
  go_wp2_with (refine gA Tryz.func140 (bC.calls A2.out) ?_; intro nd)
  go_ret
  exact ⟨rs, dn⟩
 ·
  replace H := bd H; obtain ⟨apd, A4, H⟩ := H; replace H := sb H
  rcases H with ⟨rfl, H⟩ | ⟨rfl, H⟩
  ·
   obtain rfl := s1 H
   go_enter Tryz.func185, Tryz.ntmps185
   go_wp2_with (first | (refine gA Tryz.func140 (bC.calls A2.out) ?_; intro nd) | (go_at_call 141; refine mA (dF.calls A4.out) ?_; intro nd))
   go_ret
   exact ⟨rs, dn⟩
  ·
   obtain rfl := s1 H
   go_enter Tryz.func185, Tryz.ntmps185
   go_wp2_with (first | (refine gA Tryz.func140 (bC.calls A2.out) ?_; intro nd) | (go_at_call 141; refine mA (dF.calls A4.out) ?_; intro nd))
   go_ret
   exact ⟨rs, dn⟩
def eF.l0 : Nat → ByteArray → Int → Int → Option (Bool)
 | 0, _, _, _ => none
 | k + 1, x0, x7, x8 => if x8 < x7 then (if 0 ≤ x8 then (if x8 < (x0.size : Int) then ((qm.f (bt x0 x8)).bind fun ape => (if ape = true then (eF.l0 k x0 x7 (wrap64 (x8 + 1))) else (some false))) else (none)) else (none)) else (some true)
def eF.f (k : Nat) (a0 : ByteArray)  : Option (Bool) := eF.l0 k a0 (a0.size : Int) 0
theorem eF.calls {k : Nat} {a0 : ByteArray} {r : Bool} {w : World} (h : eF.f k a0 = some r) :
  Calls Tryz.prog 138 #[.string a0, .func (.func 185) #[] #[]] w fun e w' => e = .returned (.bool r) ∧ dP w w' := by
 unfold eF.f at h; have H := h
 clear h
 have H' := ak H; clear H
 go_enter Tryz.func138, Tryz.ntmps138
 go_wp2
 go_loopg [8] k (fun kq v8 w' => ∃ (kL : Int), v8 = .int .i64 kL ∧ ah (eF.l0 kq a0 (a0.size : Int) kL = some r) ∧ ah (kq ≤ k) ∧ dP w w')
 case atStart => exact ⟨_, rs, H', ⟨Nat.le_refl _⟩, dn⟩
 case round =>
  clear H'
  obtain ⟨kL, rfl, HA, xI, ⟨m1, rfl⟩⟩ := hrel
  cases gk with
  | zero => exact zz HA.out
  | succ k1 =>
   obtain ⟨H⟩ := HA
   simp only [eF.l0] at H
   replace H := sd H
   rcases H with ⟨iO, H⟩ | ⟨iO, H⟩
   ·
    replace H := oq H; obtain ⟨qR, H⟩ := H; replace H := oq H; obtain ⟨mW, H⟩ := H; replace H := bd H; obtain ⟨ape, A7, H⟩ := H; replace H := sb H
    rcases H with ⟨rfl, H⟩ | ⟨rfl, H⟩
    ·
     have H' := ak H; clear H
     obtain ⟨p6, q6, hx6⟩ := bx a0 kL
     go_wp2_with (go_at_call 185; refine mA (qm.calls A7.out) ?_; intro nd)
     go_roundg k1
     case measure => exact kl
     case rel => exact ⟨_, rs, H', ⟨kl⟩, dn⟩
    ·
     obtain rfl := s1 H
     obtain ⟨p6, q6, hx6⟩ := bx a0 kL
     go_wp2_with (go_at_call 185; refine mA (qm.calls A7.out) ?_; intro nd)
     go_ret
     exact ⟨rs, dn⟩
   ·
    obtain rfl := s1 H
    go_wp2
    go_ret
    exact ⟨rs, dn⟩
def jk.f (k : Nat) (a0 : ByteArray) : Option (Bool) := if (a0.size : Int) ≥ 1 then (if (a0.size : Int) ≤ 30 then (if 0 < (a0.size : Int) then ((bC.f (bt a0 0)).bind fun apf => (if apf = true then ((eF.f k a0).bind fun apg => (some apg)) else (some false))) else (none)) else (some false)) else (some false)
theorem jk.calls {k : Nat} {a0 : ByteArray} {r : Bool} {w : World} (h : jk.f k a0 = some r) :
  Calls Tryz.prog 160 #[.string a0] w fun e w' => e = .returned (.bool r) ∧ dP w w' := by
 unfold jk.f at h; have H := h
 clear h
 replace H := sp H
 rcases H with ⟨c2, H⟩ | ⟨c2, H⟩
 ·
  have ou : decide (1 ≤ (a0.size : Int)) = true := decide_eq_true c2
  have vK : decide (1 ≤ a0.size) = true := decide_eq_true (by omega)
  clear c2
  replace H := sp H
  rcases H with ⟨c3, H⟩ | ⟨c3, H⟩
  ·
   have iO := decide_eq_true c3
   have yK : decide (a0.size ≤ 30) = true := decide_eq_true (by omega)
   clear c3
   replace H := nn H; obtain ⟨c4, H⟩ := H
   have qR := decide_eq_true c4
   have Xk : decide (0 < a0.size) = true := decide_eq_true (by omega)
   clear c4
   replace H := bd H; obtain ⟨apf, A6, H⟩ := H; replace H := sb H
   rcases H with ⟨rfl, H⟩ | ⟨rfl, H⟩
   ·
    replace H := bd H; obtain ⟨apg, A8, H⟩ := H
    obtain rfl := s1 H
    have p5 : 0 ≤ (0 : Int) := (by omega)
    have q5 : 0 < a0.size := (by have : (0 : Int) < (a0.size : Int) := of_decide_eq_true (by assumption); omega)
    have hx5 : ∀ h : 0 < a0.size, ((a0[0]'h).toNat : Int) = bt a0 0 := vH a0 0
    clear p5
    have qi5 : (0 < (a0.size : Int)) = True := eq_true (of_decide_eq_true (by assumption))
    replace q5 := eq_true q5
    go_enter Tryz.func160, Tryz.ntmps160
    go_wp2_with (first | (go_at_call 140; refine mA (bC.calls A6.out) ?_; intro nd) | (go_at_call 138; refine mA (eF.calls A8.out) ?_; intro nd))
    go_ret
    exact ⟨rs, dn⟩
   ·
    obtain rfl := s1 H
    have p5 : 0 ≤ (0 : Int) := (by omega)
    have q5 : 0 < a0.size := (by have : (0 : Int) < (a0.size : Int) := of_decide_eq_true (by assumption); omega)
    have hx5 : ∀ h : 0 < a0.size, ((a0[0]'h).toNat : Int) = bt a0 0 := vH a0 0
    clear p5
    have qi5 : (0 < (a0.size : Int)) = True := eq_true (of_decide_eq_true (by assumption))
    replace q5 := eq_true q5
    go_enter Tryz.func160, Tryz.ntmps160
    go_wp2_with (go_at_call 140; refine mA (bC.calls A6.out) ?_; intro nd)
    go_ret
    exact ⟨rs, dn⟩
  ·
   have iO := decide_eq_false c3
   have yK : decide (a0.size ≤ 30) = false := decide_eq_false (by omega)
   clear c3
   obtain rfl := s1 H
   go_enter Tryz.func160, Tryz.ntmps160
   go_wp2
   go_ret
   exact ⟨rs, dn⟩
 ·
  have ou : decide (1 ≤ (a0.size : Int)) = false := decide_eq_false c2
  have vK : decide (1 ≤ a0.size) = false := decide_eq_false (by omega)
  clear c2
  obtain rfl := s1 H
  go_enter Tryz.func160, Tryz.ntmps160
  go_wp2
  go_ret
  exact ⟨rs, dn⟩
def pJ.f (k : Nat) (eG : ByteArray) (eU : ByteArray) : Option (Bool) := (jk.f k eG).bind fun aph => (if aph = true then ((bg.f k eU).bind fun apj => (if apj = true then (if (eU.size : Int) ≤ 150 then ((kH.f eU (⟨#[32]⟩ : ByteArray)).bind fun apk => (some (apk.toList == eU.toList))) else (some false)) else (some false))) else (some false))
theorem pJ.calls {k : Nat} {eG eU : ByteArray} {r : Bool} {w : World} (h : pJ.f k eG eU = some r) :
  Calls Tryz.prog 120 #[.agg #[.string eG, .string eU]] w fun e w' => e = .returned (.bool r) ∧ Below w.heap.size w w' := by
 have Dn := Tryz.underlying69
 have HB := ak (Below.refl w.heap.size w)
 unfold pJ.f at h; have H := h
 clear h
 replace H := bd H; obtain ⟨aph, A2, H⟩ := H; replace H := sb H
 rcases H with ⟨rfl, H⟩ | ⟨rfl, H⟩
 ·
  replace H := bd H; obtain ⟨apj, A4, H⟩ := H; replace H := sb H
  rcases H with ⟨rfl, H⟩ | ⟨rfl, H⟩
  ·
   replace H := sp H
   rcases H with ⟨c6, H⟩ | ⟨c6, H⟩
   ·
    have nN := decide_eq_true c6
    have wR : decide (eU.size ≤ 150) = true := decide_eq_true (by omega)
    clear c6
    replace H := bd H; obtain ⟨apk, A7, H⟩ := H
    obtain rfl := s1 H
    go_enter Tryz.func120, Tryz.ntmps120
    go_wp2_with (first | (refine gG 1 ?_; refine bX HB 1 #[.string eG, .string eU] 69 ?_; intro EL w8 uH EM hb; replace HB := bs HB hb; clear hb; have z9 := zC uH.out) | (go_at_call 160; refine mA (jk.calls A2.out) ?_; intro nd; (try exact dq)) | (go_at_call 89; refine mA (bg.calls A4.out) ?_; intro nd; (try exact dq)) | (go_at_call 92; refine mA (kH.calls A7.out) ?_; intro nd; (try exact dq)))
    repeat (go_quiet (first | (refine gG 1 ?_; refine bX HB 1 #[.string eG, .string eU] 69 ?_; intro EL w8 uH EM hb; replace HB := bs HB hb; clear hb; have z9 := zC uH.out) | (go_at_call 160; refine mA (jk.calls A2.out) ?_; intro nd; (try exact dq)) | (go_at_call 89; refine mA (bg.calls A4.out) ?_; intro nd; (try exact dq)) | (go_at_call 92; refine mA (kH.calls A7.out) ?_; intro nd; (try exact dq))); try go_wp2_with (first | (refine gG 1 ?_; refine bX HB 1 #[.string eG, .string eU] 69 ?_; intro EL w8 uH EM hb; replace HB := bs HB hb; clear hb; have z9 := zC uH.out) | (go_at_call 160; refine mA (jk.calls A2.out) ?_; intro nd; (try exact dq)) | (go_at_call 89; refine mA (bg.calls A4.out) ?_; intro nd; (try exact dq)) | (go_at_call 92; refine mA (kH.calls A7.out) ?_; intro nd; (try exact dq))))
    go_ret
    exact ⟨er, bb⟩
   ·
    have nN := decide_eq_false c6
    have wR : decide (eU.size ≤ 150) = false := decide_eq_false (by omega)
    clear c6
    obtain rfl := s1 H
    go_enter Tryz.func120, Tryz.ntmps120
    go_wp2_with (first | (refine gG 1 ?_; refine bX HB 1 #[.string eG, .string eU] 69 ?_; intro EL w10 uH EM hb; replace HB := bs HB hb; clear hb; have z11 := zC uH.out) | (go_at_call 160; refine mA (jk.calls A2.out) ?_; intro nd; (try exact dq)) | (go_at_call 89; refine mA (bg.calls A4.out) ?_; intro nd; (try exact dq)))
    repeat (go_quiet (first | (refine gG 1 ?_; refine bX HB 1 #[.string eG, .string eU] 69 ?_; intro EL w10 uH EM hb; replace HB := bs HB hb; clear hb; have z11 := zC uH.out) | (go_at_call 160; refine mA (jk.calls A2.out) ?_; intro nd; (try exact dq)) | (go_at_call 89; refine mA (bg.calls A4.out) ?_; intro nd; (try exact dq))); try go_wp2_with (first | (refine gG 1 ?_; refine bX HB 1 #[.string eG, .string eU] 69 ?_; intro EL w10 uH EM hb; replace HB := bs HB hb; clear hb; have z11 := zC uH.out) | (go_at_call 160; refine mA (jk.calls A2.out) ?_; intro nd; (try exact dq)) | (go_at_call 89; refine mA (bg.calls A4.out) ?_; intro nd; (try exact dq))))
    go_ret
    exact ⟨er, bb⟩
  ·
   obtain rfl := s1 H
   go_enter Tryz.func120, Tryz.ntmps120
   go_wp2_with (first | (refine gG 1 ?_; refine bX HB 1 #[.string eG, .string eU] 69 ?_; intro EL w12 uH EM hb; replace HB := bs HB hb; clear hb; have z13 := zC uH.out) | (go_at_call 160; refine mA (jk.calls A2.out) ?_; intro nd; (try exact dq)) | (go_at_call 89; refine mA (bg.calls A4.out) ?_; intro nd; (try exact dq)))
   repeat (go_quiet (first | (refine gG 1 ?_; refine bX HB 1 #[.string eG, .string eU] 69 ?_; intro EL w12 uH EM hb; replace HB := bs HB hb; clear hb; have z13 := zC uH.out) | (go_at_call 160; refine mA (jk.calls A2.out) ?_; intro nd; (try exact dq)) | (go_at_call 89; refine mA (bg.calls A4.out) ?_; intro nd; (try exact dq))); try go_wp2_with (first | (refine gG 1 ?_; refine bX HB 1 #[.string eG, .string eU] 69 ?_; intro EL w12 uH EM hb; replace HB := bs HB hb; clear hb; have z13 := zC uH.out) | (go_at_call 160; refine mA (jk.calls A2.out) ?_; intro nd; (try exact dq)) | (go_at_call 89; refine mA (bg.calls A4.out) ?_; intro nd; (try exact dq))))
   go_ret
   exact ⟨er, bb⟩
 ·
  obtain rfl := s1 H
  go_enter Tryz.func120, Tryz.ntmps120
  go_wp2_with (first | (refine gG 1 ?_; refine bX HB 1 #[.string eG, .string eU] 69 ?_; intro EL SS uH EM hb; replace HB := bs HB hb; clear hb; have z15 := zC uH.out) | (go_at_call 160; refine mA (jk.calls A2.out) ?_; intro nd; (try exact dq)))
  repeat (go_quiet (first | (refine gG 1 ?_; refine bX HB 1 #[.string eG, .string eU] 69 ?_; intro EL SS uH EM hb; replace HB := bs HB hb; clear hb; have z15 := zC uH.out) | (go_at_call 160; refine mA (jk.calls A2.out) ?_; intro nd; (try exact dq))); try go_wp2_with (first | (refine gG 1 ?_; refine bX HB 1 #[.string eG, .string eU] 69 ?_; intro EL SS uH EM hb; replace HB := bs HB hb; clear hb; have z15 := zC uH.out) | (go_at_call 160; refine mA (jk.calls A2.out) ?_; intro nd; (try exact dq))))
  go_ret
  exact ⟨er, bb⟩
def mV.f (k : Nat) (eG : ByteArray) (eU : ByteArray) : Option (Bool) := (pJ.f k eG eU).bind fun apl => (some (!apl))
theorem mV.calls {k : Nat} {eG eU : ByteArray} {r : Bool} {w : World} (h : mV.f k eG eU = some r) :
  Calls Tryz.prog 119 #[.agg #[.string eG, .string eU]] w fun e w' => e = .returned (.bool r) ∧ Below w.heap.size w w' := by
 have Dn := Tryz.underlying69
 have HB := ak (Below.refl w.heap.size w)
 unfold mV.f at h; have H := h
 clear h
 replace H := bd H; obtain ⟨apl, A2, H⟩ := H
 obtain rfl := s1 H
 go_enter Tryz.func119, Tryz.ntmps119
 go_wp2_with (first | (refine bX HB 1 #[.string eG, .string eU] 69 ?_; intro aA0 w3 adb aA1 hb; replace HB := bs HB hb; clear hb; have z4 := zC adb.out) | (refine gB Tryz.func120 (pJ.calls A2.out) ?_; intro w5 hb; replace adb := kb adb hb; replace HB := bz HB hb; clear hb))
 go_ret
 exact ⟨er, bb⟩
def bT.l0 : Nat → List (gX) → Int → Int → Option (Int)
 | 0, _, _, _ => none
 | k + 1, x0, x7, x8 => if x8 < x7 then (if 0 ≤ x8 then (if x8 < (x0.length : Int) then ((mV.f k ((fC x0 x8).f0) ((fC x0 x8).f1)).bind fun apm => (if apm = true then (some x8) else (bT.l0 k x0 x7 (wrap64 (x8 + 1))))) else (none)) else (none)) else (some (-1))
def bT.f (k : Nat) (l0 : List (gX))  : Option (Int) := bT.l0 k l0 (l0.length : Int) 0
theorem bT.calls {k c0 : Nat} {A0 : Option Addr} {l0 : List (gX)} {r : Int} {w : World} (hr0 : Kd.C qI w A0 l0.length l0) (hc0 : l0.length ≤ c0) (h : bT.f k l0 = some r) :
  Calls Tryz.prog 122 #[.slice A0 l0.length c0, .func (.func 119) #[] #[]] w fun e w' => e = .returned (.int .i64 r) ∧ Below w.heap.size w w' := by
 have Dn := Tryz.underlying69
 have HR0 := ak hr0
 have xE := ak hc0
 clear hr0 hc0
 have HB := ak (Below.refl w.heap.size w)
 unfold bT.f at h; have H := h
 clear h
 have H' := ak H; clear H
 go_enter Tryz.func122, Tryz.ntmps122
 go_wp2
 go_loopg [8] k (fun kq v8 w' => ∃ (kL : Int), v8 = .int .i64 kL ∧ ah (bT.l0 kq l0 (l0.length : Int) kL = some r) ∧ ah (kq ≤ k) ∧ ah (Below w.heap.size w w'))
 case atStart => exact ⟨_, rs, H', ⟨Nat.le_refl _⟩, ⟨ul HB.out⟩⟩
 case round =>
  clear H'
  obtain ⟨kL, rfl, HA, xI, HB⟩ := hrel
  cases gk with
  | zero => exact zz HA.out
  | succ k1 =>
   obtain ⟨H⟩ := HA
   simp only [bT.l0] at H
   replace H := sd H
   rcases H with ⟨iO, H⟩ | ⟨iO, H⟩
   ·
    replace H := oq H; obtain ⟨qR, H⟩ := H; replace H := oq H; obtain ⟨mW, H⟩ := H; replace H := bd H; obtain ⟨apm, A6, H⟩ := H; replace H := sb H
    rcases H with ⟨rfl, H⟩ | ⟨rfl, H⟩
    ·
     obtain rfl := s1 H
     have Xl := zi kL
     have Xm := zj kL l0.length
     obtain ⟨apn, alH, I7, I8⟩ := qL HR0.out kL Xl Xm
     cases alH
     replace I7 := cl HB.out I7
     replace I8 := cl HB.out I8
     replace Xl := eq_true Xl
     replace Xm := eq_true Xm
     go_wp2_with (go_at_call 119; refine mB (mV.calls A6.out) ?_; intro w8 hb; replace HB := bs HB hb; clear hb)
     go_ret
     exact ⟨er, ul HB.out⟩
    ·
     have H' := ak H; clear H
     have Xl := zi kL
     have Xm := zj kL l0.length
     obtain ⟨apn, alH, I7, I8⟩ := qL HR0.out kL Xl Xm
     cases alH
     replace I7 := cl HB.out I7
     replace I8 := cl HB.out I8
     replace Xl := eq_true Xl
     replace Xm := eq_true Xm
     go_wp2_with (go_at_call 119; refine mB (mV.calls A6.out) ?_; intro w9 hb; replace HB := bs HB hb; clear hb)
     go_roundg k1
     case measure => exact kl
     case rel => exact ⟨_, rs, H', ⟨kl⟩, ⟨ul HB.out⟩⟩
   ·
    obtain rfl := s1 H
    go_wp2
    go_ret
    exact ⟨er, ul HB.out⟩
def jB.f (k : Nat) (l0 : List (gX))  : Option (Bool) := (bT.f k l0).bind fun apo => (some (decide (apo ≥ 0)))
theorem jB.calls {k c0 : Nat} {A0 : Option Addr} {l0 : List (gX)} {r : Bool} {w : World} (hr0 : Kd.C qI w A0 l0.length l0) (hc0 : l0.length ≤ c0) (h : jB.f k l0 = some r) :
  Calls Tryz.prog 118 #[.slice A0 l0.length c0, .func (.func 119) #[] #[]] w fun e w' => e = .returned (.bool r) ∧ Below w.heap.size w w' := by
 have HR0 := ak hr0
 have xE := ak hc0
 clear hr0 hc0
 have HB := ak (Below.refl w.heap.size w)
 unfold jB.f at h; have H := h
 clear h
 replace H := bd H; obtain ⟨apo, A3, H⟩ := H
 obtain rfl := s1 H
 go_enter Tryz.func118, Tryz.ntmps118
 go_wp2_with (refine gB Tryz.func122 (bT.calls (cu HR0.out) xE.out A3.out) ?_; intro w4 hb; replace HB := bs HB hb; clear hb)
 go_ret
 exact ⟨er, ul HB.out⟩
def mY.f (k : Nat) (l0 : List (gX)) : Option (Bool) := if (l0.length : Int) ≤ 20 then ((jB.f k l0).bind fun apq => (some (!apq))) else (some false)
theorem mY.calls {k c0 : Nat} {A0 : Option Addr} {l0 : List (gX)} {r : Bool} {w : World} (hr0 : Kd.C qI w A0 l0.length l0) (hc0 : l0.length ≤ c0) (h : mY.f k l0 = some r) :
  Calls Tryz.prog 82 #[.slice A0 l0.length c0] w fun e w' => e = .returned (.bool r) ∧ Below w.heap.size w w' := by
 have HR0 := ak hr0
 have xE := ak hc0
 clear hr0 hc0
 have HB := ak (Below.refl w.heap.size w)
 unfold mY.f at h; have H := h
 clear h
 replace H := sp H
 rcases H with ⟨c2, H⟩ | ⟨c2, H⟩
 ·
  have ou := decide_eq_true c2
  have vK : decide (l0.length ≤ 20) = true := decide_eq_true (by omega)
  clear c2
  replace H := bd H; obtain ⟨apq, A3, H⟩ := H
  obtain rfl := s1 H
  go_enter Tryz.func82, Tryz.ntmps82
  go_wp2_with (go_at_call 118; refine mB (jB.calls (cu HR0.out) xE.out A3.out) ?_; intro w4 hb; replace HB := bs HB hb; clear hb)
  go_ret
  exact ⟨er, ul HB.out⟩
 ·
  have ou := decide_eq_false c2
  have vK : decide (l0.length ≤ 20) = false := decide_eq_false (by omega)
  clear c2
  obtain rfl := s1 H
  go_enter Tryz.func82, Tryz.ntmps82
  go_wp2
  go_ret
  exact ⟨er, ul HB.out⟩
end Go.Proofs.YtncdadcmghglkaaGreatDoor.PFnPartLines
