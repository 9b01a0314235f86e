/- Printed walks; conditions: those in each statement. -/
import Derived.Test.YtncdadcmghglkaaGreatDoorVFnPartValidQt
import Derived.Test.YtncdadcmghglkaaGreatDoorVFnPartValidYt
import Derived.Test.YtncdadcmghglkaaGreatDoorPFnPartValidx0
import Derived.Test.YtncdadcmghglkaaGreatDoorPFnPartValidx27
import Derived.Test.YtncdadcmghglkaaGreatDoorPFnPartValidx29
import Derived.Test.YtncdadcmghglkaaGreatDoorPFnPartValidx3
import Derived.Test.YtncdadcmghglkaaGreatDoorPFnPartValidx2
-- short
-- dense
-- sq
-- sq2
namespace Go.Proofs.YtncdadcmghglkaaGreatDoor.PFnPartValid
open Go.RowKit Go.Proofs.YtncdadcmghglkaaGreatDoor.X Go.Proofs.YtncdadcmghglkaaGreatDoorW.bK Go.Proofs.YtncdadcmghglkaaGreatDoorW.gY Go.Proofs.YtncdadcmghglkaaGreatDoorW.iU
attribute [local go_sem] lu lC ng ni jO jP lD lF   -- for this text's walks alone
set_option linter.unusedVariables false
set_option maxHeartbeats 8000000
set_option maxRecDepth 100000
set_option linter.unusedSimpArgs false
def oq.f (k : Nat) (l0 : List Int) : Option ((List (gK)) × List ByteArray × (List (mV))) := (uY.f l0).bind fun acp => ((eX.f k acp.1 acp.2 3).bind fun acr => ((dP.f k acp.1 acr.2.2.2 acr.1 acr.2.1 acr.2.2.1).bind fun acs => ((dP.f k acp.1 acs.2.2.2 acs.1 acs.2.1 acs.2.2.1).bind fun ags => (some (ags.1, ags.2.1, ags.2.2.1)))))
theorem oq.calls {k c0 : Nat} {A0 : Option Addr} {l0 : List Int} {r1 : List (gK)} {r2 : List ByteArray} {r3 : List (mV)} {w : World} (hr0 : Kd.C (Kd.int .u8) w A0 l0.length l0) (hc0 : l0.length ≤ c0) (h : oq.f k l0 = some (r1, r2, r3)) :
  Calls Tryz.prog 51 #[.slice A0 l0.length c0] w fun e w' => ∃ rY F7 Iw : Value, e = .returned (.agg #[rY, F7, Iw]) ∧ Kd.R pU 69 w' w.heap.size (fun _ => True) rY r1 ∧ Kd.R Kd.string 9 w' w.heap.size (fun _ => True) F7 r2 ∧ Kd.R k28 28 w' w.heap.size (fun k_ => some k_ ≠ (rY : Value).ownBlock ∧ some k_ ≠ (F7 : Value).ownBlock) Iw r3 ∧ Below w.heap.size w w' := by
 have Et := Tryz.underlying28
 have HR0 := ak hr0
 have zq := ak hc0
 clear hr0 hc0
 have HB := ak (Below.refl w.heap.size w)
 unfold oq.f at h; have H := h
 clear h
 replace H := bd H
 obtain ⟨⟨X7, aA7⟩, A2, H⟩ := H
 (try dsimp only at H)
 replace H := bd H
 obtain ⟨⟨avH, avI, avJ, ai5⟩, A3, H⟩ := H
 (try dsimp only at H)
 replace H := bd H
 obtain ⟨⟨aA8, aA9, aA_, ai6⟩, A4, H⟩ := H
 (try dsimp only at H)
 replace H := bd H
 obtain ⟨⟨aBa, aBb, aBd, aDJ⟩, A5, H⟩ := H
 (try dsimp only at H)
 obtain ⟨rfl, rfl, rfl⟩ := s3 H
 go_enter Tryz.func51, Tryz.ntmps51
 go_wp2_with (first | (refine bX HB 2 #[.slice none 0 0, .slice none 0 0, .slice none 0 0] 28 ?_; intro acu w6 Dl aDK hb; replace HB := bs HB hb; clear hb) | (refine gL 55 5 Tryz.func55 #[.slice A0 l0.length c0] ?_; (with_reducible refine (uY.calls w ?gJ HR0.out zq.out A2.out).mono ?_); (case gJ => exact pY); rintro e w7 ⟨Rw, rfl, hi, hb, hb2⟩; refine ⟨_, rfl, ?_⟩; have X8 := ak (hi); have adw := ak (aI.ae6 hi (mQ (ub Dl.out) hb2) (by decide)); have Hy := ak (Ne.symm (aI.ae6 hi (mQ (ub Dl.out) hb2) (by decide))); replace Dl := kb Dl hb2; replace HB := ak (hb); clear hb; (try clear hb2); (try clear hi)) | (refine gL 56 9 Tryz.func56 #[.pointer (some ⟨Rw, 0, none⟩), .int .i64 3] ?_; (with_reducible refine (eX.calls k Rw X7 aA7 3 avH avI avJ ai5 w _ ?gJ ?jf A3.out).mono ?_); (case gJ => exact pX); (case jf => exact pY); rintro e w8 ⟨aI0, aI1, aI2, rfl, ho0, ho1, ho2, hi, hb, hk⟩; refine ⟨_, rfl, ?_⟩; have Gw := ak (Kd.aG ho0 (aj pY)); have FC := ak (Kd.aG ho1 (aj pY)); have Ls := ak (Kd.aG (Kd.oI ho2 (g := acu) (o := .cells #[.slice none 0 0, .slice none 0 0, .slice none 0 0] 28 (0, 0)) (ub Dl.out)) (aj pY)); replace Dl := kc Dl hk Hy; replace HB := ak (hb); replace X8 := ak (hi); clear hb; (try clear hk); (try clear hi); (try clear ho0); (try clear ho1); (try clear ho2); obtain ⟨Ao9, co9, eo9⟩ := Kd.aX Gw.out; subst eo9; obtain ⟨qI, qx, aoR⟩ := Kd.aX FC.out; subst aoR; obtain ⟨pq, oK, NQ⟩ := Kd.aX Ls.out; subst NQ) | (refine gL 68 10 Tryz.func68 #[.pointer (some ⟨Rw, 0, none⟩), .agg #[.slice Ao9 avH.length co9, .slice qI avI.length qx, .slice pq avJ.length oK]] ?_; (with_reducible refine (dP.calls w ?gJ ?jf (Kd.EP (aI.apart (show aI w _ Rw X7 ai5 from pX) (ur Gw.out) (by decide)) (fun _ h_ => h_.2)) ((Kd.au Gw.out).2.1) (cu ((Kd.au FC.out).2.2)) ((Kd.au FC.out).2.1) (oz (aI.own_ne X8.out FC.out (by decide))) (Kd.EP (aI.apart (show aI w _ Rw X7 ai5 from pX) (ur Ls.out) (by decide)) (fun _ h_ => h_.2)) ((Kd.au Ls.out).2.1) A4.out).mono ?_); (case gJ => exact pX); (case jf => exact pY); rintro e w12 ⟨aI3, aI4, aI5, rfl, ho0, ho1, ho2, hi, hb, hk⟩; refine ⟨_, rfl, ?_⟩; have Rx := ak (Kd.aG (Kd.fK ho0 (Kd.jH (ur Gw.out))) (aj pY)); have O9 := ak (Kd.aG (Kd.fK ho1 (Kd.jH (ur FC.out))) (aj pY)); have Uj := ak (Kd.aG (Kd.oI (Kd.fK (Kd.fK (Kd.fK ho2 (Kd.jH (ur Gw.out))) (Kd.jH (ur FC.out))) (Kd.jH (ur Ls.out))) (g := acu) (o := .cells #[.slice none 0 0, .slice none 0 0, .slice none 0 0] 28 (0, 0)) (ub Dl.out)) (aj pY)); replace Dl := kc Dl hk Hy; replace Gw := kj Gw hk ho0; replace FC := kj FC hk ho1; replace Ls := ak (Kd.aY (Kd.qR (Kd.qR (Kd.qR (Kd.NS (aI.apart (show aI w _ Rw X7 ai5 from pX) (ur Ls.out) (by decide)) hk) (Kd.eH ho0)) (Kd.eH ho1)) (Kd.eH ho2)) (fun _ h_ => h_.1)); replace HB := ak (hb); replace X8 := ak (hi); clear hb; (try clear hk); (try clear hi); (try clear ho0); (try clear ho1); (try clear ho2); obtain ⟨U4, Ii, QB⟩ := Kd.aX Rx.out; subst QB; obtain ⟨Xf, Xg, U5⟩ := Kd.aX O9.out; subst U5; obtain ⟨Nr, Ns, U6⟩ := Kd.aX Uj.out; subst U6) | (refine gL 68 11 Tryz.func68 #[.pointer (some ⟨Rw, 0, none⟩), .agg #[.slice U4 aA8.length Ii, .slice Xf aA9.length Xg, .slice Nr aA_.length Ns]] ?_; (with_reducible refine (dP.calls w ?gJ ?jf (Kd.EP (aI.apart (show aI w _ Rw X7 ai6 from pX) (ur Rx.out) (by decide)) (fun _ h_ => h_.2)) ((Kd.au Rx.out).2.1) (cu ((Kd.au O9.out).2.2)) ((Kd.au O9.out).2.1) (oz (aI.own_ne X8.out O9.out (by decide))) (Kd.EP (aI.apart (show aI w _ Rw X7 ai6 from pX) (ur Uj.out) (by decide)) (fun _ h_ => h_.2)) ((Kd.au Uj.out).2.1) A5.out).mono ?_); (case gJ => exact pX); (case jf => exact pY); rintro e w16 ⟨aI6, aI7, aDL, rfl, ho0, ho1, ho2, hi, hb, hk⟩; refine ⟨_, rfl, ?_⟩; have avK := ak (Kd.aG (Kd.fK (Kd.fK ho0 (Kd.jH (ur Gw.out))) (Kd.jH (ur Rx.out))) (aj pY)); have avL := ak (Kd.aG (Kd.fK (Kd.fK ho1 (Kd.jH (ur FC.out))) (Kd.jH (ur O9.out))) (aj pY)); have aoS := ak (Kd.aG (Kd.oI (Kd.fK (Kd.fK (Kd.fK (Kd.fK (Kd.fK (Kd.fK ho2 (Kd.jH (ur Gw.out))) (Kd.jH (ur FC.out))) (Kd.jH (ur Ls.out))) (Kd.jH (ur Rx.out))) (Kd.jH (ur O9.out))) (Kd.jH (ur Uj.out))) (g := acu) (o := .cells #[.slice none 0 0, .slice none 0 0, .slice none 0 0] 28 (0, 0)) (ub Dl.out)) (aj pY)); replace Dl := kc Dl hk Hy; replace Gw := kj Gw hk ho0; replace FC := kj FC hk ho1; replace Ls := ak (Kd.aY (Kd.qR (Kd.qR (Kd.qR (Kd.NS (aI.apart (show aI w _ Rw X7 ai6 from pX) (ur Ls.out) (by decide)) hk) (Kd.eH ho0)) (Kd.eH ho1)) (Kd.eH ho2)) (fun _ h_ => h_.1)); replace Rx := kj Rx hk ho0; replace O9 := kj O9 hk ho1; replace Uj := ak (Kd.aY (Kd.qR (Kd.qR (Kd.qR (Kd.NS (aI.apart (show aI w _ Rw X7 ai6 from pX) (ur Uj.out) (by decide)) hk) (Kd.eH ho0)) (Kd.eH ho1)) (Kd.eH ho2)) (fun _ h_ => h_.1)); replace HB := ak (hb); replace X8 := ak (hi); clear hb; (try clear hk); (try clear hi); (try clear ho0); (try clear ho1); (try clear ho2); obtain ⟨FW, ED, Tm⟩ := Kd.aX avK.out; subst Tm; have alz := Hy.out; have alA := adw.out; have z19 := ku Dl.out; obtain ⟨NU, NV, VJ⟩ := Kd.aX avL.out; subst VJ; obtain ⟨JH, JI, U3⟩ := Kd.aX aoS.out; subst U3))
 refine bodyPost_ret (results_cell_row rfl _ _ acu 28 #[.slice FW aBa.length ED, .slice NU aBb.length NV, .slice JH aBd.length JI] (0, 0) _ rfl bq Tryz.underlying28 rfl (by kernel_rfl)) rfl ?_
 exact ⟨_, _, _, er, rr, rr, rr, pY⟩
def iE.l0 : Nat → ByteArray → List (gK) → Int → Int → Option (ByteArray)
 | 0, _, _, _, _ => none
 | k + 1, x3, CO, x14, x15 => if x15 < x14 then (if 0 ≤ x15 then (if x15 < (CO.length : Int) then (if 2 + ((dY CO x15).f0).size ≤ 9223372036854775807 then (if ((⟨#[59, 32]⟩ : ByteArray) ++ ((dY CO x15).f0)).size + 1 ≤ 9223372036854775807 then ((jh.f k ((dY CO x15).f1)).bind fun TD => (if (((⟨#[59, 32]⟩ : ByteArray) ++ ((dY CO x15).f0)) ++ (⟨#[61]⟩ : ByteArray)).size + TD.size ≤ 9223372036854775807 then (if x3.size + ((((⟨#[59, 32]⟩ : ByteArray) ++ ((dY CO x15).f0)) ++ (⟨#[61]⟩ : ByteArray)) ++ TD).size ≤ 9223372036854775807 then (iE.l0 k (x3 ++ ((((⟨#[59, 32]⟩ : ByteArray) ++ ((dY CO x15).f0)) ++ (⟨#[61]⟩ : ByteArray)) ++ TD)) CO x14 (wrap64 (x15 + 1))) else (none)) else (none))) else (none)) else (none)) else (none)) else (none)) else (some x3)
def iE.f (k : Nat) (fC : ByteArray) (fH : ByteArray) (aC : List (gK)) : Option (ByteArray) := if fC.size + 1 ≤ 9223372036854775807 then (if (fC ++ (⟨#[47]⟩ : ByteArray)).size + fH.size ≤ 9223372036854775807 then (iE.l0 k ((fC ++ (⟨#[47]⟩ : ByteArray)) ++ fH) aC (aC.length : Int) 0) else (none)) else (none)
theorem iE.calls {k fM : Nat} {fC fH r : ByteArray} {iC : Option Addr} {aC : List (gK)} {w : World} (jY : Kd.C pU w iC aC.length aC) (jZ : aC.length ≤ fM) (h : iE.f k fC fH aC = some r) :
  Calls Tryz.prog 137 #[.agg #[.string fC, .string fH, .slice iC aC.length fM]] w fun e w' => e = .returned (.string r) ∧ Below w.heap.size w w' := by
 have Xh := Tryz.underlying61
 have DK := Tryz.underlying69
 have jQ := ak jY
 have nC := ak jZ
 clear jY jZ
 have HB := ak (Below.refl w.heap.size w)
 unfold iE.f at h; have H := h
 clear h
 replace H := nn H; obtain ⟨c2, H⟩ := H
 have o_ := eq_true c2
 have wu := decide_eq_true c2
 try have Zt : (9223372036854775807 < fC.size + 1) = False := eq_false (Nat.not_lt.2 c2)
 replace H := nn H; obtain ⟨c3, H⟩ := H
 have iP := eq_true c3
 have yU := decide_eq_true c3
 try have aJI : (9223372036854775807 < fC.size + 1 + fH.size) = False := by have h_ := (eq_false (Nat.not_lt.2 c3) : (9223372036854775807 < (fC ++ (⟨#[47]⟩ : ByteArray)).size + fH.size) = False); simp only [ByteArray.size_append] at h_; exact h_
 try have U7 : (9223372036854775807 < (fC ++ (⟨#[47]⟩ : ByteArray)).size + fH.size) = False := eq_false (Nat.not_lt.2 c3)
 have H' := ak H; clear H
 go_enter Tryz.func137, Tryz.ntmps137
 go_wp2_with (refine bX HB 1 #[.string fC, .string fH, .slice iC aC.length fM] 61 ?_; intro awv w4 Dp aD3 hb; replace HB := bs HB hb; clear hb; have z5 := ku Dp.out)
 go_loopg [3, 15] k (fun kq v3 v15 w' => ∃ (dZ : ByteArray) (zC : Int), v3 = .string dZ ∧ v15 = .int .i64 zC ∧ ah (iE.l0 kq dZ aC (aC.length : Int) zC = some r) ∧ ah (kq ≤ k) ∧ ah (w'.heap[awv]? = some (.cells #[.string fC, .string fH, (.slice iC aC.length fM)] 61 (0, 0))) ∧ ah (Below w.heap.size w w'))
 case atStart => exact ⟨_, _, rs, rs, H', ⟨Nat.le_refl _⟩, ⟨ub Dp.out⟩, ⟨bb⟩⟩
 case round =>
  clear H'
  try clear c2
  try clear o_
  try clear wu
  try clear Zt
  try clear c3
  try clear iP
  try clear yU
  try clear U7
  obtain ⟨dZ, zC, rfl, rfl, HA, yB, Dp, HB⟩ := hrel
  cases gk with
  | zero => exact zz HA.out
  | succ k1 =>
   obtain ⟨H⟩ := HA
   simp only [iE.l0] at H
   replace H := sd H
   rcases H with ⟨oJ, H⟩ | ⟨oJ, H⟩
   ·
    replace H := oN H; obtain ⟨sH, H⟩ := H; replace H := oN H; obtain ⟨uj, H⟩ := H; replace H := nn H; obtain ⟨c9, H⟩ := H
    have zu := eq_true c9
    have Gn := decide_eq_true c9
    try have auD : (9223372036854775807 < 2 + ((dY aC zC).f0).size) = False := eq_false (Nat.not_lt.2 c9)
    replace H := nn H; obtain ⟨c10, H⟩ := H
    have pF := eq_true c10
    have uI := decide_eq_true c10
    try have akn : (9223372036854775807 < 2 + ((dY aC zC).f0).size + 1) = False := by have h_ := (eq_false (Nat.not_lt.2 c10) : (9223372036854775807 < ((⟨#[59, 32]⟩ : ByteArray) ++ ((dY aC zC).f0)).size + 1) = False); simp only [ByteArray.size_append] at h_; exact h_
    try have aaS : (9223372036854775807 < ((⟨#[59, 32]⟩ : ByteArray) ++ ((dY aC zC).f0)).size + 1) = False := eq_false (Nat.not_lt.2 c10)
    replace H := bd H; obtain ⟨TD, W9, H⟩ := H; replace H := nn H; obtain ⟨c12, H⟩ := H
    have yV := eq_true c12
    have DV := decide_eq_true c12
    try have aD4 : (9223372036854775807 < 2 + ((dY aC zC).f0).size + 1 + TD.size) = False := by have h_ := (eq_false (Nat.not_lt.2 c12) : (9223372036854775807 < (((⟨#[59, 32]⟩ : ByteArray) ++ ((dY aC zC).f0)) ++ (⟨#[61]⟩ : ByteArray)).size + TD.size) = False); simp only [ByteArray.size_append] at h_; exact h_
    try have aD5 : (9223372036854775807 < (((⟨#[59, 32]⟩ : ByteArray) ++ ((dY aC zC).f0)) ++ (⟨#[61]⟩ : ByteArray)).size + TD.size) = False := eq_false (Nat.not_lt.2 c12)
    replace H := nn H; obtain ⟨c13, H⟩ := H
    have xk := eq_true c13
    have AV := decide_eq_true c13
    try have aqI : (9223372036854775807 < dZ.size + (2 + ((dY aC zC).f0).size + 1 + TD.size)) = False := by have h_ := (eq_false (Nat.not_lt.2 c13) : (9223372036854775807 < dZ.size + ((((⟨#[59, 32]⟩ : ByteArray) ++ ((dY aC zC).f0)) ++ (⟨#[61]⟩ : ByteArray)) ++ TD).size) = False); simp only [ByteArray.size_append] at h_; exact h_
    try have aj0 : (9223372036854775807 < dZ.size + ((((⟨#[59, 32]⟩ : ByteArray) ++ ((dY aC zC).f0)) ++ (⟨#[61]⟩ : ByteArray)) ++ TD).size) = False := eq_false (Nat.not_lt.2 c13)
    have H' := ak H; clear H
    have ao0 := zi zC
    have ao1 := zj zC aC.length
    obtain ⟨aD6, e229, acy, acz⟩ := qC jQ.out zC ao0 ao1
    cases e229
    replace acy := cl HB.out acy
    replace acz := cl HB.out acz
    replace ao0 := eq_true ao0
    replace ao1 := eq_true ao1
    try go_wp2_with (refine bY HB 5 #[.string (⟨#[]⟩ : ByteArray), .string (⟨#[]⟩ : ByteArray)] 69 ?_; intro amA Tc Pg aww hg hb; have Un := Au Dp hg; have adz := Aw Dp hg; replace Dp := kb Dp hb; replace HB := bz HB hb; clear hb hg; have aD7 := adz.out; have aD8 := Un.out; have z16 := AX Pg.out)
    refine ab2 HB Pg aww ?_
    intro w17 agA hk HB
    replace Dp := kf Dp hk Un
    clear hk Pg
    have Pg := agA; clear agA
    refine rO [7] [0, 1, 5, 2, 3, 4, 6, 7, 8, 9, 10] (fun w' => w'.cell? ⟨amA, 0, none⟩ = some (.string ((dY aC zC).f0)) ∧ w'.cell? ⟨amA, 1, none⟩ = some (.string ((dY aC zC).f1))) ?_
    intro w18 hb
    replace Dp := kb Dp hb
    replace Pg := kb Pg hb
    replace HB := bs HB hb
    refine ⟨sx, ?_⟩
    repeat refine yS ?_
    refine rB Tryz.func166 (jh.calls W9.out) ?_
    intro YM hb
    replace Dp := kb Dp hb
    replace Pg := kb Pg hb
    replace HB := bz HB hb
    clear hb
    refine ⟨sx, ?_⟩
    repeat refine yS ?_
    refine on ?_
    try go_wp2
    go_roundg k1
    case measure => exact kl
    case rel => exact ⟨_, _, rs, rs, H', ⟨kl⟩, ⟨ub Dp.out⟩, ⟨bb⟩⟩
   ·
    obtain rfl := s1 H
    go_wp2
    go_ret
    exact ⟨er, bb⟩
mutual
def bV.j0 : Nat → Bool → ByteArray → ByteArray → List (gK) → Option (Bool)
 | 0, _, _, _, _ => none
 | k + 1, x20, Qn, Qo, Dq => if x20 = true then (some false) else (bV.l0 k Dq (Dq.length : Int) 0 Qn Qo Dq)
def bV.l0 : Nat → List (gK) → Int → Int → ByteArray → ByteArray → List (gK) → Option (Bool)
 | 0, _, _, _, _, _, _ => none
 | k + 1, x22, x23, x24, Qn, Qo, Dq => if x24 < x23 then (if 0 ≤ x24 then (if x24 < (x22.length : Int) then ((ig.f k ((dY x22 x24).f0)).bind fun awx => (if awx = true then ((bI.f k ((dY x22 x24).f1)).bind fun awy => (if awy = true then (if (((dY x22 x24).f1).size : Int) > 40 then (some false) else (if x24 ≤ (Dq.length : Int) then ((lQ.f k (Dq.take (x24 : Int).toNat) ((dY x22 x24).f0)).bind fun aja => (if aja ≥ 0 then (some false) else (bV.l0 k x22 x23 (wrap64 (x24 + 1)) Qn Qo Dq))) else (none))) else (some false))) else (some false))) else (none)) else (none)) else ((iE.f k Qn Qo Dq).bind fun awz => (some (decide ((awz.size : Int) ≤ 150))))
end
def bV.f (k : Nat) (fC : ByteArray) (fH : ByteArray) (aC : List (gK)) : Option (Bool) := (ig.f k fC).bind fun t233 => (if t233 = true then ((ig.f k fH).bind fun t234 => (if t234 = true then (bV.j0 k (decide ((aC.length : Int) > 4)) fC fH aC) else (bV.j0 k true fC fH aC))) else (bV.j0 k true fC fH aC))
theorem bV.calls {k fM : Nat} {fC fH : ByteArray} {iC : Option Addr} {aC : List (gK)} {r : Bool} {w : World} (jY : Kd.C pU w iC aC.length aC) (jZ : aC.length ≤ fM) (h : bV.f k fC fH aC = some r) :
  Calls Tryz.prog 95 #[.agg #[.string fC, .string fH, .slice iC aC.length fM]] w fun e w' => e = .returned (.bool r) ∧ Below w.heap.size w w' := by
 have Xh := Tryz.underlying61
 have DK := Tryz.underlying69
 have jQ := ak jY
 have nC := ak jZ
 clear jY jZ
 have HB := ak (Below.refl w.heap.size w)
 unfold bV.f at h; have H := h
 clear h
 have HC2 := ak H
 clear H
 go_enter Tryz.func95, Tryz.ntmps95
 go_upto_region 1 with (refine gG 1 ?_; refine bX HB 1 #[.string fC, .string fH, .slice iC aC.length fM] 61 ?_; intro Ph w3 iI aD9 hb; replace HB := bs HB hb; clear hb)
 (try simp only [Act.put, sK, sN, l_c])
 go_cut [20] (fun v20 wc => ∃ (kq : Nat) (agB : Bool), v20 = .bool agB ∧ ah (bV.j0 kq agB fC fH aC = some r) ∧ ah (kq ≤ k) ∧ ah (wc.heap[Ph]? = some (.cells #[.string fC, .string fH, (.slice iC aC.length fM)] 61 (0, 0))) ∧ ah (Below w.heap.size w wc))
 case first =>
  have H := HC2.out
  clear HC2
  replace H := bd H; obtain ⟨t233, A4, H⟩ := H; replace H := sb H
  rcases H with ⟨rfl, H⟩ | ⟨rfl, H⟩
  ·
   replace H := bd H; obtain ⟨t234, A6, H⟩ := H; replace H := sb H
   rcases H with ⟨rfl, H⟩ | ⟨rfl, H⟩
   ·
    have H' := ak H; clear H
    have z8 := ku iI.out
    go_wp2_with (first | (refine gB Tryz.func136 (ig.calls A4.out) ?_; intro w9 hb; replace iI := kb iI hb; replace HB := bz HB hb; clear hb; have z10 := ku iI.out) | (go_at_call 136; refine mB (ig.calls A6.out) ?_; intro U2 hb; replace iI := kb iI hb; replace HB := bz HB hb; clear hb; have z12 := ku iI.out))
    go_meet
    case rel => exact ⟨_, _, rs, H', ⟨JF⟩, ⟨ub iI.out⟩, ⟨bb⟩⟩
   ·
    have H' := ak H; clear H
    have z13 := ku iI.out
    go_wp2_with (first | (refine gB Tryz.func136 (ig.calls A4.out) ?_; intro Tc hb; replace iI := kb iI hb; replace HB := bz HB hb; clear hb; have OH := ku iI.out) | (go_at_call 136; refine mB (ig.calls A6.out) ?_; intro w16 hb; replace iI := kb iI hb; replace HB := bz HB hb; clear hb))
    go_meet
    case rel => exact ⟨_, _, rs, H', ⟨JF⟩, ⟨ub iI.out⟩, ⟨bb⟩⟩
  ·
   have H' := ak H; clear H
   have z17 := ku iI.out
   go_wp2_with (refine gB Tryz.func136 (ig.calls A4.out) ?_; intro w18 hb; replace iI := kb iI hb; replace HB := bz HB hb; clear hb)
   go_meet
   case rel => exact ⟨_, _, rs, H', ⟨JF⟩, ⟨ub iI.out⟩, ⟨bb⟩⟩
 case rest =>
  clear HC2
  obtain ⟨kq, agB, rfl, HA, HJ1, iI, HB⟩ := hcut
  cases kq with
  | zero => exact zz HA.out
  | succ Py =>
   obtain ⟨H⟩ := HA
   simp only [bV.j0] at H
   replace H := sb H
   rcases H with ⟨rfl, H⟩ | ⟨rfl, H⟩
   ·
    obtain rfl := s1 H
    go_wp2
    go_ret
    exact ⟨er, bb⟩
   ·
    have H' := ak H; clear H
    have z20 := ku iI.out
    go_wp2
    go_loopg [24] Py (fun kq v24 w' => ∃ (mM : Int), v24 = .int .i64 mM ∧ ah (bV.l0 kq aC (aC.length : Int) mM fC fH aC = some r) ∧ ah (kq ≤ Py) ∧ ah (w'.heap[Ph]? = some (.cells #[.string fC, .string fH, (.slice iC aC.length fM)] 61 (0, 0))) ∧ ah (Below w.heap.size w w'))
    case atStart => exact ⟨_, rs, H', ⟨Nat.le_refl _⟩, ⟨ub iI.out⟩, ⟨bb⟩⟩
    case round =>
     clear H'
     obtain ⟨mM, rfl, HA, HK2, iI, HB⟩ := hrel
     cases gk with
     | zero => exact zz HA.out
     | succ k2 =>
      obtain ⟨H⟩ := HA
      simp only [bV.l0] at H
      replace H := sd H
      rcases H with ⟨Fg, H⟩ | ⟨Fg, H⟩
      ·
       replace H := oN H; obtain ⟨Gm, H⟩ := H; replace H := oN H; obtain ⟨BI, H⟩ := H; replace H := bd H; obtain ⟨awx, X3, H⟩ := H; replace H := sb H
       rcases H with ⟨rfl, H⟩ | ⟨rfl, H⟩
       ·
        replace H := bd H; obtain ⟨awy, A26, H⟩ := H; replace H := sb H
        rcases H with ⟨rfl, H⟩ | ⟨rfl, H⟩
        ·
         replace H := sp H
         rcases H with ⟨c28, H⟩ | ⟨c28, H⟩
         ·
          have Gg : decide (40 < (((dY aC mM).f1).size : Int)) = true := decide_eq_true c28
          have aaU : decide (40 < ((dY aC mM).f1).size) = true := decide_eq_true (by omega)
          clear c28
          obtain rfl := s1 H
          have ER := zi mM
          have ES := zj mM aC.length
          obtain ⟨IU, WA, vX, vY⟩ := qC jQ.out mM ER ES
          cases WA
          replace vX := cl HB.out vX
          replace vY := cl HB.out vY
          replace ER := eq_true ER
          replace ES := eq_true ES
          try go_wp2_with (refine gG 4 ?_; refine bY HB 4 #[.string (⟨#[]⟩ : ByteArray), .string (⟨#[]⟩ : ByteArray)] 69 ?_; intro Dt w29 lY L9 hg hb; have qP := Au iI hg; have wX := Aw iI hg; replace iI := kb iI hb; replace HB := bz HB hb; clear hb hg; have aD_ := wX.out; have aEa := qP.out; have z31 := AX lY.out)
          refine ab2 HB lY L9 ?_
          intro w32 zf hk HB
          replace iI := kf iI hk qP
          clear hk lY
          have lY := zf; clear zf
          refine rO [2, 7] [0, 1, 2, 3, 4, 5, 6, 7, 8, 9, 10, 11, 12, 13, 14, 15, 16, 17, 18, 19, 20, 21, 22, 23, 24, 25] (fun w' => w'.cell? ⟨Dt, 0, none⟩ = some (.string ((dY aC mM).f0)) ∧ w'.cell? ⟨Dt, 1, none⟩ = some (.string ((dY aC mM).f1))) ?_
          intro w33 hb
          replace iI := kb iI hb
          replace lY := kb lY hb
          replace HB := bs HB hb
          refine ⟨sx, ?_⟩
          repeat (first | refine yS ?_ | refine P_ ?_)
          refine rB Tryz.func136 (ig.calls X3.out) ?_
          intro w34 hb
          replace iI := kb iI hb
          replace lY := kb lY hb
          replace HB := bz HB hb
          clear hb
          refine ⟨sx, ?_⟩
          repeat (first | refine yS ?_ | refine P_ ?_)
          refine rA Tryz.func89 (bI.calls A26.out) ?_
          intro nd
          refine ⟨sx, ?_⟩
          repeat (first | refine yS ?_ | refine P_ ?_)
          refine on ?_
          try go_wp2
          go_ret
          exact ⟨er, bb⟩
         ·
          have Gg : decide (40 < (((dY aC mM).f1).size : Int)) = false := decide_eq_false c28
          have aaU : decide (40 < ((dY aC mM).f1).size) = false := decide_eq_false (by omega)
          clear c28
          have aeJ := eq_true (of_decide_eq_true (by assumption) : 0 ≤ mM)
          replace H := Ba H; obtain ⟨al4, awC, H⟩ := H
          obtain ⟨ajb, Ye⟩ := nm (aC.take (mM : Int).toNat)
          rw [← Ye.out] at H
          replace H := bd H; obtain ⟨aja, A37, H⟩ := H; replace H := sp H
          rcases H with ⟨YN, H⟩ | ⟨YN, H⟩
          ·
           have abS : decide (0 ≤ aja) = true := decide_eq_true YN
           clear YN
           obtain rfl := s1 H
           have ER := zi mM
           have ES := zj mM aC.length
           obtain ⟨IU, WA, vX, vY⟩ := qC jQ.out mM ER ES
           cases WA
           replace vX := cl HB.out vX
           replace vY := cl HB.out vY
           replace ER := eq_true ER
           replace ES := eq_true ES
           try go_wp2_with (refine gG 4 ?_; refine bY HB 4 #[.string (⟨#[]⟩ : ByteArray), .string (⟨#[]⟩ : ByteArray)] 69 ?_; intro Dt w39 lY L9 hg hb; have qP := Au iI hg; have wX := Aw iI hg; replace iI := kb iI hb; replace HB := bz HB hb; clear hb hg; have alS := wX.out; have alT := qP.out; have ajD := AX lY.out)
           refine ab2 HB lY L9 ?_
           intro w42 zf hk HB
           replace iI := kf iI hk qP
           clear hk lY
           have lY := zf; clear zf
           refine rO [2, 7, 23] [0, 1, 2, 3, 4, 5, 6, 7, 8, 9, 10, 11, 12, 13, 14, 15, 16, 17, 19, 21, 18, 20, 22, 23, 24, 25] (fun w' => w'.cell? ⟨Dt, 0, none⟩ = some (.string ((dY aC mM).f0)) ∧ w'.cell? ⟨Dt, 1, none⟩ = some (.string ((dY aC mM).f1)) ∧ w'.cell? ⟨Ph, 0, none⟩ = some (.string fC) ∧ w'.cell? ⟨Ph, 1, none⟩ = some (.string fH) ∧ w'.cell? ⟨Ph, 2, none⟩ = some (.slice (some IU) aC.length fM)) ?_
           intro w43 hb
           replace iI := kb iI hb
           replace lY := kb lY hb
           replace HB := bs HB hb
           refine ⟨sx, ?_⟩
           repeat refine yS ?_
           refine rB Tryz.func136 (ig.calls X3.out) ?_
           intro w44 hb
           replace iI := kb iI hb
           replace lY := kb lY hb
           replace HB := bz HB hb
           clear hb
           refine ⟨sx, ?_⟩
           repeat refine yS ?_
           refine rA Tryz.func89 (bI.calls A26.out) ?_
           intro nd
           have q45 : (mM : Int) ≤ ((aC.length : Int) : Int) := of_decide_eq_true (by assumption)
           obtain ⟨aJJ, amB, _, awD, _⟩ := info_parts xB
           have acA : aC.length ≤ fM := nC.out
           have awE : Kd.C pU _ (some IU) aC.length aC := jQ.out
           have ao2 := Vr (P := Tryz.prog) 25 69 .i64 Tryz.underlying25 amB (some IU) aC.length fM mM (of_decide_eq_true (by assumption)) q45 acA
           have ao3 := Kd.Vs (m := (mM : Int).toNat) awE (by omega)
           have ao4 : ajb.length = (mM : Int).toNat := (by rw [Ye.out, List.length_take]; omega)
           rw [← Ye.out] at ao3
           rw [← ao4] at ao2
           have agC := ak ao3
           have agD := ak (show ajb.length ≤ fM from by omega)
           clear ao3 awE acA amB awD
           have aJK := ak ao4
           clear ao4
           replace q45 := eq_true q45
           refine ⟨sx, ?_⟩
           repeat refine yS ?_
           refine rB Tryz.func88 (lQ.calls (cu (Kd.aW agC.out bb)) agD.out A37.out) ?_
           intro w46 hb
           replace iI := kb iI hb
           replace lY := kb lY hb
           replace HB := bz HB hb
           clear hb
           refine ⟨sx, ?_⟩
           repeat refine yS ?_
           refine on ?_
           try go_wp2
           go_ret
           exact ⟨er, bb⟩
          ·
           have abS : decide (0 ≤ aja) = false := decide_eq_false YN
           clear YN
           have H' := ak H; clear H
           have ER := zi mM
           have ES := zj mM aC.length
           obtain ⟨IU, WA, vX, vY⟩ := qC jQ.out mM ER ES
           cases WA
           replace vX := cl HB.out vX
           replace vY := cl HB.out vY
           replace ER := eq_true ER
           replace ES := eq_true ES
           try go_wp2_with (refine gG 4 ?_; refine bY HB 4 #[.string (⟨#[]⟩ : ByteArray), .string (⟨#[]⟩ : ByteArray)] 69 ?_; intro Dt w47 lY L9 hg hb; have qP := Au iI hg; have wX := Aw iI hg; replace iI := kb iI hb; replace HB := bz HB hb; clear hb hg; have akt := wX.out; have aku := qP.out; have z49 := AX lY.out)
           refine ab2 HB lY L9 ?_
           intro w50 zf hk HB
           replace iI := kf iI hk qP
           clear hk lY
           have lY := zf; clear zf
           refine rO [2, 7, 23] [0, 1, 2, 3, 4, 5, 6, 7, 8, 9, 10, 11, 12, 13, 14, 15, 16, 17, 19, 21, 18, 20, 22, 23, 24, 25] (fun w' => w'.cell? ⟨Dt, 0, none⟩ = some (.string ((dY aC mM).f0)) ∧ w'.cell? ⟨Dt, 1, none⟩ = some (.string ((dY aC mM).f1)) ∧ w'.cell? ⟨Ph, 0, none⟩ = some (.string fC) ∧ w'.cell? ⟨Ph, 1, none⟩ = some (.string fH) ∧ w'.cell? ⟨Ph, 2, none⟩ = some (.slice (some IU) aC.length fM)) ?_
           intro w51 hb
           replace iI := kb iI hb
           replace lY := kb lY hb
           replace HB := bs HB hb
           refine ⟨sx, ?_⟩
           repeat refine yS ?_
           refine rB Tryz.func136 (ig.calls X3.out) ?_
           intro w52 hb
           replace iI := kb iI hb
           replace lY := kb lY hb
           replace HB := bz HB hb
           clear hb
           refine ⟨sx, ?_⟩
           repeat refine yS ?_
           refine rA Tryz.func89 (bI.calls A26.out) ?_
           intro nd
           have q53 : (mM : Int) ≤ ((aC.length : Int) : Int) := of_decide_eq_true (by assumption)
           obtain ⟨aJL, amC, _, awF, _⟩ := info_parts xB
           have acB : aC.length ≤ fM := nC.out
           have awG : Kd.C pU _ (some IU) aC.length aC := jQ.out
           have ao5 := Vr (P := Tryz.prog) 25 69 .i64 Tryz.underlying25 amC (some IU) aC.length fM mM (of_decide_eq_true (by assumption)) q53 acB
           have ao6 := Kd.Vs (m := (mM : Int).toNat) awG (by omega)
           have ao7 : ajb.length = (mM : Int).toNat := (by rw [Ye.out, List.length_take]; omega)
           rw [← Ye.out] at ao6
           rw [← ao7] at ao5
           have agC := ak ao6
           have agD := ak (show ajb.length ≤ fM from by omega)
           clear ao6 awG acB amC awF
           have aJM := ak ao7
           clear ao7
           replace q53 := eq_true q53
           refine ⟨sx, ?_⟩
           repeat refine yS ?_
           refine rB Tryz.func88 (lQ.calls (cu (Kd.aW agC.out bb)) agD.out A37.out) ?_
           intro w54 hb
           replace iI := kb iI hb
           replace lY := kb lY hb
           replace HB := bz HB hb
           clear hb
           refine ⟨sx, ?_⟩
           repeat refine yS ?_
           refine on ?_
           try go_wp2
           go_roundg k2
           case measure => exact kl
           case rel => exact ⟨_, rs, H', ⟨kl⟩, ⟨ub iI.out⟩, ⟨bb⟩⟩
        ·
         obtain rfl := s1 H
         have ER := zi mM
         have ES := zj mM aC.length
         obtain ⟨IU, WA, vX, vY⟩ := qC jQ.out mM ER ES
         cases WA
         replace vX := cl HB.out vX
         replace vY := cl HB.out vY
         replace ER := eq_true ER
         replace ES := eq_true ES
         try go_wp2_with (refine gG 4 ?_; refine bY HB 4 #[.string (⟨#[]⟩ : ByteArray), .string (⟨#[]⟩ : ByteArray)] 69 ?_; intro Dt w55 lY L9 hg hb; have qP := Au iI hg; have wX := Aw iI hg; replace iI := kb iI hb; replace HB := bz HB hb; clear hb hg; have auv := wX.out; have auw := qP.out; have z57 := AX lY.out)
         refine ab2 HB lY L9 ?_
         intro w58 zf hk HB
         replace iI := kf iI hk qP
         clear hk lY
         have lY := zf; clear zf
         refine rO [2, 7] [0, 1, 2, 3, 4, 5, 6, 7, 8, 9, 10, 11, 12, 13, 14, 15, 16, 17, 18, 19, 20, 21, 22, 23, 24, 25] (fun w' => w'.cell? ⟨Dt, 0, none⟩ = some (.string ((dY aC mM).f0)) ∧ w'.cell? ⟨Dt, 1, none⟩ = some (.string ((dY aC mM).f1))) ?_
         intro w59 hb
         replace iI := kb iI hb
         replace lY := kb lY hb
         replace HB := bs HB hb
         refine ⟨sx, ?_⟩
         repeat (first | refine yS ?_ | refine P_ ?_)
         refine rB Tryz.func136 (ig.calls X3.out) ?_
         intro J6 hb
         replace iI := kb iI hb
         replace lY := kb lY hb
         replace HB := bz HB hb
         clear hb
         refine ⟨sx, ?_⟩
         repeat (first | refine yS ?_ | refine P_ ?_)
         refine rA Tryz.func89 (bI.calls A26.out) ?_
         intro nd
         refine ⟨sx, ?_⟩
         repeat (first | refine yS ?_ | refine P_ ?_)
         refine on ?_
         try go_wp2
         go_ret
         exact ⟨er, bb⟩
       ·
        obtain rfl := s1 H
        have ER := zi mM
        have ES := zj mM aC.length
        obtain ⟨IU, WA, vX, vY⟩ := qC jQ.out mM ER ES
        cases WA
        replace vX := cl HB.out vX
        replace vY := cl HB.out vY
        replace ER := eq_true ER
        replace ES := eq_true ES
        try go_wp2_with (refine gG 4 ?_; refine bY HB 4 #[.string (⟨#[]⟩ : ByteArray), .string (⟨#[]⟩ : ByteArray)] 69 ?_; intro Dt w61 lY L9 hg hb; have qP := Au iI hg; have wX := Aw iI hg; replace iI := kb iI hb; replace HB := bz HB hb; clear hb hg; have aEb := wX.out; have aEc := qP.out; have z63 := AX lY.out)
        refine ab2 HB lY L9 ?_
        intro w64 zf hk HB
        replace iI := kf iI hk qP
        clear hk lY
        have lY := zf; clear zf
        refine rO [2] [0, 1, 2, 3, 4, 5, 6, 7, 8, 9, 10, 11, 12, 13, 14, 15, 16, 17, 18, 19, 20, 21, 22, 23, 24, 25] (fun w' => w'.cell? ⟨Dt, 0, none⟩ = some (.string ((dY aC mM).f0)) ∧ w'.cell? ⟨Dt, 1, none⟩ = some (.string ((dY aC mM).f1))) ?_
        intro w65 hb
        replace iI := kb iI hb
        replace lY := kb lY hb
        replace HB := bs HB hb
        refine ⟨sx, ?_⟩
        repeat (first | refine yS ?_ | refine P_ ?_)
        refine rB Tryz.func136 (ig.calls X3.out) ?_
        intro w66 hb
        replace iI := kb iI hb
        replace lY := kb lY hb
        replace HB := bz HB hb
        clear hb
        refine ⟨sx, ?_⟩
        repeat (first | refine yS ?_ | refine P_ ?_)
        refine on ?_
        try go_wp2
        go_ret
        exact ⟨er, bb⟩
      ·
       replace H := bd H; obtain ⟨awz, A67, H⟩ := H
       obtain rfl := s1 H
       have z68 := ku iI.out
       go_wp2_with (refine gB Tryz.func137 (iE.calls (cu (Kd.aW jQ.out HB.out)) nC.out A67.out) ?_; intro w69 hb; replace iI := kb iI hb; replace HB := bz HB hb; clear hb)
       go_ret
       exact ⟨er, bb⟩
mutual
def cZ.l0 : Nat → Bool → List ByteArray → Int → Int → ByteArray → ByteArray → List (gK) → Option (ByteArray × ByteArray × (List (gK)) × Bool)
 | 0, _, _, _, _, _, _, _ => none
 | k + 1, x7, x37, x38, x39, ET, EU, Du => if x39 < x38 then (if 0 ≤ x39 then (if x39 < (x37.length : Int) then ((strings_Cut.f (qg ByteArray.empty x37 x39) (⟨#[61]⟩ : ByteArray)).bind fun Yf => ((dS.f k Yf.2.1).bind fun Yg => (if Yf.2.2 = true then (if Yg.2 = true then (cZ.j1 k x7 Yf.1 Yg.1 x37 x38 x39 ((Yg.1.length : Int) != 1) ET EU Du) else (cZ.j1 k x7 Yf.1 Yg.1 x37 x38 x39 true ET EU Du)) else (cZ.j1 k x7 Yf.1 Yg.1 x37 x38 x39 true ET EU Du)))) else (none)) else (none)) else (if x7 = true then ((bV.f k ET EU Du).bind fun awH => (if awH = true then (some (ET, EU, Du, true)) else (some ((⟨#[]⟩ : ByteArray), (⟨#[]⟩ : ByteArray), ([] : List (gK)), false)))) else (some ((⟨#[]⟩ : ByteArray), (⟨#[]⟩ : ByteArray), ([] : List (gK)), false)))
def cZ.j1 : Nat → Bool → ByteArray → List ByteArray → List ByteArray → Int → Int → Bool → ByteArray → ByteArray → List (gK) → Option (ByteArray × ByteArray × (List (gK)) × Bool)
 | 0, _, _, _, _, _, _, _, _, _, _ => none
 | k + 1, x7, x11, x14, x37, x38, x39, x64, ET, EU, Du => if x64 = true then (some ((⟨#[]⟩ : ByteArray), (⟨#[]⟩ : ByteArray), ([] : List (gK)), false)) else ((lJ.f x11 (⟨#[32]⟩ : ByteArray)).bind fun ao8 => ((jg.f ao8).bind fun adA => (if 0 < (x14.length : Int) then (if Du.length < 4398046511104 then (cZ.l0 k x7 x37 x38 (wrap64 (x39 + 1)) ET EU (Du ++ [(⟨adA, qg ByteArray.empty x14 0⟩ : gK)])) else (none)) else (none))))
end
def cZ.f (k : Nat) (a0 : ByteArray) : Option (ByteArray × ByteArray × (List (gK)) × Bool) := (bI.f k a0).bind fun awI => (if awI = true then ((dV.f k a0 59).bind fun GH => (if 0 < (GH.length : Int) then ((lJ.f (qg ByteArray.empty GH 0) (⟨#[32]⟩ : ByteArray)).bind fun awJ => ((strings_Cut.f awJ (⟨#[47]⟩ : ByteArray)).bind fun agE => ((jg.f agE.1).bind fun PL => ((jg.f agE.2.1).bind fun PN => (if 1 ≤ (GH.length : Int) then ((some (GH.drop 1 : List ByteArray)).bind fun EW => (cZ.l0 k agE.2.2 EW (EW.length : Int) 0 PL PN ([] : List (gK)))) else (none)))))) else (none))) else (some ((⟨#[]⟩ : ByteArray), (⟨#[]⟩ : ByteArray), ([] : List (gK)), false)))
def cZ.T13 : Bool × List (List Nat × List Nat) := (true, [([], []), ([0], [0]), ([], []), ([2], [2]), ([3, 3], [3]), ([], []), ([5], [5]), ([6], [6]), ([4, 7], [4, 7]), ([8], [8]), ([1, 9, 4], [1, 9]), ([0, 1, 2, 3, 4, 5, 6, 7, 8, 9, 10], []), ([11, 10, 10, 0, 1, 2, 3, 4, 5, 6, 7, 8, 9, 10], [10, 11])])
def cZ.B13 : List Nat := [0, 1, 0, 4, 12, 0, 32, 96, 252, 508, 1023, 2047, 4095]
theorem cZ.aaY : uG .any (opsOf Tryz.f48 13) = cZ.T13 := by kernel_rfl
theorem cZ.Vw : oH cZ.T13.2 cZ.B13 = true := by kernel_rfl
theorem cZ.calls {k : Nat} {a0 r1 r2 : ByteArray} {r3 : List (gK)} {r4 : Bool} {w : World} (CX : MaxOk w) (h : cZ.f k a0 = some (r1, r2, r3, r4)) :
  Calls Tryz.prog 48 #[.string a0] w fun e w' => ∃ Iw : Value, e = .returned (.tuple #[.agg #[.string r1, .string r2, Iw], .bool r4]) ∧ Kd.R pU 69 w' w.heap.size (fun _ => True) Iw r3 ∧ Below w.heap.size w w' := by
 have Xh := Tryz.underlying61
 have DK := Tryz.underlying69
 have HG := ak CX
 clear CX
 have HB := ak (Below.refl w.heap.size w)
 unfold cZ.f at h; have H := h
 clear h
 replace H := bd H; obtain ⟨awI, A2, H⟩ := H; replace H := sb H
 rcases H with ⟨rfl, H⟩ | ⟨rfl, H⟩
 ·
  replace H := bd H; obtain ⟨GH, A4, H⟩ := H; replace H := nn H; obtain ⟨c5, H⟩ := H
  have nR := decide_eq_true c5
  have Kv : decide (0 < GH.length) = true := decide_eq_true (by omega)
  clear c5
  replace H := bd H; obtain ⟨awJ, A6, H⟩ := H; replace H := bd H
  obtain ⟨⟨aJN, aJO, awK⟩, A7, H⟩ := H
  (try dsimp only at H)
  replace H := bd H; obtain ⟨PL, A8, H⟩ := H; replace H := bd H; obtain ⟨PN, A9, H⟩ := H; replace H := Ba H; obtain ⟨pF, uI, H⟩ := H
  replace H := ny H
  obtain ⟨EW, amD, H⟩ := H
  have H' := ak H; clear H
  go_enter Tryz.func48, Tryz.ntmps48
  go_wp2_with (first | (refine gG 2 ?_; refine bX HB 2 #[.string (⟨#[]⟩ : ByteArray), .string (⟨#[]⟩ : ByteArray), .slice none 0 0] 61 ?_; intro Ee U2 lZ awL hb; replace HB := bs HB hb; clear hb) | (refine gD Tryz.func89 (bI.calls A2.out) ?_; intro U2 hb; replace lZ := kb lZ hb; replace HB := bz HB hb; clear hb) | (refine gV Tryz.func90 (dV.calls A4.out) ?_; rintro aJP w12 ⟨ho0, hb⟩; have Ak := ak (Kd.aG ho0 (aj bb)); replace lZ := kb lZ hb; replace HB := bz HB hb; clear hb; (try clear ho0); obtain ⟨U4, Ii, QB⟩ := Kd.aX Ak.out; subst QB; have agF : 0 ≤ (0 : Int) := (by omega); have agG : 0 < (GH.length : Int) := of_decide_eq_true (by assumption); obtain ⟨Yh, e250, Qp⟩ := Kd.jI (Kd.au Ak.out).2.2 0 agF agG; cases e250; have aEd : (0 < GH.length) = True := eq_true (by omega); (try rw [show ((0 : Int)).toNat = 0 from rfl] at Qp); (try rw [Addr.add_zero'] at Qp); replace agF := eq_true agF; replace agG := eq_true agG) | (refine gD Tryz.func92 (lJ.calls A6.out) ?_; intro w12 hb; replace Ak := rb Ak hb; replace lZ := kb lZ hb; replace HB := bz HB hb; clear hb) | (refine gD Tryz.func91 (strings_Cut.calls ?gJ A7.out) ?_; (case gJ => first | exact HG.out | exact MaxOk.below HG.out bb | (repeat (first | exact HG.out | apply MaxOk.drewN | apply MaxOk.drew))); intro w12 hb; replace Ak := rb Ak hb; replace lZ := kb lZ hb; replace HB := bz HB hb; clear hb) | (refine gB Tryz.func93 (jg.calls A8.out) ?_; intro Tc hb; replace Ak := rb Ak hb; replace lZ := kb lZ hb; replace HB := bz HB hb; clear hb) | (refine gB Tryz.func93 (jg.calls A9.out) ?_; intro w15 hb; replace Ak := rb Ak hb; replace lZ := kb lZ hb; replace HB := bz HB hb; clear hb) | (refine gG 8 ?_; refine bY HB 8 #[.string (⟨#[]⟩ : ByteArray), .string (⟨#[]⟩ : ByteArray), .slice none 0 0] 61 ?_; intro zh w16 nX aEe hg hb; have Bv := Au lZ hg; have Bz := Aw lZ hg; replace Ak := rb Ak hb; replace lZ := kb lZ hb; replace HB := bz HB hb; clear hb hg; have alx := Bz.out; have aly := Bv.out; have z18 := ku nX.out) | ((with_reducible refine ZX (t := 61) (p := 8) rfl ?_); refine Yi (t := 61) (p := 8) (v := ?aBm) (w1 := (((w16.setCell ⟨zh, 0, none⟩ (.string PL)).setCell ⟨zh, 1, none⟩ (.string PN)).setCell ⟨zh, 2, none⟩ (.slice none 0 0))) ?hg ?ho ?hn ?hr ?_; (case ho => rfl); (case hg => rfl); (case hn => rfl); (case hr => first | (go_simp; done) | (go_simp; rfl)); intro YM hw; have xK : ah (Kd.R Kd.string 9 YM w.heap.size (fun _ => True) (.slice (some Yh) GH.length Ii) GH) := ⟨(by rw [hw]; exact (ur (Kd.aY (Kd.jy (p := ⟨zh, 2, none⟩) (Kd.jy (p := ⟨zh, 1, none⟩) (Kd.jy (p := ⟨zh, 0, none⟩) (Kd.kE Ak.out nX.out (by decide)) (fun _ hk => hk.2) (.string PL)) (fun _ hk => hk.2) (.string PN)) (fun _ hk => hk.2) (.slice none 0 0)) (fun _ hk => trivial))))⟩; have xM : ah (YM.heap[Ee]? = some (.cells #[.string (⟨#[]⟩ : ByteArray), .string (⟨#[]⟩ : ByteArray), .slice none 0 0] 61 (0, 0))) := ⟨(by rw [hw]; exact bq)⟩; have yC : ah (YM.heap[zh]? = some (.cells #[.string PL, .string PN, .slice none 0 0] 61 (0, 0))) := ⟨(by rw [hw]; exact bq)⟩; have Ad : ah (Below w.heap.size w YM) := ⟨(by rw [hw]; exact bb)⟩; clear hw; clear Ak; clear lZ; clear nX; clear HB; have Ak := xK; have lZ := xM; have nX := yC; have HB := Ad; clear xK xM yC Ad; have q20 : (1 : Int) ≤ ((GH.length : Int) : Int) := of_decide_eq_true (by assumption); obtain ⟨aJQ, amE, _, amF, _⟩ := info_parts info9; have Qq : GH.length ≤ Ii := (Kd.au Ak.out).2.1; have awM : Kd.F Kd.string _ _ (some Yh) GH.length GH := (Kd.ajc (base := w.heap.size) (Kd.R_V (Kd.kE (Kd.kE (Ak.out) lZ.out (by decide)) nX.out (by decide)))).2.2; have ao9 := agH (P := Tryz.prog) 23 9 .i64 Tryz.underlying23 amE 1 amF (some Yh) GH.length Ii 1 (by omega) q20; have agI := Kd.awN (m := (1 : Int).toNat) (c := Ii) awM (by omega) Qq; obtain ⟨A20, hA20⟩ : ∃ A1, A1 = (if Ii = (1 : Int).toNat then (some Yh) else ((some Yh) : Option Addr).map (·.add ((1 : Int).toNat * 1))) := ⟨_, rfl⟩; obtain ⟨c20, ajd⟩ : ∃ c1, c1 = Ii - (1 : Int).toNat := ⟨_, rfl⟩; have agJ : EW.length = GH.length - (1 : Int).toNat := (by rw [amD.out, List.length_drop] <;> omega); rw [show (GH).drop (1 : Int).toNat = EW from amD.out.symm] at agI; replace agI : Kd.F Kd.string _ _ A20 EW.length EW := (by rw [hA20]; exact agI); rw [← agJ, ← hA20, ← ajd] at ao9; have awO := ak (show Kd.V Kd.string 9 _ w.heap.size _ (.slice A20 EW.length c20) EW from Kd.aBn (by rw [agJ, ajd]; exact Nat.sub_le_sub_right Qq _) agI); have aEf := ak (show EW.length ≤ c20 from by rw [agJ, ajd]; exact Nat.sub_le_sub_right Qq _); clear agI awM Qq amE amF ajd; have aJR := ak agJ; have aJS := ak hA20; clear agJ hA20; replace q20 := eq_true q20))
  go_loopg [39] k (fun kq v39 w' => ∃ (RG : Int) (Hz : ByteArray) (HY : ByteArray) (yK : List (gK)) (zk : Value), v39 = .int .i64 RG ∧ ah (cZ.l0 kq awK EW (EW.length : Int) RG PL PN yK = some (r1, r2, r3, r4)) ∧ ah (kq ≤ k) ∧ ah (Kd.V Kd.string 9 w' w.heap.size (fun k_ => some k_ ≠ (zk : Value).ownBlock ∧ k_ ≠ Ee ∧ k_ ≠ zh) (.slice A20 EW.length c20) EW) ∧ ah (Kd.R pU 69 w' w.heap.size (fun _ => True) zk yK) ∧ ah (w'.heap[Ee]? = some (.cells #[.string Hz, .string HY, (.slice none 0 0)] 61 (0, 0))) ∧ ah (w'.heap[zh]? = some (.cells #[.string PL, .string PN, zk] 61 (0, 0))) ∧ ah (Below w.heap.size w w'))
  case atStart => exact ⟨_, _, _, _, _, rs, H', ⟨Nat.le_refl _⟩, ⟨by (with_reducible repeat (first | apply Kd.EX | apply Kd.EY | apply Kd.GI)); exact Kd.Jm awO.out (fun _ hk => ⟨(by simp [Value.ownBlock]), ⟨hk.1.2, hk.2⟩⟩)⟩, ⟨nx⟩, ⟨ub lZ.out⟩, ⟨ub nX.out⟩, ⟨bb⟩⟩
  case round =>
   clear H'
   try clear c1
   try clear c5
   try clear nR
   try clear Kv
   try clear pF
   try clear uI
   try clear c20
   try clear q20
   try clear Qp
   try clear agF
   try clear q20
   try clear agG
   obtain ⟨RG, Hz, HY, yK, zk, rfl, HA, yB, yL, jU, lZ, nX, HB⟩ := hrel
   cases gk with
   | zero => exact zz HA.out
   | succ k1 =>
    obtain ⟨H⟩ := HA
    simp only [cZ.l0] at H
    replace H := sd H
    rcases H with ⟨Fg, H⟩ | ⟨Fg, H⟩
    ·
     replace H := oN H; obtain ⟨Gm, H⟩ := H; replace H := oN H; obtain ⟨BI, H⟩ := H; replace H := bd H
     obtain ⟨⟨awP, aJT, aJU⟩, X3, H⟩ := H
     (try dsimp only at H)
     replace H := bd H
     obtain ⟨⟨RH, aJV⟩, A25, H⟩ := H
     (try dsimp only at H)
     have ao_ := ak H
     clear H
     have aje := zi RG
     have ajf := zj RG EW.length
     obtain ⟨awQ, e264, ajg⟩ := Kd.jI (Kd.agK yL.out).2.2 RG aje ajf
     cases e264
     replace aje := eq_true aje
     replace ajf := eq_true ajf
     go_upto_region 11 with (first | (refine gA Tryz.func91 (strings_Cut.calls ?gJ X3.out) ?_; (case gJ => first | exact HG.out | exact MaxOk.below HG.out bb | (repeat (first | exact HG.out | apply MaxOk.drewN | apply MaxOk.drew))); intro nd) | (refine gV Tryz.func94 (dS.calls A25.out) ?_; rintro awR w27 ⟨ho0, hb⟩; have acC := ak (Kd.aG ho0 (aj bb)); replace yL := ak (Kd.agL (by (with_reducible repeat (first | apply Kd.EX | apply Kd.EY | apply Kd.GI)); exact yL.out) (Kd.eH ho0) hb); replace jU := rb jU hb; replace lZ := kb lZ hb; replace nX := kb nX hb; replace HB := bz HB hb; clear hb; (try clear ho0)))
     (try simp only [Act.put, sK, sN, l_c])
     go_cut [64] (fun v64 wc => ∃ (kq : Nat) (ZY : Bool), v64 = .bool ZY ∧ ah (cZ.j1 kq awK awP RH EW (EW.length : Int) RG ZY PL PN yK = some (r1, r2, r3, r4)) ∧ ah (kq ≤ k1) ∧ ah (Kd.R Kd.string 9 wc w.heap.size (fun _ => True) awR RH) ∧ ah (Kd.V Kd.string 9 wc w.heap.size (fun k_ => some k_ ≠ (awR : Value).ownBlock ∧ some k_ ≠ (zk : Value).ownBlock ∧ k_ ≠ Ee ∧ k_ ≠ zh) (.slice (some awQ) EW.length c20) EW) ∧ ah (Kd.R pU 69 wc w.heap.size (fun _ => True) zk yK) ∧ ah (wc.heap[Ee]? = some (.cells #[.string Hz, .string HY, (.slice none 0 0)] 61 (0, 0))) ∧ ah (wc.heap[zh]? = some (.cells #[.string PL, .string PN, zk] 61 (0, 0))) ∧ ah (Below w.heap.size w wc))
     case first =>
      have H := ao_.out
      clear ao_
      replace H := sb H
      rcases H with ⟨rfl, H⟩ | ⟨rfl, H⟩
      ·
       replace H := sb H
       rcases H with ⟨rfl, H⟩ | ⟨rfl, H⟩
       ·
        have H' := ak H; clear H
        obtain ⟨aun, auo, aiG⟩ := Kd.aX acC.out
        subst aiG
        go_wp2
        go_meet
        case rel => exact ⟨_, _, rs, H', ⟨kl⟩, ⟨ur acC.out⟩, ⟨by (with_reducible repeat (first | apply Kd.EX | apply Kd.EY | apply Kd.GI)); exact Kd.Jm yL.out (fun _ hk => ⟨hk.2, ⟨hk.1.1, ⟨hk.1.2.1, hk.1.2.2⟩⟩⟩)⟩, ⟨ur jU.out⟩, ⟨ub lZ.out⟩, ⟨ub nX.out⟩, ⟨bb⟩⟩
       ·
        have H' := ak H; clear H
        go_wp2
        go_meet
        case rel => exact ⟨_, _, rs, H', ⟨kl⟩, ⟨ur acC.out⟩, ⟨by (with_reducible repeat (first | apply Kd.EX | apply Kd.EY | apply Kd.GI)); exact Kd.Jm yL.out (fun _ hk => ⟨hk.2, ⟨hk.1.1, ⟨hk.1.2.1, hk.1.2.2⟩⟩⟩)⟩, ⟨ur jU.out⟩, ⟨ub lZ.out⟩, ⟨ub nX.out⟩, ⟨bb⟩⟩
      ·
       have H' := ak H; clear H
       go_wp2
       go_meet
       case rel => exact ⟨_, _, rs, H', ⟨kl⟩, ⟨ur acC.out⟩, ⟨by (with_reducible repeat (first | apply Kd.EX | apply Kd.EY | apply Kd.GI)); exact Kd.Jm yL.out (fun _ hk => ⟨hk.2, ⟨hk.1.1, ⟨hk.1.2.1, hk.1.2.2⟩⟩⟩)⟩, ⟨ur jU.out⟩, ⟨ub lZ.out⟩, ⟨ub nX.out⟩, ⟨bb⟩⟩
     case rest =>
      clear ao_
      try clear c1
      try clear c5
      try clear nR
      try clear Kv
      try clear pF
      try clear uI
      try clear c20
      try clear q20
      try clear Fg
      try clear Gm
      try clear BI
      try clear Qp
      try clear ajg
      try clear agF
      try clear aje
      try clear q20
      try clear agG
      try clear ajf
      obtain ⟨kq, ZY, rfl, HA, awS, IV, yL, jU, lZ, nX, HB⟩ := hcut
      cases kq with
      | zero => exact zz HA.out
      | succ aBo =>
       obtain ⟨H⟩ := HA
       simp only [cZ.j1] at H
       replace H := sb H
       rcases H with ⟨rfl, H⟩ | ⟨rfl, H⟩
       ·
        obtain ⟨rfl, rfl, rfl, rfl⟩ := s4 H
        have alC := Bv.out
        have alD := Bz.out
        have z33 := ku lZ.out
        go_wp2
        refine bodyPost_ret (l7 rfl _ _ Ee 61 #[.string (⟨#[]⟩ : ByteArray), .string (⟨#[]⟩ : ByteArray), .slice none 0 0] (0, 0) _ rfl bq Tryz.underlying61 rfl (by kernel_rfl)) rfl ?_
        exact ⟨_, er, nx, bb⟩
       ·
        replace H := bd H; obtain ⟨ao8, A34, H⟩ := H; replace H := bd H; obtain ⟨adA, A35, H⟩ := H; replace H := nn H; obtain ⟨c36, H⟩ := H
        have al4 := decide_eq_true c36
        have awC : decide (0 < RH.length) = true := decide_eq_true (by omega)
        clear c36
        replace H := nl H; obtain ⟨af_, H⟩ := H
        obtain ⟨aBp, amG⟩ := nm (yK ++ [(⟨adA, qg ByteArray.empty RH 0⟩ : gK)])
        rw [← amG.out] at H
        have H' := ak H; clear H
        try go_wp2
        replace IV := ak (Kd.jX IV.out)
        replace yL := ak (Kd.GI yL.out)
        replace jU := ak (Kd.jX jU.out)
        replace lZ := ak (bH lZ.out)
        replace nX := ak (bH nX.out)
        replace HB := ak (iy HB.out)
        obtain ⟨auW, aoB, afH⟩ := Kd.aX IV.out
        (first | subst afH | (injection afH with sQ yO sS; have yP := sQ.symm; have yQ := sS.symm; clear sQ yO sS; subst yP; subst yQ))
        have apa : 0 ≤ (0 : Int) := (by omega)
        have apb : 0 < (RH.length : Int) := of_decide_eq_true (by assumption)
        obtain ⟨amH, e274, Qr⟩ := Kd.jI (Kd.au IV.out).2.2 0 apa apb
        cases e274
        have aEg : (0 < RH.length) = True := eq_true (by omega)
        (try rw [show ((0 : Int)).toNat = 0 from rfl] at Qr)
        (try rw [Addr.add_zero'] at Qr)
        replace apa := eq_true apa
        replace apb := eq_true apb
        refine DL (n := 13) (S := fun w' => w'.cell? ⟨zh, 0, none⟩ = some (.string PL) ∧ w'.cell? ⟨zh, 1, none⟩ = some (.string PN) ∧ w'.cell? ⟨zh, 2, none⟩ = some (zk) ∧ w'.cell? amH = some (.string (qg ByteArray.empty RH 0))) (ds := [10, 12]) #[false, false, false, false, false, false, false, false, false, false, false, false, false] (by kernel_rfl) rfl rfl ⟨(aA nX.out 0).trans rfl, (aA nX.out 1).trans rfl, (aA nX.out 2).trans rfl, Qr⟩ (fun hHeld => ?_); refine vF cZ.aaY cZ.Vw (fun vk Za => ?_)
        generalize wc.drew = w38 at IV yL jU lZ nX HB Qr hHeld ⊢
        refine pl 0 ?_
        refine pl 2 ?_
        refine pl 5 ?_
        refine pl 6 ?_
        refine tk 1 ?_
        refine tk 7 ?_
        refine o1 3 (fun K hK => ?_)
        refine Ac Tryz.func92 (by kernel_rfl) rfl #[.string awP, .string (⟨#[32]⟩ : ByteArray)] (by rfl) rfl rfl ma ?_
        with_reducible refine (lJ.calls A34.out).mono ?_
        rintro e w' ⟨rfl, ⟨nd, rfl⟩⟩
        refine ⟨_, rfl, ?_⟩
        refine hK.out _ _ ⟨(aA nX.out 0).trans rfl, (aA nX.out 1).trans rfl, (aA nX.out 2).trans rfl, hHeld.2.2.2⟩ (fun hHeld => ?_)
        clear hK K
        refine nrm ?_
        refine o1 4 (fun K hK => ?_)
        refine Ac Tryz.func93 (by kernel_rfl) rfl #[.string ao8] (by rfl) rfl rfl ma ?_
        with_reducible refine (jg.calls A35.out).mono ?_
        rintro e w40 ⟨rfl, hb⟩
        have anu := (hb.cell (World.block_lt_of_cell? _ _ (hHeld.2.2.2))).trans (hHeld.2.2.2)
        refine ⟨_, rfl, ?_⟩
        replace IV := rb IV hb
        replace yL := vb yL hb
        replace jU := rb jU hb
        replace lZ := kb lZ hb
        replace nX := kb nX hb
        replace HB := bz HB hb
        try clear hb
        refine hK.out _ _ ⟨(aA nX.out 0).trans rfl, (aA nX.out 1).trans rfl, (aA nX.out 2).trans rfl, anu⟩ (fun hHeld => ?_)
        clear hK K
        refine nrm ?_
        refine pl 8 ?_
        refine o1 9 (fun K hK => ?_)
        refine DN (w1 := ?_) (v := ?_) (by rfl) rfl ?_ ?_
        rotate_left 2
        ·
         go_simp
         constructor
         ·
          rfl
         ·
          rfl
        refine hK.out _ _ ⟨(aA (bn nX.out _) 0).trans rfl, (aA (bn nX.out _) 1).trans rfl, (aA (bn nX.out _) 2).trans rfl, (World.cell?_alloc_lt _ _ _ (World.block_lt_of_cell? _ _ (hHeld.2.2.2))).trans (hHeld.2.2.2)⟩ (fun hHeld => ?_)
        clear hK K
        refine nrm ?_
        refine IE (i := 10) (N := some 76) #[true, true, true, true, true, true, true, true, true, true, true, false, false] rfl rfl (pR vk.out (by kernel_rfl)) (by decide) (fun K hK => ?_)
        refine Kd.oO pU (w0 := w) w.heap.size (by rfl) (.tmp 67) (.tmp 75) 25 69 (.agg #[(.string ⟨#[]⟩), (.string ⟨#[]⟩)]) 32 rfl Tryz.underlying25 xB rfl (by decide) (by omega) zk yK (⟨adA, qg ByteArray.empty RH 0⟩ : gK) [.string adA, .string (qg ByteArray.empty RH 0)] (fun _ => True) (fun _ => False) rfl rfl ?aP (fun _ hk => hk.elim) ?aF ?aO ?aB ?aS ?aL ?_
        (case aP => exact uU _ _ _ (⟨adA, qg ByteArray.empty RH 0⟩ : gK))
        (case aB => exact bb)
        (case aF => exact (fun _ _ => trivial))
        (case aO => exact (ur jU.out))
        (case aS => exact (aj bb))
        (case aL => have := af_.out; omega)
        intro aJW w41 ho hb hg hat
        rw [← amG.out] at ho
        have xK := ak (Kd.nZ (ur IV.out) (Kd.jM (ur jU.out)) (by decide) hg)
        have xM := ak (Kd.agM (ok := (fun k_ => some k_ ≠ (.slice (some amH) RH.length aoB : Value).ownBlock ∧ k_ ≠ Ee ∧ k_ ≠ zh)) (by (with_reducible repeat (first | apply Kd.EX | apply Kd.EY | apply Kd.GI)); exact Kd.Jm yL.out (fun _ hk => ⟨⟨hk.1, ⟨hk.2.2.1, hk.2.2.2⟩⟩, hk.2.1⟩)) hg hat)
        have yC := ak (bM (g := Ee) (o := .cells #[.string Hz, .string HY, .slice none 0 0] 61 (0, 0)) (ub lZ.out) hg (Kd.nO jU.out lZ.out (by decide)))
        have Ad := ak (bM (g := zh) (o := .cells #[.string PL, .string PN, zk] 61 (0, 0)) (ub nX.out) hg (Kd.nO jU.out nX.out (by decide)))
        have C9 := ak (hb)
        have D6 := ak (ho)
        clear IV yL lZ nX HB jU
        have IV := xK
        have yL := xM
        have lZ := yC
        have nX := Ad
        have HB := C9
        have awT := D6
        clear xK xM yC Ad C9 D6 ho hb hg hat
        obtain ⟨au0, au1, afI⟩ := Kd.aX awT.out
        (first | subst afI | (injection afI with sQ yO sS; have yP := sQ.symm; have yQ := sS.symm; clear sQ yO sS; subst yP; subst yQ))
        refine hK.out _ _ ?_
        clear hK K
        refine rW (a' := ?_) ?_ ?_
        rotate_left
        ·
         show Act.put _ (some 76) _ = _
         simp only [Act.put, sK, sN, l_c, eu, f_]
         rfl
        refine pl 11 ?_
        refine IE (i := 12) (N := none) #[true, true, true, true, true, true, true, true, true, true, true, true, true] rfl rfl (pR vk.out (by kernel_rfl)) (by decide) (fun K hK => ?_)
        have aAt : w41.cell? ⟨zh, 2, none⟩ = some (zk) := (aA nX.out 2).trans rfl
        have au2 := iG nX.out 2
        have aiR := Bv.out
        have aiS := Bz.out
        refine IG (w1 := ?_) (by rfl) rfl ?_ ?_
        rotate_left
        ·
         go_simp
         rfl
        refine hK.out _ _ ?_
        clear hK K
        refine II (zT vk.out (by kernel_rfl)) ?_
        try go_wp2
        go_roundg aBo
        case measure => have := yB.out; have := awS.out; omega
        case rel => exact ⟨_, _, _, _, _, rs, H', ⟨by have := yB.out; have := awS.out; omega⟩, ⟨by (with_reducible repeat (first | apply Kd.EX | apply Kd.EY | apply Kd.GI)); exact Kd.Jm (Kd.awU (p := ⟨zh, 2, none⟩) (Kd.Jm yL.out (fun k_ hk => (⟨hk, hk.1.2.2⟩ : _ ∧ k_ ≠ zh))) (fun _ hk => hk.2) (.slice au0 aBp.length au1)) (fun _ hk => ⟨hk.1.2, ⟨hk.1.1.2.1, hk.1.1.2.2⟩⟩)⟩, ⟨rr⟩, ⟨bq⟩, ⟨bq⟩, ⟨bb⟩⟩
    ·
     replace H := sb H
     rcases H with ⟨rfl, H⟩ | ⟨rfl, H⟩
     ·
      replace H := bd H; obtain ⟨awH, A45, H⟩ := H; replace H := sb H
      rcases H with ⟨rfl, H⟩ | ⟨rfl, H⟩
      ·
       obtain ⟨rfl, rfl, rfl, rfl⟩ := s4 H
       have alM := Bz.out
       have alN := Bv.out
       have z48 := ku nX.out
       obtain ⟨adq, adr, afm⟩ := Kd.aX jU.out
       subst afm
       go_wp2_with (go_at_call 95; refine mB (bV.calls (cu ((Kd.au jU.out).2.2)) ((Kd.au jU.out).2.1) A45.out) ?_; intro w50 hb; replace yL := vb yL hb; replace jU := rb jU hb; replace lZ := kb lZ hb; replace nX := kb nX hb; replace HB := bz HB hb; clear hb; have z51 := ku nX.out; have z52 := ku lZ.out)
       refine bodyPost_ret (l7 rfl _ _ Ee 61 #[.string PL, .string PN, .slice adq yK.length adr] (0, 0) _ rfl bq Tryz.underlying61 rfl (by kernel_rfl)) rfl ?_
       exact ⟨_, er, rr, bb⟩
      ·
       obtain ⟨rfl, rfl, rfl, rfl⟩ := s4 H
       have arX := Bz.out
       have arY := Bv.out
       have z54 := ku nX.out
       obtain ⟨aJX, aJY, aBq⟩ := Kd.aX jU.out
       subst aBq
       go_wp2_with (go_at_call 95; refine mB (bV.calls (cu ((Kd.au jU.out).2.2)) ((Kd.au jU.out).2.1) A45.out) ?_; intro w56 hb; replace yL := vb yL hb; replace jU := rb jU hb; replace lZ := kb lZ hb; replace nX := kb nX hb; replace HB := bz HB hb; clear hb; have z57 := ku lZ.out)
       refine bodyPost_ret (l7 rfl _ _ Ee 61 #[.string (⟨#[]⟩ : ByteArray), .string (⟨#[]⟩ : ByteArray), .slice none 0 0] (0, 0) _ rfl bq Tryz.underlying61 rfl (by kernel_rfl)) rfl ?_
       exact ⟨_, er, nx, bb⟩
     ·
      obtain ⟨rfl, rfl, rfl, rfl⟩ := s4 H
      have aEh := Bv.out
      have aEi := Bz.out
      have z59 := ku lZ.out
      go_wp2
      refine bodyPost_ret (l7 rfl _ _ Ee 61 #[.string (⟨#[]⟩ : ByteArray), .string (⟨#[]⟩ : ByteArray), .slice none 0 0] (0, 0) _ rfl bq Tryz.underlying61 rfl (by kernel_rfl)) rfl ?_
      exact ⟨_, er, nx, bb⟩
 ·
  obtain ⟨rfl, rfl, rfl, rfl⟩ := s4 H
  go_enter Tryz.func48, Tryz.ntmps48
  go_wp2_with (first | (refine gG 2 ?_; refine bX HB 2 #[.string (⟨#[]⟩ : ByteArray), .string (⟨#[]⟩ : ByteArray), .slice none 0 0] 61 ?_; intro Ee J6 lZ awL hb; replace HB := bs HB hb; clear hb) | (refine gD Tryz.func89 (bI.calls A2.out) ?_; intro J6 hb; replace lZ := kb lZ hb; replace HB := bz HB hb; clear hb; have axi := ku lZ.out))
  refine bodyPost_ret (l7 rfl _ _ Ee 61 #[.string (⟨#[]⟩ : ByteArray), .string (⟨#[]⟩ : ByteArray), .slice none 0 0] (0, 0) _ rfl bq Tryz.underlying61 rfl (by kernel_rfl)) rfl ?_
  exact ⟨_, er, nx, bb⟩
def nJ.f (a0 : Int) : Option (Bool) := (bP.f a0).bind fun awV => (if awV = true then (some true) else ((dO.f a0).bind fun awW => (some awW)))
theorem nJ.calls {a0 : Int} {r : Bool} {w : World} (h : nJ.f a0 = some r) :
  Calls Tryz.prog 139 #[.int .u8 a0] w fun e w' => e = .returned (.bool r) ∧ dW w w' := by
 unfold nJ.f at h; have H := h
 clear h
 replace H := bd H; obtain ⟨awV, A2, H⟩ := H; replace H := sb H
 rcases H with ⟨rfl, H⟩ | ⟨rfl, H⟩
 ·
  obtain rfl := s1 H
  go_enter Tryz.func139, Tryz.ntmps139
  go_wp2_with (refine gA Tryz.func140 (bP.calls A2.out) ?_; intro nd)
  go_ret
  exact ⟨rs, dn⟩
 ·
  replace H := bd H; obtain ⟨awW, A4, H⟩ := H
  obtain rfl := s1 H
  go_enter Tryz.func139, Tryz.ntmps139
  go_wp2_with (first | (refine gA Tryz.func140 (bP.calls A2.out) ?_; intro nd) | (go_at_call 141; refine mA (dO.calls A4.out) ?_; intro nd))
  go_ret
  exact ⟨rs, dn⟩
def dM.l0 : Nat → ByteArray → Int → Int → Option (Bool)
 | 0, _, _, _ => none
 | k + 1, x0, x7, x8 => if x8 < x7 then (if 0 ≤ x8 then (if x8 < (x0.size : Int) then ((nJ.f (bt x0 x8)).bind fun awX => (if awX = true then (dM.l0 k x0 x7 (wrap64 (x8 + 1))) else (some false))) else (none)) else (none)) else (some true)
def dM.f (k : Nat) (a0 : ByteArray)  : Option (Bool) := dM.l0 k a0 (a0.size : Int) 0
theorem dM.calls {k : Nat} {a0 : ByteArray} {r : Bool} {w : World} (h : dM.f k a0 = some r) :
  Calls Tryz.prog 138 #[.string a0, .func (.func 139) #[] #[]] w fun e w' => e = .returned (.bool r) ∧ dW w w' := by
 unfold dM.f at h; have H := h
 clear h
 have H' := ak H; clear H
 go_enter Tryz.func138, Tryz.ntmps138
 go_wp2
 go_loopg [8] k (fun kq v8 w' => ∃ (lK : Int), v8 = .int .i64 lK ∧ ah (dM.l0 kq a0 (a0.size : Int) lK = some r) ∧ ah (kq ≤ k) ∧ dW w w')
 case atStart => exact ⟨_, rs, H', ⟨Nat.le_refl _⟩, dn⟩
 case round =>
  clear H'
  obtain ⟨lK, rfl, HA, yB, ⟨m1, rfl⟩⟩ := hrel
  cases gk with
  | zero => exact zz HA.out
  | succ k1 =>
   obtain ⟨H⟩ := HA
   simp only [dM.l0] at H
   replace H := sd H
   rcases H with ⟨iP, H⟩ | ⟨iP, H⟩
   ·
    replace H := oN H; obtain ⟨rC, H⟩ := H; replace H := oN H; obtain ⟨nR, H⟩ := H; replace H := bd H; obtain ⟨awX, A7, H⟩ := H; replace H := sb H
    rcases H with ⟨rfl, H⟩ | ⟨rfl, H⟩
    ·
     have H' := ak H; clear H
     obtain ⟨p6, q6, hx6⟩ := bx a0 lK
     go_wp2_with (go_at_call 139; refine mA (nJ.calls A7.out) ?_; intro nd)
     go_roundg k1
     case measure => exact kl
     case rel => exact ⟨_, rs, H', ⟨kl⟩, dn⟩
    ·
     obtain rfl := s1 H
     obtain ⟨p6, q6, hx6⟩ := bx a0 lK
     go_wp2_with (go_at_call 139; refine mA (nJ.calls A7.out) ?_; intro nd)
     go_ret
     exact ⟨rs, dn⟩
   ·
    obtain rfl := s1 H
    go_wp2
    go_ret
    exact ⟨rs, dn⟩
def kU.f (k : Nat) (a0 : ByteArray) : Option (Bool) := if (a0.size : Int) ≥ 1 then (if (a0.size : Int) ≤ 20 then ((dM.f k a0).bind fun awY => (some awY)) else (some false)) else (some false)
theorem kU.calls {k : Nat} {a0 : ByteArray} {r : Bool} {w : World} (h : kU.f k a0 = some r) :
  Calls Tryz.prog 96 #[.string a0] w fun e w' => e = .returned (.bool r) ∧ dW w w' := by
 unfold kU.f at h; have H := h
 clear h
 replace H := sp H
 rcases H with ⟨c2, H⟩ | ⟨c2, H⟩
 ·
  have o_ : decide (1 ≤ (a0.size : Int)) = true := decide_eq_true c2
  have wu : decide (1 ≤ a0.size) = true := decide_eq_true (by omega)
  clear c2
  replace H := sp H
  rcases H with ⟨c3, H⟩ | ⟨c3, H⟩
  ·
   have iP := decide_eq_true c3
   have yU : decide (a0.size ≤ 20) = true := decide_eq_true (by omega)
   clear c3
   replace H := bd H; obtain ⟨awY, A4, H⟩ := H
   obtain rfl := s1 H
   go_enter Tryz.func96, Tryz.ntmps96
   go_wp2_with (go_at_call 138; refine mA (dM.calls A4.out) ?_; intro nd)
   go_ret
   exact ⟨rs, dn⟩
  ·
   have iP := decide_eq_false c3
   have yU : decide (a0.size ≤ 20) = false := decide_eq_false (by omega)
   clear c3
   obtain rfl := s1 H
   go_enter Tryz.func96, Tryz.ntmps96
   go_wp2
   go_ret
   exact ⟨rs, dn⟩
 ·
  have o_ : decide (1 ≤ (a0.size : Int)) = false := decide_eq_false c2
  have wu : decide (1 ≤ a0.size) = false := decide_eq_false (by omega)
  clear c2
  obtain rfl := s1 H
  go_enter Tryz.func96, Tryz.ntmps96
  go_wp2
  go_ret
  exact ⟨rs, dn⟩
end Go.Proofs.YtncdadcmghglkaaGreatDoor.PFnPartValid
