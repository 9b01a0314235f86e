/- Printed walks; conditions: those in each statement. -/
import Derived.Test.YtncdadcmghglkaaGreatDoorVFnPartLinesQt
import Derived.Test.YtncdadcmghglkaaGreatDoorVFnPartLinesYt
import Derived.Test.YtncdadcmghglkaaGreatDoorPFnPartLinesx0
import Derived.Test.YtncdadcmghglkaaGreatDoorPFnPartLinesx11
import Derived.Test.YtncdadcmghglkaaGreatDoorPFnPartLinesx13
import Derived.Test.YtncdadcmghglkaaGreatDoorPFnPartLinesx15
import Derived.Test.YtncdadcmghglkaaGreatDoorPFnPartLinesx17
-- short
-- dense
-- sq
-- sq2
namespace Go.Proofs.YtncdadcmghglkaaGreatDoor.PFnPartLines
open Go.RowKit Go.Proofs.YtncdadcmghglkaaGreatDoor.X Go.Proofs.YtncdadcmghglkaaGreatDoorW.bI Go.Proofs.YtncdadcmghglkaaGreatDoorW.iy Go.Proofs.YtncdadcmghglkaaGreatDoorW.iZ
attribute [local go_sem] kZ lg nK nM jW jX lq lu   -- for this text's walks alone
set_option linter.unusedVariables false
set_option maxHeartbeats 8000000
set_option maxRecDepth 100000
set_option linter.unusedSimpArgs false
def jd.j0 : Nat → Bool → ByteArray → ByteArray → List (gX) → Option (ByteArray × Bool)
 | 0, _, _, _, _ => none
 | k + 1, TI, awD, awE, agF => if TI = true then (some ((⟨#[]⟩ : ByteArray), false)) else ((mF.f k agF (⟨#[98, 111, 117, 110, 100, 97, 114, 121]⟩ : ByteArray)).bind fun aiZ => ((jU.f k aiZ.1).bind fun aqU => (if aqU = true then (some (aiZ.1, true)) else (some ((⟨#[]⟩ : ByteArray), false)))))
def jd.f (k : Nat) (eG : ByteArray) (eU : ByteArray) (aH : List (gX)) : Option (ByteArray × Bool) := (bJ.f k eG eU aH).bind fun aqV => (if aqV = true then (jd.j0 k (eG.toList != ([109, 117, 108, 116, 105, 112, 97, 114, 116] : List UInt8)) eG eU aH) else (jd.j0 k true eG eU aH))
theorem jd.calls {k f_ : Nat} {eG eU r1 : ByteArray} {iP : Option Addr} {aH : List (gX)} {r2 : Bool} {w : World} (kS : Kd.C qI w iP aH.length aH) (kT : aH.length ≤ f_) (h : jd.f k eG eU aH = some (r1, r2)) :
  Calls Tryz.prog 49 #[.agg #[.string eG, .string eU, .slice iP aH.length f_]] w fun e w' => e = .returned (.tuple #[.string r1, .bool r2]) ∧ Below w.heap.size w w' := by
 have Vm := Tryz.underlying61
 have jD := ak kS
 have mQ := ak kT
 clear kS kT
 have HB := ak (Below.refl w.heap.size w)
 unfold jd.f at h; have H := h
 clear h
 have HC2 := ak H
 clear H
 go_enter Tryz.func49, Tryz.ntmps49
 go_upto_region 1 with (refine bX HB 1 #[.string eG, .string eU, .slice iP aH.length f_] 61 ?_; intro aqW w3 zD aBu hb; replace HB := bs HB hb; clear hb)
 (try simp only [Act.put, yT, yU, l_c])
 go_cut [13] (fun v13 wc => ∃ (kq : Nat) (Bl : Bool), v13 = .bool Bl ∧ ah (jd.j0 kq Bl eG eU aH = some (r1, r2)) ∧ ah (kq ≤ k) ∧ ah (wc.heap[aqW]? = some (.cells #[.string eG, .string eU, (.slice iP aH.length f_)] 61 (0, 0))) ∧ ah (Below w.heap.size w wc))
 case first =>
  have H := HC2.out
  clear HC2
  replace H := bd H; obtain ⟨aqV, A4, H⟩ := H; replace H := sb H
  rcases H with ⟨rfl, H⟩ | ⟨rfl, H⟩
  ·
   have H' := ak H; clear H
   have z6 := kK zD.out
   go_wp2_with (refine gB Tryz.func95 (bJ.calls (cu (Kd.bf jD.out HB.out)) mQ.out A4.out) ?_; intro w7 hb; replace zD := kb zD hb; replace HB := bz HB hb; clear hb; have z8 := kK zD.out)
   go_meet
   case rel => exact ⟨_, _, rs, H', ⟨IL⟩, ⟨ub zD.out⟩, ⟨bb⟩⟩
  ·
   have H' := ak H; clear H
   have z9 := kK zD.out
   go_wp2_with (refine gB Tryz.func95 (bJ.calls (cu (Kd.bf jD.out HB.out)) mQ.out A4.out) ?_; intro w10 hb; replace zD := kb zD hb; replace HB := bz HB hb; clear hb)
   go_meet
   case rel => exact ⟨_, _, rs, H', ⟨IL⟩, ⟨ub zD.out⟩, ⟨bb⟩⟩
 case rest =>
  clear HC2
  obtain ⟨kq, Bl, rfl, HA, HJ1, zD, HB⟩ := hcut
  cases kq with
  | zero => exact zz HA.out
  | succ NK =>
   obtain ⟨H⟩ := HA
   simp only [jd.j0] at H
   replace H := sb H
   rcases H with ⟨rfl, H⟩ | ⟨rfl, H⟩
   ·
    obtain ⟨rfl, rfl⟩ := s2 H
    go_wp2
    go_ret2
    exact ⟨er, bb⟩
   ·
    replace H := bd H
    obtain ⟨⟨aE2, aE3⟩, A12, H⟩ := H
    (try dsimp only at H)
    replace H := bd H; obtain ⟨aqU, A13, H⟩ := H; replace H := sb H
    rcases H with ⟨rfl, H⟩ | ⟨rfl, H⟩
    ·
     obtain ⟨rfl, rfl⟩ := s2 H
     have z15 := kK zD.out
     go_wp2_with (first | (refine gB Tryz.func47 (mF.calls (cu (Kd.bf jD.out HB.out)) mQ.out A12.out) ?_; intro w16 hb; replace zD := kb zD hb; replace HB := bz HB hb; clear hb) | (refine gA Tryz.func96 (jU.calls A13.out) ?_; intro nd))
     go_ret2
     exact ⟨er, bb⟩
    ·
     obtain ⟨rfl, rfl⟩ := s2 H
     have z17 := kK zD.out
     go_wp2_with (first | (refine gB Tryz.func47 (mF.calls (cu (Kd.bf jD.out HB.out)) mQ.out A12.out) ?_; intro w18 hb; replace zD := kb zD hb; replace HB := bz HB hb; clear hb) | (refine gA Tryz.func96 (jU.calls A13.out) ?_; intro nd))
     go_ret2
     exact ⟨er, bb⟩
def kJ.f (k : Nat) (dY : List (gX)) (dK : List ByteArray) (aH : List (nG)) : Option (ByteArray × Bool) := (mF.f k dY (⟨#[67, 111, 110, 116, 101, 110, 116, 45, 84, 121, 112, 101]⟩ : ByteArray)).bind fun aqX => ((bQ.f k aqX.1).bind fun Zn => (if Zn.2.2.2 = true then ((jd.f k Zn.1 Zn.2.1 Zn.2.2.1).bind fun ai0 => (some (ai0.1, ai0.2))) else (some ((⟨#[]⟩ : ByteArray), false))))
theorem kJ.calls {k jP jK f_ : Nat} {jO jJ iP : Option Addr} {dY : List (gX)} {dK : List ByteArray} {aH : List (nG)} {r1 : ByteArray} {r2 : Bool} {w : World} (oW : Kd.C qI w jO dY.length dY) (oZ : dY.length ≤ jP) (o7 : Kd.C Kd.string w jJ dK.length dK) (o8 : dK.length ≤ jK) (kS : Kd.C k28 w iP aH.length aH) (kT : aH.length ≤ f_) (CB : MaxOk w) (h : kJ.f k dY dK aH = some (r1, r2)) :
  Calls Tryz.prog 101 #[.agg #[.slice jO dY.length jP, .slice jJ dK.length jK, .slice iP aH.length f_]] w fun e w' => e = .returned (.tuple #[.string r1, .bool r2]) ∧ Below w.heap.size w w' := by
 have EH := Tryz.underlying28
 have Vm := Tryz.underlying61
 have qB := ak oW
 have qQ := ak oZ
 clear oW oZ
 have tZ := ak o7
 have wP := ak o8
 clear o7 o8
 have jD := ak kS
 have mQ := ak kT
 clear kS kT
 have HG := ak CB
 clear CB
 have HB := ak (Below.refl w.heap.size w)
 unfold kJ.f at h; have H := h
 clear h
 replace H := bd H
 obtain ⟨⟨aE4, aE5⟩, A2, H⟩ := H
 (try dsimp only at H)
 replace H := bd H
 obtain ⟨⟨ayF, ayG, aqY, aE6⟩, A3, H⟩ := H
 (try dsimp only at H)
 replace H := sb H
 rcases H with ⟨rfl, H⟩ | ⟨rfl, H⟩
 ·
  replace H := bd H
  obtain ⟨⟨aE7, aE8⟩, A5, H⟩ := H
  (try dsimp only at H)
  obtain ⟨rfl, rfl⟩ := s2 H
  go_enter Tryz.func101, Tryz.ntmps101
  go_wp2_with (first | (refine bX HB 1 #[.slice jO dY.length jP, .slice jJ dK.length jK, .slice iP aH.length f_] 28 ?_; intro aqZ w6 vT aq0 hb; replace HB := bs HB hb; clear hb; have z7 := kK vT.out) | (refine gB Tryz.func47 (mF.calls (cu (Kd.bf qB.out HB.out)) qQ.out A2.out) ?_; intro w8 hb; replace vT := kb vT hb; replace HB := bz HB hb; clear hb) | (refine gV Tryz.func48 (bQ.calls ?fZ A3.out) ?_; (case fZ => first | exact HG.out | exact MaxOk.below HG.out bb | (repeat (first | exact HG.out | apply MaxOk.drewN | apply MaxOk.drew))); rintro ayH w9 ⟨ho0, hb⟩; have EY := ak (Kd.aC ho0 (aj bb)); replace vT := kb vT hb; replace HB := bz HB hb; clear hb; (try clear ho0)) | (refine bY HB 6 #[.string (⟨#[]⟩ : ByteArray), .string (⟨#[]⟩ : ByteArray), .slice none 0 0] 61 ?_; intro aq1 w10 Vu aq2 hg hb; have Lh := Ba vT hg; have Lj := Bc vT hg; replace EY := rb EY hb; replace vT := kb vT hb; replace HB := bz HB hb; clear hb hg; have aoH := Lj.out; have aoI := Lh.out; have z12 := kK Vu.out; obtain ⟨W9, IU, SY⟩ := Kd.aI EY.out; subst SY) | (refine gB Tryz.func49 (jd.calls ?fZ ((Kd.ay EY.out).2.1) A5.out) ?_; (case fZ => refine (Kd.ay (e := 69) (base := w.heap.size) (ok := fun k_ => True) (n := aqY.length) (c := IU) ?_).2.2; exact (rh EY)); intro SS hb; replace EY := rg EY hb; replace vT := kp vT #[.slice jO dY.length jP, .slice jJ dK.length jK, .slice iP aH.length f_] hb; replace Vu := kp Vu #[.string ayF, .string ayG, .slice W9 aqY.length IU] hb; replace HB := bz HB hb; clear hb))
  go_ret2
  exact ⟨er, bb⟩
 ·
  obtain ⟨rfl, rfl⟩ := s2 H
  go_enter Tryz.func101, Tryz.ntmps101
  go_wp2_with (first | (refine bX HB 1 #[.slice jO dY.length jP, .slice jJ dK.length jK, .slice iP aH.length f_] 28 ?_; intro aqZ w15 vT aq0 hb; replace HB := bs HB hb; clear hb; have z16 := kK vT.out) | (refine gB Tryz.func47 (mF.calls (cu (Kd.bf qB.out HB.out)) qQ.out A2.out) ?_; intro w17 hb; replace vT := kb vT hb; replace HB := bz HB hb; clear hb) | (refine gV Tryz.func48 (bQ.calls ?fZ A3.out) ?_; (case fZ => first | exact HG.out | exact MaxOk.below HG.out bb | (repeat (first | exact HG.out | apply MaxOk.drewN | apply MaxOk.drew))); rintro ayH w18 ⟨ho0, hb⟩; have EY := ak (Kd.aC ho0 (aj bb)); replace vT := kb vT hb; replace HB := bz HB hb; clear hb; (try clear ho0)) | (refine bY HB 6 #[.string (⟨#[]⟩ : ByteArray), .string (⟨#[]⟩ : ByteArray), .slice none 0 0] 61 ?_; intro aq1 Zb Vu aq2 hg hb; have Lh := Ba vT hg; have Lj := Bc vT hg; replace EY := rb EY hb; replace vT := kb vT hb; replace HB := bz HB hb; clear hb hg; have aq3 := Lj.out; have aq4 := Lh.out; have z21 := kK Vu.out; obtain ⟨ayI, ayJ, al9⟩ := Kd.aI EY.out; subst al9))
  go_ret2
  exact ⟨er, bb⟩
def pO.f (k : Nat) (a0 : ByteArray) : Option (Bool) := (bg.f k a0).bind fun aq5 => (some (!aq5))
theorem pO.calls {k : Nat} {a0 : ByteArray} {r : Bool} {w : World} (h : pO.f k a0 = some r) :
  Calls Tryz.prog 149 #[.string a0] w fun e w' => e = .returned (.bool r) ∧ dP w w' := by
 unfold pO.f at h; have H := h
 clear h
 replace H := bd H; obtain ⟨aq5, A2, H⟩ := H
 obtain rfl := s1 H
 go_enter Tryz.func149, Tryz.ntmps149
 go_wp2_with (refine gA Tryz.func89 (bg.calls A2.out) ?_; intro nd)
 go_ret
 exact ⟨rs, dn⟩
def aT.l0 : Nat → List ByteArray → Int → Int → Option (Int)
 | 0, _, _, _ => none
 | k + 1, x0, x7, x8 => if x8 < x7 then (if 0 ≤ x8 then (if x8 < (x0.length : Int) then ((pO.f k (mX ByteArray.empty x0 x8)).bind fun aq6 => (if aq6 = true then (some x8) else (aT.l0 k x0 x7 (wrap64 (x8 + 1))))) else (none)) else (none)) else (some (-1))
def aT.f (k : Nat) (l0 : List ByteArray)  : Option (Int) := aT.l0 k l0 (l0.length : Int) 0
theorem aT.calls {k c0 : Nat} {A0 : Option Addr} {l0 : List ByteArray} {r : Int} {w : World} (hr0 : Kd.C Kd.string w A0 l0.length l0) (hc0 : l0.length ≤ c0) (h : aT.f k l0 = some r) :
  Calls Tryz.prog 173 #[.slice A0 l0.length c0, .func (.func 149) #[] #[]] w fun e w' => e = .returned (.int .i64 r) ∧ dP w w' := by
 have HR0 := ak hr0
 have xE := ak hc0
 clear hr0 hc0
 unfold aT.f at h; have H := h
 clear h
 have H' := ak H; clear H
 go_enter Tryz.func173, Tryz.ntmps173
 go_wp2
 go_loopg [8] k (fun kq v8 w' => ∃ (kL : Int), v8 = .int .i64 kL ∧ ah (aT.l0 kq l0 (l0.length : Int) kL = some r) ∧ ah (kq ≤ k) ∧ dP w w')
 case atStart => exact ⟨_, rs, H', ⟨Nat.le_refl _⟩, dn⟩
 case round =>
  clear H'
  obtain ⟨kL, rfl, HA, xI, ⟨m1, rfl⟩⟩ := hrel
  cases gk with
  | zero => exact zz HA.out
  | succ k1 =>
   obtain ⟨H⟩ := HA
   simp only [aT.l0] at H
   replace H := sd H
   rcases H with ⟨iO, H⟩ | ⟨iO, H⟩
   ·
    replace H := oq H; obtain ⟨qR, H⟩ := H; replace H := oq H; obtain ⟨mW, H⟩ := H; replace H := bd H; obtain ⟨aq6, A6, H⟩ := H; replace H := sb H
    rcases H with ⟨rfl, H⟩ | ⟨rfl, H⟩
    ·
     obtain rfl := s1 H
     have Xt := zi kL
     have Xu := zj kL l0.length
     obtain ⟨aq7, al_, agG⟩ := Kd.iU HR0.out kL Xt Xu
     cases al_
     replace Xt := eq_true Xt
     replace Xu := eq_true Xu
     go_wp2_with (go_at_call 149; refine mA (pO.calls A6.out) ?_; intro nd)
     go_ret
     exact ⟨rs, dn⟩
    ·
     have H' := ak H; clear H
     have Xt := zi kL
     have Xu := zj kL l0.length
     obtain ⟨aq7, al_, agG⟩ := Kd.iU HR0.out kL Xt Xu
     cases al_
     replace Xt := eq_true Xt
     replace Xu := eq_true Xu
     go_wp2_with (go_at_call 149; refine mA (pO.calls A6.out) ?_; intro nd)
     go_roundg k1
     case measure => exact kl
     case rel => exact ⟨_, rs, H', ⟨kl⟩, dn⟩
   ·
    obtain rfl := s1 H
    go_wp2
    go_ret
    exact ⟨rs, dn⟩
def fK.f (k : Nat) (l0 : List ByteArray)  : Option (Bool) := (aT.f k l0).bind fun aq8 => (some (decide (aq8 ≥ 0)))
theorem fK.calls {k c0 : Nat} {A0 : Option Addr} {l0 : List ByteArray} {r : Bool} {w : World} (hr0 : Kd.C Kd.string w A0 l0.length l0) (hc0 : l0.length ≤ c0) (h : fK.f k l0 = some r) :
  Calls Tryz.prog 148 #[.slice A0 l0.length c0, .func (.func 149) #[] #[]] w fun e w' => e = .returned (.bool r) ∧ dP w w' := by
 have HR0 := ak hr0
 have xE := ak hc0
 clear hr0 hc0
 unfold fK.f at h; have H := h
 clear h
 replace H := bd H; obtain ⟨aq8, A3, H⟩ := H
 obtain rfl := s1 H
 go_enter Tryz.func148, Tryz.ntmps148
 go_wp2_with (refine gA Tryz.func173 (aT.calls (cu HR0.out) xE.out A3.out) ?_; intro nd)
 go_ret
 exact ⟨rs, dn⟩
def qo.f (k : Nat) (l0 : List ByteArray) (a1 : Int) : Option (Bool) := if (l0.length : Int) ≤ a1 then ((fK.f k l0).bind fun aq9 => (some (!aq9))) else (some false)
theorem qo.calls {k c0 : Nat} {A0 : Option Addr} {l0 : List ByteArray} {a1 : Int} {r : Bool} {w : World} (hr0 : Kd.C Kd.string w A0 l0.length l0) (hc0 : l0.length ≤ c0) (h : qo.f k l0 a1 = some r) :
  Calls Tryz.prog 105 #[.slice A0 l0.length c0, .int .i64 a1] w fun e w' => e = .returned (.bool r) ∧ dP w w' := by
 have HR0 := ak hr0
 have xE := ak hc0
 clear hr0 hc0
 unfold qo.f at h; have H := h
 clear h
 replace H := sd H
 rcases H with ⟨iO, H⟩ | ⟨iO, H⟩
 ·
  replace H := bd H; obtain ⟨aq9, A4, H⟩ := H
  obtain rfl := s1 H
  go_enter Tryz.func105, Tryz.ntmps105
  go_wp2_with (go_at_call 148; refine mA (fK.calls (cu HR0.out) xE.out A4.out) ?_; intro nd)
  go_ret
  exact ⟨rs, dn⟩
 ·
  obtain rfl := s1 H
  go_enter Tryz.func105, Tryz.ntmps105
  go_wp2
  go_ret
  exact ⟨rs, dn⟩
def dA.l0 : Nat → List ByteArray → ByteArray → Int → Int → Option (Int)
 | 0, _, _, _, _ => none
 | k + 1, x0, x1, x7, x8 => if x8 < x7 then (if 0 ≤ x8 then (if x8 < (x0.length : Int) then (if x1.toList = (mX ByteArray.empty x0 x8).toList then (some x8) else (dA.l0 k x0 x1 x7 (wrap64 (x8 + 1)))) else (none)) else (none)) else (some (-1))
def dA.f (k : Nat) (l0 : List ByteArray) (a1 : ByteArray) : Option (Int) := dA.l0 k l0 a1 (l0.length : Int) 0
theorem dA.calls {k c0 : Nat} {A0 : Option Addr} {l0 : List ByteArray} {a1 : ByteArray} {r : Int} {w : World} (hr0 : Kd.C Kd.string w A0 l0.length l0) (hc0 : l0.length ≤ c0) (h : dA.f k l0 a1 = some r) :
  Calls Tryz.prog 99 #[.slice A0 l0.length c0, .string a1] w fun e w' => e = .returned (.int .i64 r) ∧ dP w w' := by
 have HR0 := ak hr0
 have xE := ak hc0
 clear hr0 hc0
 unfold dA.f at h; have H := h
 clear h
 have H' := ak H; clear H
 go_enter Tryz.func99, Tryz.ntmps99
 go_wp2
 go_loopg [8] k (fun kq v8 w' => ∃ (kL : Int), v8 = .int .i64 kL ∧ ah (dA.l0 kq l0 a1 (l0.length : Int) kL = some r) ∧ ah (kq ≤ k) ∧ dP w w')
 case atStart => exact ⟨_, rs, H', ⟨Nat.le_refl _⟩, dn⟩
 case round =>
  clear H'
  obtain ⟨kL, rfl, HA, xI, ⟨m1, rfl⟩⟩ := hrel
  cases gk with
  | zero => exact zz HA.out
  | succ k1 =>
   obtain ⟨H⟩ := HA
   simp only [dA.l0] at H
   replace H := sd H
   rcases H with ⟨iO, H⟩ | ⟨iO, H⟩
   ·
    replace H := oq H; obtain ⟨qR, H⟩ := H; replace H := oq H; obtain ⟨mW, H⟩ := H; replace H := sq H
    rcases H with ⟨nN, wR, H⟩ | ⟨c6, nN, wR, H⟩
    ·
     obtain rfl := s1 H
     have Xv := zi kL
     have Xw := zj kL l0.length
     obtain ⟨aq_, ama, agH⟩ := Kd.iU HR0.out kL Xv Xw
     cases ama
     replace Xv := eq_true Xv
     replace Xw := eq_true Xw
     go_wp2
     go_ret
     exact ⟨rs, dn⟩
    ·
     have H' := ak H; clear H
     have Xv := zi kL
     have Xw := zj kL l0.length
     obtain ⟨aq_, ama, agH⟩ := Kd.iU HR0.out kL Xv Xw
     cases ama
     replace Xv := eq_true Xv
     replace Xw := eq_true Xw
     go_wp2
     go_roundg k1
     case measure => exact kl
     case rel => exact ⟨_, rs, H', ⟨kl⟩, dn⟩
   ·
    obtain rfl := s1 H
    go_wp2
    go_ret
    exact ⟨rs, dn⟩
def fJ.f (k : Nat) (l0 : List ByteArray) (a1 : ByteArray) : Option (Bool) := (dA.f k l0 a1).bind fun ara => (some (decide (ara ≥ 0)))
theorem fJ.calls {k c0 : Nat} {A0 : Option Addr} {l0 : List ByteArray} {a1 : ByteArray} {r : Bool} {w : World} (hr0 : Kd.C Kd.string w A0 l0.length l0) (hc0 : l0.length ≤ c0) (h : fJ.f k l0 a1 = some r) :
  Calls Tryz.prog 175 #[.slice A0 l0.length c0, .string a1] w fun e w' => e = .returned (.bool r) ∧ dP w w' := by
 have HR0 := ak hr0
 have xE := ak hc0
 clear hr0 hc0
 unfold fJ.f at h; have H := h
 clear h
 replace H := bd H; obtain ⟨ara, A3, H⟩ := H
 obtain rfl := s1 H
 go_enter Tryz.func175, Tryz.ntmps175
 go_wp2_with (refine gA Tryz.func99 (dA.calls (cu HR0.out) xE.out A3.out) ?_; intro nd)
 go_ret
 exact ⟨rs, dn⟩
def sV.f (k : Nat) (l0 : List ByteArray) (a1 : ByteArray) : Option (Bool) := if 2 + a1.size ≤ 9223372036854775807 then ((fJ.f k l0 ((⟨#[45, 45]⟩ : ByteArray) ++ a1)).bind fun arb => (if arb = true then (some true) else (if ((⟨#[45, 45]⟩ : ByteArray) ++ a1).size + 2 ≤ 9223372036854775807 then ((fJ.f k l0 (((⟨#[45, 45]⟩ : ByteArray) ++ a1) ++ (⟨#[45, 45]⟩ : ByteArray))).bind fun ard => (some ard)) else (none)))) else (none)
theorem sV.calls {k c0 : Nat} {A0 : Option Addr} {l0 : List ByteArray} {a1 : ByteArray} {r : Bool} {w : World} (hr0 : Kd.C Kd.string w A0 l0.length l0) (hc0 : l0.length ≤ c0) (h : sV.f k l0 a1 = some r) :
  Calls Tryz.prog 152 #[.slice A0 l0.length c0, .string a1] w fun e w' => e = .returned (.bool r) ∧ dP w w' := by
 have HR0 := ak hr0
 have xE := ak hc0
 clear hr0 hc0
 unfold sV.f at h; have H := h
 clear h
 replace H := nn H; obtain ⟨c3, H⟩ := H
 have iO := eq_true c3
 have yK := decide_eq_true c3
 try have abk : (9223372036854775807 < 2 + a1.size) = False := eq_false (Nat.not_lt.2 c3)
 replace H := bd H; obtain ⟨arb, A4, H⟩ := H; replace H := sb H
 rcases H with ⟨rfl, H⟩ | ⟨rfl, H⟩
 ·
  obtain rfl := s1 H
  go_enter Tryz.func152, Tryz.ntmps152
  go_wp2_with (refine gA Tryz.func175 (fJ.calls (cu HR0.out) xE.out A4.out) ?_; intro nd)
  go_ret
  exact ⟨rs, dn⟩
 ·
  replace H := nn H; obtain ⟨c6, H⟩ := H
  have nN := eq_true c6
  have wR := decide_eq_true c6
  try have aE9 : (9223372036854775807 < 2 + a1.size + 2) = False := by have h_ := (eq_false (Nat.not_lt.2 c6) : (9223372036854775807 < ((⟨#[45, 45]⟩ : ByteArray) ++ a1).size + 2) = False); simp only [ByteArray.size_append] at h_; exact h_
  try have agI : (9223372036854775807 < ((⟨#[45, 45]⟩ : ByteArray) ++ a1).size + 2) = False := eq_false (Nat.not_lt.2 c6)
  replace H := bd H; obtain ⟨ard, A7, H⟩ := H
  obtain rfl := s1 H
  go_enter Tryz.func152, Tryz.ntmps152
  go_wp2_with (first | (refine gA Tryz.func175 (fJ.calls (cu HR0.out) xE.out A4.out) ?_; intro nd) | (go_at_call 175; refine mA (fJ.calls (cu HR0.out) xE.out A7.out) ?_; intro nd))
  go_ret
  exact ⟨rs, dn⟩
def mZ.f (k : Nat) (l0 : List ByteArray) (a1 : ByteArray) : Option (Bool) := (sV.f k l0 a1).bind fun arf => (some arf)
theorem mZ.calls {k c0 gq1 : Nat} {A0 : Option Addr} {l0 : List ByteArray} {a1 : ByteArray} {r : Bool} {w : World} (hr0 : Kd.C Kd.string w A0 l0.length l0) (hc0 : l0.length ≤ c0) (hq1 : w.heap[gq1]? = some (.cells #[.string a1] 9 (0, 0))) (h : mZ.f k l0 a1 = some r) :
  Calls Tryz.prog 151 #[.slice A0 l0.length c0, .pointer (some ⟨gq1, 0, none⟩)] w fun e w' => e = .returned (.bool r) ∧ Below w.heap.size w w' := by
 have HR0 := ak hr0
 have xE := ak hc0
 clear hr0 hc0
 have uI := ak hq1
 clear hq1
 have HB := ak (Below.refl w.heap.size w)
 unfold mZ.f at h; have H := h
 clear h
 replace H := bd H; obtain ⟨arf, A3, H⟩ := H
 obtain rfl := s1 H
 have acH : w.cell? ⟨gq1, 0, none⟩ = some (.string a1) := (aA uI.out 0).trans rfl
 have ayK := gY uI.out 0
 go_enter Tryz.func151, Tryz.ntmps151
 go_wp2_with (refine gA Tryz.func152 (sV.calls (cu HR0.out) xE.out A3.out) ?_; intro nd)
 go_ret
 exact ⟨er, bb⟩
def aU.l0 : Nat → List (List ByteArray) → Int → Int → ByteArray → Option (Int)
 | 0, _, _, _, _ => none
 | k + 1, x0, x7, x8, Pj => if x8 < x7 then (if 0 ≤ x8 then (if x8 < (x0.length : Int) then ((mZ.f k (xH x0 x8) Pj).bind fun arh => (if arh = true then (some x8) else (aU.l0 k x0 x7 (wrap64 (x8 + 1)) Pj))) else (none)) else (none)) else (some (-1))
def aU.f (k : Nat) (l0 : List (List ByteArray)) (Ey : ByteArray) : Option (Int) := aU.l0 k l0 (l0.length : Int) 0 Ey
theorem aU.calls {k c0 G7 : Nat} {A0 : Option Addr} {l0 : List (List ByteArray)} {Ey : ByteArray} {r : Int} {w : World} (hr0 : Kd.C (Kd.slice 9 Kd.string) w A0 l0.length l0) (hc0 : l0.length ≤ c0) (MV : w.heap[G7]? = some (.cells #[.string Ey] 9 (0, 0))) (h : aU.f k l0 Ey = some r) :
  Calls Tryz.prog 174 #[.slice A0 l0.length c0, .func (.func 151) #[] #[.pointer (some ⟨G7, 0, none⟩)]] w fun e w' => e = .returned (.int .i64 r) ∧ Below w.heap.size w w' := by
 have HR0 := ak hr0
 have xE := ak hc0
 clear hr0 hc0
 have uI := ak MV
 clear MV
 have HB := ak (Below.refl w.heap.size w)
 unfold aU.f at h; have H := h
 clear h
 have H' := ak H; clear H
 go_enter Tryz.func174, Tryz.ntmps174
 go_wp2
 go_loopg [8] k (fun kq v8 w' => ∃ (kL : Int), v8 = .int .i64 kL ∧ ah (aU.l0 kq l0 (l0.length : Int) kL Ey = some r) ∧ ah (kq ≤ k) ∧ ah (w'.heap[G7]? = some (.cells #[.string Ey] 9 (0, 0))) ∧ ah (Below w.heap.size w w'))
 case atStart => exact ⟨_, rs, H', ⟨Nat.le_refl _⟩, ⟨ub uI.out⟩, ⟨bb⟩⟩
 case round =>
  clear H'
  obtain ⟨kL, rfl, HA, xI, uI, HB⟩ := hrel
  cases gk with
  | zero => exact zz HA.out
  | succ k1 =>
   obtain ⟨H⟩ := HA
   simp only [aU.l0] at H
   replace H := sd H
   rcases H with ⟨iO, H⟩ | ⟨iO, H⟩
   ·
    replace H := oq H; obtain ⟨qR, H⟩ := H; replace H := oq H; obtain ⟨mW, H⟩ := H; replace H := bd H; obtain ⟨arh, A6, H⟩ := H; replace H := sb H
    rcases H with ⟨rfl, H⟩ | ⟨rfl, H⟩
    ·
     obtain rfl := s1 H
     have Xx := zi kL
     have Xy := zj kL l0.length
     obtain ⟨ari, amb, amc, amd, Jd, Je, Jf⟩ := IQ HR0.out kL Xx Xy
     cases amd
     replace Jd := cl HB.out Jd
     have TP := ak Jf
     have TQ := ak Je
     clear Jf Je
     replace Xx := eq_true Xx
     replace Xy := eq_true Xy
     go_wp2_with (go_at_call 151; refine mB (mZ.calls (cu (Kd.bf TP.out HB.out)) TQ.out (ub uI.out) A6.out) ?_; intro w8 hb; replace uI := kb uI hb; replace HB := bz HB hb; clear hb)
     go_ret
     exact ⟨er, bb⟩
    ·
     have H' := ak H; clear H
     have Xx := zi kL
     have Xy := zj kL l0.length
     obtain ⟨ari, amb, amc, amd, Jd, Je, Jf⟩ := IQ HR0.out kL Xx Xy
     cases amd
     replace Jd := cl HB.out Jd
     have TP := ak Jf
     have TQ := ak Je
     clear Jf Je
     replace Xx := eq_true Xx
     replace Xy := eq_true Xy
     go_wp2_with (go_at_call 151; refine mB (mZ.calls (cu (Kd.bf TP.out HB.out)) TQ.out (ub uI.out) A6.out) ?_; intro w9 hb; replace uI := kb uI hb; replace HB := bz HB hb; clear hb)
     go_roundg k1
     case measure => exact kl
     case rel => exact ⟨_, rs, H', ⟨kl⟩, ⟨ub uI.out⟩, ⟨bb⟩⟩
   ·
    obtain rfl := s1 H
    go_wp2
    go_ret
    exact ⟨er, bb⟩
def dS.f (k : Nat) (l0 : List (List ByteArray)) (Ey : ByteArray) : Option (Bool) := (aU.f k l0 Ey).bind fun arj => (some (decide (arj ≥ 0)))
theorem dS.calls {k c0 G7 : Nat} {A0 : Option Addr} {l0 : List (List ByteArray)} {Ey : ByteArray} {r : Bool} {w : World} (hr0 : Kd.C (Kd.slice 9 Kd.string) w A0 l0.length l0) (hc0 : l0.length ≤ c0) (MV : w.heap[G7]? = some (.cells #[.string Ey] 9 (0, 0))) (h : dS.f k l0 Ey = some r) :
  Calls Tryz.prog 150 #[.slice A0 l0.length c0, .func (.func 151) #[] #[.pointer (some ⟨G7, 0, none⟩)]] w fun e w' => e = .returned (.bool r) ∧ Below w.heap.size w w' := by
 have HR0 := ak hr0
 have xE := ak hc0
 clear hr0 hc0
 have uI := ak MV
 clear MV
 have HB := ak (Below.refl w.heap.size w)
 unfold dS.f at h; have H := h
 clear h
 replace H := bd H; obtain ⟨arj, A3, H⟩ := H
 obtain rfl := s1 H
 go_enter Tryz.func150, Tryz.ntmps150
 go_wp2_with (refine gB Tryz.func174 (aU.calls (cu HR0.out) xE.out (ub uI.out) A3.out) ?_; intro w4 hb; replace uI := kb uI hb; replace HB := bz HB hb; clear hb)
 go_ret
 exact ⟨er, bb⟩
mutual
def fE.j0 : Nat → List (List ByteArray) → Bool → ByteArray → Option (List ByteArray × Bool)
 | 0, _, _, _ => none
 | k + 1, x0, x21, BA => if x21 = true then (some (([] : List ByteArray), false)) else (fE.l0 k (([] : List ByteArray)) x0 (x0.length : Int) 0 BA)
def fE.l0 : Nat → List ByteArray → List (List ByteArray) → Int → Int → ByteArray → Option (List ByteArray × Bool)
 | 0, _, _, _, _, _ => none
 | k + 1, x6, x23, x24, x25, BA => if x25 < x24 then (if 0 ≤ x25 then (if x25 < (x23.length : Int) then (if 2 + BA.size ≤ 9223372036854775807 then (if x6.length < 8796093022208 then ((some (x6 ++ [(⟨#[45, 45]⟩ : ByteArray) ++ BA] : List ByteArray)).bind fun adQ => (if adQ.length + (xH x23 x25).length < 8796093022208 then (fE.l0 k (adQ ++ (xH x23 x25)) x23 x24 (wrap64 (x25 + 1)) BA) else (none))) else (none)) else (none)) else (none)) else (none)) else (if 2 + BA.size ≤ 9223372036854775807 then (if ((⟨#[45, 45]⟩ : ByteArray) ++ BA).size + 2 ≤ 9223372036854775807 then (if x6.length < 8796093022208 then (some ((x6 ++ [((⟨#[45, 45]⟩ : ByteArray) ++ BA) ++ (⟨#[45, 45]⟩ : ByteArray)]), true)) else (none)) else (none)) else (none))
end
def fE.f (k : Nat) (l0 : List (List ByteArray)) (a1 : ByteArray) : Option (List ByteArray × Bool) := (jU.f k a1).bind fun ark => (if ark = true then (if (l0.length : Int) = 0 then (fE.j0 k l0 true a1) else ((dS.f k l0 a1).bind fun arl => (fE.j0 k l0 arl a1))) else (fE.j0 k l0 true a1))
theorem fE.calls {k c0 : Nat} {A0 : Option Addr} {l0 : List (List ByteArray)} {a1 : ByteArray} {r1 : List ByteArray} {r2 : Bool} {w : World} (hr0 : Kd.C (Kd.slice 9 Kd.string) w A0 l0.length l0) (hc0 : l0.length ≤ c0) (h : fE.f k l0 a1 = some (r1, r2)) :
  Calls Tryz.prog 106 #[.slice A0 l0.length c0, .string a1] w fun e w' => ∃ oV : Value, e = .returned (.tuple #[oV, .bool r2]) ∧ Kd.R Kd.string 9 w' w.heap.size (fun _ => True) oV r1 ∧ Below w.heap.size w w' := by
 have HR0 := ak hr0
 have xE := ak hc0
 clear hr0 hc0
 have HB := ak (Below.refl w.heap.size w)
 unfold fE.f at h; have H := h
 clear h
 have OU := ak H
 clear H
 go_enter Tryz.func106, Tryz.ntmps106
 go_upto_region 1 with (refine gG 3 ?_; refine bX HB 3 #[.string a1] 9 ?_; intro xO w4 qp aBv hb; replace HB := bs HB hb; clear hb)
 (try simp only [Act.put, yT, yU, l_c])
 go_cut [21] (fun v21 wc => ∃ (kq : Nat) (adR : Bool), v21 = .bool adR ∧ ah (fE.j0 kq l0 adR a1 = some (r1, r2)) ∧ ah (kq ≤ k) ∧ ah (wc.heap[xO]? = some (.cells #[.string a1] 9 (0, 0))) ∧ ah (Below w.heap.size w wc))
 case first =>
  have H := OU.out
  clear OU
  replace H := bd H; obtain ⟨ark, A5, H⟩ := H; replace H := sb H
  rcases H with ⟨rfl, H⟩ | ⟨rfl, H⟩
  ·
   replace H := sp H
   rcases H with ⟨c7, H⟩ | ⟨c7, H⟩
   ·
    have rF := beq_iff_eq.mpr c7
    have HY := bne_eq_false_iff_eq.mpr c7
    clear c7
    (first | rw [rF] | (simp only [iK, jI]; rw [rF]) | skip)
    have H' := ak H; clear H
    have ayL : w4.cell? ⟨xO, 0, none⟩ = some (.string a1) := (aA qp.out 0).trans rfl
    have ayM := gY qp.out 0
    go_wp2_with (refine gA Tryz.func96 (jU.calls A5.out) ?_; intro nd)
    go_meet
    case rel => exact ⟨_, _, rs, H', ⟨IL⟩, ⟨ub qp.out⟩, ⟨bb⟩⟩
   ·
    have rF := beq_eq_false_iff_ne.mpr c7
    have HY := bne_iff_ne.mpr c7
    have ayN : ¬ (l0 = []) := fun h_ => c7 (by rw [h_]; rfl)
    (first | rw [rF] | (simp only [iK, jI]; rw [rF]) | skip)
    replace H := bd H; obtain ⟨arl, A9, H⟩ := H
    have H' := ak H; clear H
    have awF : w4.cell? ⟨xO, 0, none⟩ = some (.string a1) := (aA qp.out 0).trans rfl
    have awG := gY qp.out 0
    go_wp2_with (first | (refine gA Tryz.func96 (jU.calls A5.out) ?_; intro nd) | (go_at_call 150; refine mB (dS.calls (cu (Kd.bf HR0.out bb)) xE.out (ub qp.out) A9.out) ?_; intro U3 hb; replace qp := kb qp hb; replace HB := bz HB hb; clear hb))
    go_meet
    case rel => exact ⟨_, _, rs, H', ⟨IL⟩, ⟨ub qp.out⟩, ⟨bb⟩⟩
  ·
   have H' := ak H; clear H
   have agh : w4.cell? ⟨xO, 0, none⟩ = some (.string a1) := (aA qp.out 0).trans rfl
   have awH := gY qp.out 0
   go_wp2_with (refine gA Tryz.func96 (jU.calls A5.out) ?_; intro nd)
   go_meet
   case rel => exact ⟨_, _, rs, H', ⟨IL⟩, ⟨ub qp.out⟩, ⟨bb⟩⟩
 case rest =>
  clear OU
  obtain ⟨kq, adR, rfl, HA, HJ2, qp, HB⟩ := hcut
  cases kq with
  | zero => exact zz HA.out
  | succ YD =>
   obtain ⟨H⟩ := HA
   simp only [fE.j0] at H
   replace H := sb H
   rcases H with ⟨rfl, H⟩ | ⟨rfl, H⟩
   ·
    obtain ⟨rfl, rfl⟩ := s2 H
    go_wp2
    go_ret2
    exact ⟨_, er, nx, bb⟩
   ·
    obtain ⟨aE_, ai1⟩ := nm ([] : List ByteArray)
    rw [← ai1.out] at H
    have H' := ak H; clear H
    go_wp2_with (refine gG 22 ?_; refine Gu 22 Kd.string 9 ai1 ?_; intro aFa SS NJ hb; have arn := ak (Kd.aC (Kd.nH NJ (g := xO) (o := .cells #[.string a1] 9 (0, 0)) (ub qp.out)) (aj bb)); replace qp := kb qp hb; replace HB := bz HB hb; clear hb NJ)
    go_loopg [6, 25] YD (fun kq v6 v25 w' => ∃ (Bd : List ByteArray) (Na : Int), v25 = .int .i64 Na ∧ ah (fE.l0 kq Bd l0 (l0.length : Int) Na a1 = some (r1, r2)) ∧ ah (kq ≤ YD) ∧ ah (Kd.R Kd.string 9 w' w.heap.size (fun k_ => k_ ≠ xO) v6 Bd) ∧ ah (w'.heap[xO]? = some (.cells #[.string a1] 9 (0, 0))) ∧ ah (Below w.heap.size w w'))
    case atStart => exact ⟨_, _, rs, H', ⟨Nat.le_refl _⟩, ⟨ur (Kd.aY arn.out (fun _ hk => hk.2))⟩, ⟨ub qp.out⟩, ⟨bb⟩⟩
    case round =>
     clear H'
     obtain ⟨Bd, Na, rfl, HA, MJ, jg, qp, HB⟩ := hrel
     cases gk with
     | zero => exact zz HA.out
     | succ k2 =>
      obtain ⟨H⟩ := HA
      simp only [fE.l0] at H
      replace H := sd H
      rcases H with ⟨zA, H⟩ | ⟨zA, H⟩
      ·
       replace H := oq H; obtain ⟨sJ, H⟩ := H; replace H := oq H; obtain ⟨vF, H⟩ := H; replace H := nn H; obtain ⟨c19, H⟩ := H
       have z_ := eq_true c19
       have Eb := decide_eq_true c19
       try have ai2 : (9223372036854775807 < 2 + a1.size) = False := eq_false (Nat.not_lt.2 c19)
       replace H := nl H; obtain ⟨adA, H⟩ := H
       replace H := ny H
       obtain ⟨adQ, aro, H⟩ := H
       replace H := nl H; obtain ⟨Vw, H⟩ := H
       obtain ⟨aFb, ai3⟩ := nm (adQ ++ (xH l0 Na))
       rw [← ai3.out] at H
       have H' := ak H; clear H
       have ame := zi Na
       have amf := zj Na l0.length
       obtain ⟨aBw, ayO, ayP, ayQ, Zo, Zp, Zq⟩ := IQ HR0.out Na ame amf
       cases ayQ
       replace Zo := cl HB.out Zo
       have agJ := ak Zq
       have awI := ak Zp
       clear Zq Zp
       replace ame := eq_true ame
       replace amf := eq_true amf
       have awJ : wr.cell? ⟨xO, 0, none⟩ = some (.string a1) := (aA qp.out 0).trans rfl
       have awK := gY qp.out 0
       go_wp2_with (first | ((with_reducible refine eu (b := .append) (xs := #[.tmp 29, .tmp 32]) rfl ?_); (try (refine lD (by rfl) ?_; dsimp only)); at_builtin; refine Kd.pV Kd.string (w0 := w) w.heap.size rfl (.tmp 29) (.tmp 32) 23 9 (.string ⟨#[]⟩) 16 rfl Tryz.underlying23 info9 rfl (by decide) (by omega) u6 Bd ((⟨#[45, 45]⟩ : ByteArray) ++ a1) [.string ((⟨#[45, 45]⟩ : ByteArray) ++ a1)] (fun k_ => k_ ≠ xO) (fun _ => False) rfl rfl ?aP (fun _ hk => hk.elim) ?aF ?aO ?aB ?aS ?aL ?_; (case aP => exact rfl); (case aB => exact bb); (case aF => exact (fun k_ hk => Kd.xQ (g := xO) (o := .cells #[.string a1] 9 (0, 0)) (ub qp.out) k_ hk)); (case aO => exact (ur jg.out)); (case aS => exact (aj bb)); (case aL => have := adA.out; omega); intro ayR w23 ho hb hg hat; rw [← aro.out] at ho; have adS := ak (ho); replace qp := ak (cZ (g := xO) (o := .cells #[.string a1] 9 (0, 0)) (ub qp.out) hg (Kd.y8 jg.out (fun _ hk => hk))); replace HB := ak (hb); clear ho hb hg hat jg) | ((with_reducible refine eu (b := .append) (xs := #[.tmp 34, .tmp 35]) rfl ?_); (try (refine lD (by rfl) ?_; dsimp only)); at_builtin; refine Kd.ql Kd.string (w0 := w) w.heap.size rfl (.tmp 34) (.tmp 35) 23 9 (.string ⟨#[]⟩) 16 rfl Tryz.underlying23 info9 rfl (by decide) (by omega) ayR adQ (xH l0 Na) _ _ _ (fun k_ => k_ ≠ xO) (fun _ => False) rfl rfl ?aO ?aR (fun _ _ h => h) (fun _ h => h.elim) ?aF ?aB ?aS ?aL ?_; (case aR => repeat (first | exact (Kd.bf agJ.out HB.out) | (with_reducible refine Kd.ni ?_ _) | (with_reducible refine Kd.nC ?_ _) | (with_reducible refine Kd.pY ?_))); (case aB => exact bb); (case aF => exact (fun k_ hk => Kd.xQ (g := xO) (o := .cells #[.string a1] 9 (0, 0)) (ub qp.out) k_ hk)); (case aO => exact (ur adS.out)); (case aS => exact (aj bb)); (case aL => have := Vw.out; omega); intro aFc w24 ho hb hg hat; rw [← ai3.out] at ho; have arp := ak (ho); replace qp := ak (cZ (g := xO) (o := .cells #[.string a1] 9 (0, 0)) (ub qp.out) hg (Kd.y8 adS.out (fun _ hk => hk))); replace HB := ak (hb); clear ho hb hg hat adS))
       go_roundg k2
       case measure => exact kl
       case rel => exact ⟨_, _, rs, H', ⟨kl⟩, ⟨ur arp.out⟩, ⟨ub qp.out⟩, ⟨bb⟩⟩
      ·
       replace H := nn H; obtain ⟨c25, H⟩ := H
       have Pg := eq_true c25
       have adT := decide_eq_true c25
       try have arq : (9223372036854775807 < 2 + a1.size) = False := eq_false (Nat.not_lt.2 c25)
       replace H := nn H; obtain ⟨c26, H⟩ := H
       have MW := eq_true c26
       have Zc := decide_eq_true c26
       try have aBx : (9223372036854775807 < 2 + a1.size + 2) = False := by have h_ := (eq_false (Nat.not_lt.2 c26) : (9223372036854775807 < ((⟨#[45, 45]⟩ : ByteArray) ++ a1).size + 2) = False); simp only [ByteArray.size_append] at h_; exact h_
       try have aBy : (9223372036854775807 < ((⟨#[45, 45]⟩ : ByteArray) ++ a1).size + 2) = False := eq_false (Nat.not_lt.2 c26)
       replace H := nl H; obtain ⟨adU, H⟩ := H
       obtain ⟨aFd, ai4⟩ := nm (Bd ++ [((⟨#[45, 45]⟩ : ByteArray) ++ a1) ++ (⟨#[45, 45]⟩ : ByteArray)])
       rw [← ai4.out] at H
       obtain ⟨rfl, rfl⟩ := s2 H
       have awL : wr.cell? ⟨xO, 0, none⟩ = some (.string a1) := (aA qp.out 0).trans rfl
       have awM := gY qp.out 0
       go_wp2_with ((with_reducible refine eu (b := .append) (xs := #[.tmp 38, .tmp 42]) rfl ?_); (try (refine lD (by rfl) ?_; dsimp only)); at_builtin; refine Kd.pV Kd.string (w0 := w) w.heap.size rfl (.tmp 38) (.tmp 42) 23 9 (.string ⟨#[]⟩) 16 rfl Tryz.underlying23 info9 rfl (by decide) (by omega) u6 Bd (((⟨#[45, 45]⟩ : ByteArray) ++ a1) ++ (⟨#[45, 45]⟩ : ByteArray)) [.string (((⟨#[45, 45]⟩ : ByteArray) ++ a1) ++ (⟨#[45, 45]⟩ : ByteArray))] (fun k_ => k_ ≠ xO) (fun _ => False) rfl rfl ?aP (fun _ hk => hk.elim) ?aF ?aO ?aB ?aS ?aL ?_; (case aP => exact rfl); (case aB => exact bb); (case aF => exact (fun k_ hk => Kd.xQ (g := xO) (o := .cells #[.string a1] 9 (0, 0)) (ub qp.out) k_ hk)); (case aO => exact (ur jg.out)); (case aS => exact (aj bb)); (case aL => have := adU.out; omega); intro aFe w29 ho hb hg hat; rw [← ai4.out] at ho; have ars := ak (ho); replace qp := ak (cZ (g := xO) (o := .cells #[.string a1] 9 (0, 0)) (ub qp.out) hg (Kd.y8 jg.out (fun _ hk => hk))); replace HB := ak (hb); clear ho hb hg hat jg)
       go_ret2
       exact ⟨_, er, ur (Kd.aY ars.out (fun _ hk => trivial)), bb⟩
end Go.Proofs.YtncdadcmghglkaaGreatDoor.PFnPartLines
