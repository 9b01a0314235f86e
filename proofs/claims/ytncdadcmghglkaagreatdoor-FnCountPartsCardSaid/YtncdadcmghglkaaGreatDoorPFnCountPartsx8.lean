/- Printed walks; conditions: those in each statement. -/
import Derived.Test.YtncdadcmghglkaaGreatDoorVFnCountPartsQt
import Derived.Test.YtncdadcmghglkaaGreatDoorVFnCountPartsYt
import Derived.Test.YtncdadcmghglkaaGreatDoorPFnCountPartsx0
import Derived.Test.YtncdadcmghglkaaGreatDoorPFnCountPartsx1
import Derived.Test.YtncdadcmghglkaaGreatDoorPFnCountPartsx3
import Derived.Test.YtncdadcmghglkaaGreatDoorPFnCountPartsx5
import Derived.Test.YtncdadcmghglkaaGreatDoorPFnCountPartsx7
-- short
-- dense
-- sq
-- sq2
namespace Go.Proofs.YtncdadcmghglkaaGreatDoor.PFnCountParts
open Go.RowKit Go.Proofs.YtncdadcmghglkaaGreatDoor.X Go.Proofs.YtncdadcmghglkaaGreatDoorW.bI Go.Proofs.YtncdadcmghglkaaGreatDoorW.gI Go.Proofs.YtncdadcmghglkaaGreatDoorW.iL
attribute [local go_sem] kN kP mF mG jB jC kQ kR   -- for this text's walks alone
set_option linter.unusedVariables false
set_option maxHeartbeats 8000000
set_option maxRecDepth 100000
set_option linter.unusedSimpArgs false
def jk.j0 : Nat → Bool → ByteArray → ByteArray → List (gY) → Option (ByteArray × Bool)
 | 0, _, _, _, _ => none
 | k + 1, Lj, awD, awE, ahO => if Lj = true then (some ((⟨#[]⟩ : ByteArray), false)) else ((ni.f k ahO (⟨#[98, 111, 117, 110, 100, 97, 114, 121]⟩ : ByteArray)).bind fun ak6 => ((kD.f k ak6.1).bind fun auS => (if auS = true then (some (ak6.1, true)) else (some ((⟨#[]⟩ : ByteArray), false)))))
def jk.f (k : Nat) (eF : ByteArray) (eP : ByteArray) (aC : List (gY)) : Option (ByteArray × Bool) := (bM.f k eF eP aC).bind fun auT => (if auT = true then (jk.j0 k (eF.toList != ([109, 117, 108, 116, 105, 112, 97, 114, 116] : List UInt8)) eF eP aC) else (jk.j0 k true eF eP aC))
theorem jk.calls {k eY : Nat} {eF eP r1 : ByteArray} {gX : Option Addr} {aC : List (gY)} {r2 : Bool} {w : World} (jJ : Kd.C qJ w gX aC.length aC) (jK : aC.length ≤ eY) (h : jk.f k eF eP aC = some (r1, r2)) :
  Calls Tryz.prog 49 #[.agg #[.string eF, .string eP, .slice gX aC.length eY]] w fun e w' => e = .returned (.tuple #[.string r1, .bool r2]) ∧ Below w.heap.size w w' := by
 have Vu := Tryz.underlying61
 have jm := ak jJ
 have lJ := ak jK
 clear jJ jK
 have HB := ak (Below.refl w.heap.size w)
 unfold jk.f at h; have H := h
 clear h
 have HC2 := ak H
 clear H
 go_enter Tryz.func49, Tryz.ntmps49
 go_upto_region 1 with (refine bX HB 1 #[.string eF, .string eP, .slice gX aC.length eY] 61 ?_; intro auU w3 zF aCS hb; replace HB := bs HB hb; clear hb)
 (try simp only [Act.put, qW, qX, l_c])
 go_cut [13] (fun v13 wc => ∃ (kq : Nat) (sO : Bool), v13 = .bool sO ∧ ah (jk.j0 kq sO eF eP aC = some (r1, r2)) ∧ ah (kq ≤ k) ∧ ah (wc.heap[auU]? = some (.cells #[.string eF, .string eP, (.slice gX aC.length eY)] 61 (0, 0))) ∧ ah (Below w.heap.size w wc))
 case first =>
  have H := HC2.out
  clear HC2
  replace H := bd H; obtain ⟨auT, A4, H⟩ := H; replace H := sb H
  rcases H with ⟨rfl, H⟩ | ⟨rfl, H⟩
  ·
   have H' := ak H; clear H
   have z6 := jW zF.out
   go_wp2_with (refine gB Tryz.func95 (bM.calls (cu (Kd.aW jm.out HB.out)) lJ.out A4.out) ?_; intro w7 hb; replace zF := kb zF hb; replace HB := bz HB hb; clear hb; have z8 := jW zF.out)
   go_meet
   case rel => exact ⟨_, _, rs, H', ⟨KR⟩, ⟨ub zF.out⟩, ⟨bb⟩⟩
  ·
   have H' := ak H; clear H
   have z9 := jW zF.out
   go_wp2_with (refine gB Tryz.func95 (bM.calls (cu (Kd.aW jm.out HB.out)) lJ.out A4.out) ?_; intro w10 hb; replace zF := kb zF hb; replace HB := bz HB hb; clear hb)
   go_meet
   case rel => exact ⟨_, _, rs, H', ⟨KR⟩, ⟨ub zF.out⟩, ⟨bb⟩⟩
 case rest =>
  clear HC2
  obtain ⟨kq, sO, rfl, HA, HJ1, zF, HB⟩ := hcut
  cases kq with
  | zero => exact zz HA.out
  | succ NI =>
   obtain ⟨H⟩ := HA
   simp only [jk.j0] at H
   replace H := sb H
   rcases H with ⟨rfl, H⟩ | ⟨rfl, H⟩
   ·
    obtain ⟨rfl, rfl⟩ := s2 H
    go_wp2
    go_ret2
    exact ⟨er, bb⟩
   ·
    replace H := bd H
    obtain ⟨⟨aIg, aIh⟩, A12, H⟩ := H
    (try dsimp only at H)
    replace H := bd H; obtain ⟨auS, A13, H⟩ := H; replace H := sb H
    rcases H with ⟨rfl, H⟩ | ⟨rfl, H⟩
    ·
     obtain ⟨rfl, rfl⟩ := s2 H
     have z15 := jW zF.out
     go_wp2_with (first | (refine gB Tryz.func47 (ni.calls (cu (Kd.aW jm.out HB.out)) lJ.out A12.out) ?_; intro w16 hb; replace zF := kb zF hb; replace HB := bz HB hb; clear hb) | (refine gA Tryz.func96 (kD.calls A13.out) ?_; intro nd))
     go_ret2
     exact ⟨er, bb⟩
    ·
     obtain ⟨rfl, rfl⟩ := s2 H
     have z17 := jW zF.out
     go_wp2_with (first | (refine gB Tryz.func47 (ni.calls (cu (Kd.aW jm.out HB.out)) lJ.out A12.out) ?_; intro w18 hb; replace zF := kb zF hb; replace HB := bz HB hb; clear hb) | (refine gA Tryz.func96 (kD.calls A13.out) ?_; intro nd))
     go_ret2
     exact ⟨er, bb⟩
def kW.f (k : Nat) (dh : List (gY)) (bU : List ByteArray) (aC : List (nG)) : Option (ByteArray × Bool) := (ni.f k dh (⟨#[67, 111, 110, 116, 101, 110, 116, 45, 84, 121, 112, 101]⟩ : ByteArray)).bind fun auV => ((bV.f k auV.1).bind fun aaV => (if aaV.2.2.2 = true then ((jk.f k aaV.1 aaV.2.1 aaV.2.2.1).bind fun ak7 => (some (ak7.1, ak7.2))) else (some ((⟨#[]⟩ : ByteArray), false))))
theorem kW.calls {k jg iZ eY : Nat} {jf iY gX : Option Addr} {dh : List (gY)} {bU : List ByteArray} {aC : List (nG)} {r1 : ByteArray} {r2 : Bool} {w : World} (lZ : Kd.C qJ w jf dh.length dh) (l7 : dh.length ≤ jg) (l9 : Kd.C Kd.string w iY bU.length bU) (mg : bU.length ≤ iZ) (jJ : Kd.C k28 w gX aC.length aC) (jK : aC.length ≤ eY) (Bl : MaxOk w) (h : kW.f k dh bU aC = some (r1, r2)) :
  Calls Tryz.prog 101 #[.agg #[.slice jf dh.length jg, .slice iY bU.length iZ, .slice gX aC.length eY]] w fun e w' => e = .returned (.tuple #[.string r1, .bool r2]) ∧ Below w.heap.size w w' := by
 have CG := Tryz.underlying28
 have Vu := Tryz.underlying61
 have oO := ak lZ
 have pG := ak l7
 clear lZ l7
 have rE := ak l9
 have uG := ak mg
 clear l9 mg
 have jm := ak jJ
 have lJ := ak jK
 clear jJ jK
 have HG := ak Bl
 clear Bl
 have HB := ak (Below.refl w.heap.size w)
 unfold kW.f at h; have H := h
 clear h
 replace H := bd H
 obtain ⟨⟨aIi, aIj⟩, A2, H⟩ := H
 (try dsimp only at H)
 replace H := bd H
 obtain ⟨⟨azR, azS, auW, aIk⟩, A3, H⟩ := H
 (try dsimp only at H)
 replace H := sb H
 rcases H with ⟨rfl, H⟩ | ⟨rfl, H⟩
 ·
  replace H := bd H
  obtain ⟨⟨aIl, aIm⟩, A5, H⟩ := H
  (try dsimp only at H)
  obtain ⟨rfl, rfl⟩ := s2 H
  go_enter Tryz.func101, Tryz.ntmps101
  go_wp2_with (first | (refine bX HB 1 #[.slice jf dh.length jg, .slice iY bU.length iZ, .slice gX aC.length eY] 28 ?_; intro auX w6 wz auY hb; replace HB := bs HB hb; clear hb; have z7 := jW wz.out) | (refine gB Tryz.func47 (ni.calls (cu (Kd.aW oO.out HB.out)) pG.out A2.out) ?_; intro w8 hb; replace wz := kb wz hb; replace HB := bz HB hb; clear hb) | (refine gV Tryz.func48 (bV.calls ?fG A3.out) ?_; (case fG => first | exact HG.out | exact MaxOk.below HG.out bb | (repeat (first | exact HG.out | apply MaxOk.drewN | apply MaxOk.drew))); rintro azT w9 ⟨ho0, hb⟩; have Fh := ak (Kd.aA ho0 (aj bb)); replace wz := kb wz hb; replace HB := bz HB hb; clear hb; (try clear ho0)) | (refine bY HB 6 #[.string (⟨#[]⟩ : ByteArray), .string (⟨#[]⟩ : ByteArray), .slice none 0 0] 61 ?_; intro auZ w10 Wj au0 hg hb; have LD := AZ wz hg; have LG := A_ wz hg; replace Fh := rb Fh hb; replace wz := kb wz hb; replace HB := bz HB hb; clear hb hg; have ate := LG.out; have atf := LD.out; have z12 := jW Wj.out; obtain ⟨NH, CO, OL⟩ := Kd.aN Fh.out; subst OL) | (refine gB Tryz.func49 (jk.calls ?fG ((Kd.au Fh.out).2.1) A5.out) ?_; (case fG => refine (Kd.au (e := 69) (base := w.heap.size) (ok := fun k_ => True) (n := auW.length) (c := CO) ?_).2.2; exact (rh Fh)); intro Q8 hb; replace Fh := rg Fh hb; replace wz := kp wz #[.slice jf dh.length jg, .slice iY bU.length iZ, .slice gX aC.length eY] hb; replace Wj := kp Wj #[.string azR, .string azS, .slice NH auW.length CO] hb; replace HB := bz HB hb; clear hb))
  go_ret2
  exact ⟨er, bb⟩
 ·
  obtain ⟨rfl, rfl⟩ := s2 H
  go_enter Tryz.func101, Tryz.ntmps101
  go_wp2_with (first | (refine bX HB 1 #[.slice jf dh.length jg, .slice iY bU.length iZ, .slice gX aC.length eY] 28 ?_; intro auX w15 wz auY hb; replace HB := bs HB hb; clear hb; have z16 := jW wz.out) | (refine gB Tryz.func47 (ni.calls (cu (Kd.aW oO.out HB.out)) pG.out A2.out) ?_; intro w17 hb; replace wz := kb wz hb; replace HB := bz HB hb; clear hb) | (refine gV Tryz.func48 (bV.calls ?fG A3.out) ?_; (case fG => first | exact HG.out | exact MaxOk.below HG.out bb | (repeat (first | exact HG.out | apply MaxOk.drewN | apply MaxOk.drew))); rintro azT w18 ⟨ho0, hb⟩; have Fh := ak (Kd.aA ho0 (aj bb)); replace wz := kb wz hb; replace HB := bz HB hb; clear hb; (try clear ho0)) | (refine bY HB 6 #[.string (⟨#[]⟩ : ByteArray), .string (⟨#[]⟩ : ByteArray), .slice none 0 0] 61 ?_; intro auZ Xq Wj au0 hg hb; have LD := AZ wz hg; have LG := A_ wz hg; replace Fh := rb Fh hb; replace wz := kb wz hb; replace HB := bz HB hb; clear hb hg; have asf := LG.out; have asg := LD.out; have z21 := jW Wj.out; obtain ⟨aIn, aIo, azU⟩ := Kd.aN Fh.out; subst azU))
  go_ret2
  exact ⟨er, bb⟩
def pX.f (k : Nat) (a0 : ByteArray) : Option (Bool) := (bC.f k a0).bind fun au1 => (some (!au1))
theorem pX.calls {k : Nat} {a0 : ByteArray} {r : Bool} {w : World} (h : pX.f k a0 = some r) :
  Calls Tryz.prog 149 #[.string a0] w fun e w' => e = .returned (.bool r) ∧ dS w w' := by
 unfold pX.f at h; have H := h
 clear h
 replace H := bd H; obtain ⟨au1, A2, H⟩ := H
 obtain rfl := s1 H
 go_enter Tryz.func149, Tryz.ntmps149
 go_wp2_with (refine gA Tryz.func89 (bC.calls A2.out) ?_; intro nd)
 go_ret
 exact ⟨rs, dn⟩
def aT.l0 : Nat → List ByteArray → Int → Int → Option (Int)
 | 0, _, _, _ => none
 | k + 1, x0, x7, x8 => if x8 < x7 then (if 0 ≤ x8 then (if x8 < (x0.length : Int) then ((pX.f k (o8 ByteArray.empty x0 x8)).bind fun au2 => (if au2 = true then (some x8) else (aT.l0 k x0 x7 (wrap64 (x8 + 1))))) else (none)) else (none)) else (some (-1))
def aT.f (k : Nat) (l0 : List ByteArray)  : Option (Int) := aT.l0 k l0 (l0.length : Int) 0
theorem aT.calls {k c0 : Nat} {A0 : Option Addr} {l0 : List ByteArray} {r : Int} {w : World} (hr0 : Kd.C Kd.string w A0 l0.length l0) (hc0 : l0.length ≤ c0) (h : aT.f k l0 = some r) :
  Calls Tryz.prog 173 #[.slice A0 l0.length c0, .func (.func 149) #[] #[]] w fun e w' => e = .returned (.int .i64 r) ∧ dS w w' := by
 have HR0 := ak hr0
 have xq := ak hc0
 clear hr0 hc0
 unfold aT.f at h; have H := h
 clear h
 have H' := ak H; clear H
 go_enter Tryz.func173, Tryz.ntmps173
 go_wp2
 go_loopg [8] k (fun kq v8 w' => ∃ (kY : Int), v8 = .int .i64 kY ∧ ah (aT.l0 kq l0 (l0.length : Int) kY = some r) ∧ ah (kq ≤ k) ∧ dS w w')
 case atStart => exact ⟨_, rs, H', ⟨Nat.le_refl _⟩, dn⟩
 case round =>
  clear H'
  obtain ⟨kY, rfl, HA, xu, ⟨m1, rfl⟩⟩ := hrel
  cases gk with
  | zero => exact zz HA.out
  | succ k1 =>
   obtain ⟨H⟩ := HA
   simp only [aT.l0] at H
   replace H := sd H
   rcases H with ⟨iQ, H⟩ | ⟨iQ, H⟩
   ·
    replace H := oM H; obtain ⟨rX, H⟩ := H; replace H := oM H; obtain ⟨nR, H⟩ := H; replace H := bd H; obtain ⟨au2, A6, H⟩ := H; replace H := sb H
    rcases H with ⟨rfl, H⟩ | ⟨rfl, H⟩
    ·
     obtain rfl := s1 H
     have X0 := zi kY
     have X3 := zj kY l0.length
     obtain ⟨au3, e291, ahP⟩ := Kd.kF HR0.out kY X0 X3
     cases e291
     replace X0 := eq_true X0
     replace X3 := eq_true X3
     go_wp2_with (go_at_call 149; refine mA (pX.calls A6.out) ?_; intro nd)
     go_ret
     exact ⟨rs, dn⟩
    ·
     have H' := ak H; clear H
     have X0 := zi kY
     have X3 := zj kY l0.length
     obtain ⟨au3, e291, ahP⟩ := Kd.kF HR0.out kY X0 X3
     cases e291
     replace X0 := eq_true X0
     replace X3 := eq_true X3
     go_wp2_with (go_at_call 149; refine mA (pX.calls A6.out) ?_; intro nd)
     go_roundg k1
     case measure => exact kl
     case rel => exact ⟨_, rs, H', ⟨kl⟩, dn⟩
   ·
    obtain rfl := s1 H
    go_wp2
    go_ret
    exact ⟨rs, dn⟩
def fK.f (k : Nat) (l0 : List ByteArray)  : Option (Bool) := (aT.f k l0).bind fun au4 => (some (decide (au4 ≥ 0)))
theorem fK.calls {k c0 : Nat} {A0 : Option Addr} {l0 : List ByteArray} {r : Bool} {w : World} (hr0 : Kd.C Kd.string w A0 l0.length l0) (hc0 : l0.length ≤ c0) (h : fK.f k l0 = some r) :
  Calls Tryz.prog 148 #[.slice A0 l0.length c0, .func (.func 149) #[] #[]] w fun e w' => e = .returned (.bool r) ∧ dS w w' := by
 have HR0 := ak hr0
 have xq := ak hc0
 clear hr0 hc0
 unfold fK.f at h; have H := h
 clear h
 replace H := bd H; obtain ⟨au4, A3, H⟩ := H
 obtain rfl := s1 H
 go_enter Tryz.func148, Tryz.ntmps148
 go_wp2_with (refine gA Tryz.func173 (aT.calls (cu HR0.out) xq.out A3.out) ?_; intro nd)
 go_ret
 exact ⟨rs, dn⟩
def qC.f (k : Nat) (l0 : List ByteArray) (a1 : Int) : Option (Bool) := if (l0.length : Int) ≤ a1 then ((fK.f k l0).bind fun au5 => (some (!au5))) else (some false)
theorem qC.calls {k c0 : Nat} {A0 : Option Addr} {l0 : List ByteArray} {a1 : Int} {r : Bool} {w : World} (hr0 : Kd.C Kd.string w A0 l0.length l0) (hc0 : l0.length ≤ c0) (h : qC.f k l0 a1 = some r) :
  Calls Tryz.prog 105 #[.slice A0 l0.length c0, .int .i64 a1] w fun e w' => e = .returned (.bool r) ∧ dS w w' := by
 have HR0 := ak hr0
 have xq := ak hc0
 clear hr0 hc0
 unfold qC.f at h; have H := h
 clear h
 replace H := sd H
 rcases H with ⟨iQ, H⟩ | ⟨iQ, H⟩
 ·
  replace H := bd H; obtain ⟨au5, A4, H⟩ := H
  obtain rfl := s1 H
  go_enter Tryz.func105, Tryz.ntmps105
  go_wp2_with (go_at_call 148; refine mA (fK.calls (cu HR0.out) xq.out A4.out) ?_; intro nd)
  go_ret
  exact ⟨rs, dn⟩
 ·
  obtain rfl := s1 H
  go_enter Tryz.func105, Tryz.ntmps105
  go_wp2
  go_ret
  exact ⟨rs, dn⟩
def dG.l0 : Nat → List ByteArray → ByteArray → Int → Int → Option (Int)
 | 0, _, _, _, _ => none
 | k + 1, x0, x1, x7, x8 => if x8 < x7 then (if 0 ≤ x8 then (if x8 < (x0.length : Int) then (if x1.toList = (o8 ByteArray.empty x0 x8).toList then (some x8) else (dG.l0 k x0 x1 x7 (wrap64 (x8 + 1)))) else (none)) else (none)) else (some (-1))
def dG.f (k : Nat) (l0 : List ByteArray) (a1 : ByteArray) : Option (Int) := dG.l0 k l0 a1 (l0.length : Int) 0
theorem dG.calls {k c0 : Nat} {A0 : Option Addr} {l0 : List ByteArray} {a1 : ByteArray} {r : Int} {w : World} (hr0 : Kd.C Kd.string w A0 l0.length l0) (hc0 : l0.length ≤ c0) (h : dG.f k l0 a1 = some r) :
  Calls Tryz.prog 99 #[.slice A0 l0.length c0, .string a1] w fun e w' => e = .returned (.int .i64 r) ∧ dS w w' := by
 have HR0 := ak hr0
 have xq := ak hc0
 clear hr0 hc0
 unfold dG.f at h; have H := h
 clear h
 have H' := ak H; clear H
 go_enter Tryz.func99, Tryz.ntmps99
 go_wp2
 go_loopg [8] k (fun kq v8 w' => ∃ (kY : Int), v8 = .int .i64 kY ∧ ah (dG.l0 kq l0 a1 (l0.length : Int) kY = some r) ∧ ah (kq ≤ k) ∧ dS w w')
 case atStart => exact ⟨_, rs, H', ⟨Nat.le_refl _⟩, dn⟩
 case round =>
  clear H'
  obtain ⟨kY, rfl, HA, xu, ⟨m1, rfl⟩⟩ := hrel
  cases gk with
  | zero => exact zz HA.out
  | succ k1 =>
   obtain ⟨H⟩ := HA
   simp only [dG.l0] at H
   replace H := sd H
   rcases H with ⟨iQ, H⟩ | ⟨iQ, H⟩
   ·
    replace H := oM H; obtain ⟨rX, H⟩ := H; replace H := oM H; obtain ⟨nR, H⟩ := H; replace H := sq H
    rcases H with ⟨nT, wF, H⟩ | ⟨c6, nT, wF, H⟩
    ·
     obtain rfl := s1 H
     have X4 := zi kY
     have X5 := zj kY l0.length
     obtain ⟨au6, e295, ahQ⟩ := Kd.kF HR0.out kY X4 X5
     cases e295
     replace X4 := eq_true X4
     replace X5 := eq_true X5
     go_wp2
     go_ret
     exact ⟨rs, dn⟩
    ·
     have H' := ak H; clear H
     have X4 := zi kY
     have X5 := zj kY l0.length
     obtain ⟨au6, e295, ahQ⟩ := Kd.kF HR0.out kY X4 X5
     cases e295
     replace X4 := eq_true X4
     replace X5 := eq_true X5
     go_wp2
     go_roundg k1
     case measure => exact kl
     case rel => exact ⟨_, rs, H', ⟨kl⟩, dn⟩
   ·
    obtain rfl := s1 H
    go_wp2
    go_ret
    exact ⟨rs, dn⟩
def fJ.f (k : Nat) (l0 : List ByteArray) (a1 : ByteArray) : Option (Bool) := (dG.f k l0 a1).bind fun au7 => (some (decide (au7 ≥ 0)))
theorem fJ.calls {k c0 : Nat} {A0 : Option Addr} {l0 : List ByteArray} {a1 : ByteArray} {r : Bool} {w : World} (hr0 : Kd.C Kd.string w A0 l0.length l0) (hc0 : l0.length ≤ c0) (h : fJ.f k l0 a1 = some r) :
  Calls Tryz.prog 175 #[.slice A0 l0.length c0, .string a1] w fun e w' => e = .returned (.bool r) ∧ dS w w' := by
 have HR0 := ak hr0
 have xq := ak hc0
 clear hr0 hc0
 unfold fJ.f at h; have H := h
 clear h
 replace H := bd H; obtain ⟨au7, A3, H⟩ := H
 obtain rfl := s1 H
 go_enter Tryz.func175, Tryz.ntmps175
 go_wp2_with (refine gA Tryz.func99 (dG.calls (cu HR0.out) xq.out A3.out) ?_; intro nd)
 go_ret
 exact ⟨rs, dn⟩
def tY.f (k : Nat) (l0 : List ByteArray) (a1 : ByteArray) : Option (Bool) := if 2 + a1.size ≤ 9223372036854775807 then ((fJ.f k l0 ((⟨#[45, 45]⟩ : ByteArray) ++ a1)).bind fun au8 => (if au8 = true then (some true) else (if ((⟨#[45, 45]⟩ : ByteArray) ++ a1).size + 2 ≤ 9223372036854775807 then ((fJ.f k l0 (((⟨#[45, 45]⟩ : ByteArray) ++ a1) ++ (⟨#[45, 45]⟩ : ByteArray))).bind fun au9 => (some au9)) else (none)))) else (none)
theorem tY.calls {k c0 : Nat} {A0 : Option Addr} {l0 : List ByteArray} {a1 : ByteArray} {r : Bool} {w : World} (hr0 : Kd.C Kd.string w A0 l0.length l0) (hc0 : l0.length ≤ c0) (h : tY.f k l0 a1 = some r) :
  Calls Tryz.prog 152 #[.slice A0 l0.length c0, .string a1] w fun e w' => e = .returned (.bool r) ∧ dS w w' := by
 have HR0 := ak hr0
 have xq := ak hc0
 clear hr0 hc0
 unfold tY.f at h; have H := h
 clear h
 replace H := nn H; obtain ⟨c3, H⟩ := H
 have iQ := eq_true c3
 have zZ := decide_eq_true c3
 try have al0 : (9223372036854775807 < 2 + a1.size) = False := eq_false (Nat.not_lt.2 c3)
 replace H := bd H; obtain ⟨au8, A4, H⟩ := H; replace H := sb H
 rcases H with ⟨rfl, H⟩ | ⟨rfl, H⟩
 ·
  obtain rfl := s1 H
  go_enter Tryz.func152, Tryz.ntmps152
  go_wp2_with (refine gA Tryz.func175 (fJ.calls (cu HR0.out) xq.out A4.out) ?_; intro nd)
  go_ret
  exact ⟨rs, dn⟩
 ·
  replace H := nn H; obtain ⟨c6, H⟩ := H
  have nT := eq_true c6
  have wF := decide_eq_true c6
  try have aIp : (9223372036854775807 < 2 + a1.size + 2) = False := by have h_ := (eq_false (Nat.not_lt.2 c6) : (9223372036854775807 < ((⟨#[45, 45]⟩ : ByteArray) ++ a1).size + 2) = False); simp only [ByteArray.size_append] at h_; exact h_
  try have agm : (9223372036854775807 < ((⟨#[45, 45]⟩ : ByteArray) ++ a1).size + 2) = False := eq_false (Nat.not_lt.2 c6)
  replace H := bd H; obtain ⟨au9, A7, H⟩ := H
  obtain rfl := s1 H
  go_enter Tryz.func152, Tryz.ntmps152
  go_wp2_with (first | (refine gA Tryz.func175 (fJ.calls (cu HR0.out) xq.out A4.out) ?_; intro nd) | (go_at_call 175; refine mA (fJ.calls (cu HR0.out) xq.out A7.out) ?_; intro nd))
  go_ret
  exact ⟨rs, dn⟩
def nN.f (k : Nat) (l0 : List ByteArray) (a1 : ByteArray) : Option (Bool) := (tY.f k l0 a1).bind fun au_ => (some au_)
theorem nN.calls {k c0 gq1 : Nat} {A0 : Option Addr} {l0 : List ByteArray} {a1 : ByteArray} {r : Bool} {w : World} (hr0 : Kd.C Kd.string w A0 l0.length l0) (hc0 : l0.length ≤ c0) (hq1 : w.heap[gq1]? = some (.cells #[.string a1] 9 (0, 0))) (h : nN.f k l0 a1 = some r) :
  Calls Tryz.prog 151 #[.slice A0 l0.length c0, .pointer (some ⟨gq1, 0, none⟩)] w fun e w' => e = .returned (.bool r) ∧ Below w.heap.size w w' := by
 have HR0 := ak hr0
 have xq := ak hc0
 clear hr0 hc0
 have vC := ak hq1
 clear hq1
 have HB := ak (Below.refl w.heap.size w)
 unfold nN.f at h; have H := h
 clear h
 replace H := bd H; obtain ⟨au_, A3, H⟩ := H
 obtain rfl := s1 H
 have adJ : w.cell? ⟨gq1, 0, none⟩ = some (.string a1) := (aG vC.out 0).trans rfl
 have azV := iq vC.out 0
 go_enter Tryz.func151, Tryz.ntmps151
 go_wp2_with (refine gA Tryz.func152 (tY.calls (cu HR0.out) xq.out A3.out) ?_; intro nd)
 go_ret
 exact ⟨er, bb⟩
def aV.l0 : Nat → List (List ByteArray) → Int → Int → ByteArray → Option (Int)
 | 0, _, _, _, _ => none
 | k + 1, x0, x7, x8, PX => if x8 < x7 then (if 0 ≤ x8 then (if x8 < (x0.length : Int) then ((nN.f k (xX x0 x8) PX).bind fun ava => (if ava = true then (some x8) else (aV.l0 k x0 x7 (wrap64 (x8 + 1)) PX))) else (none)) else (none)) else (some (-1))
def aV.f (k : Nat) (l0 : List (List ByteArray)) (EG : ByteArray) : Option (Int) := aV.l0 k l0 (l0.length : Int) 0 EG
theorem aV.calls {k c0 He : Nat} {A0 : Option Addr} {l0 : List (List ByteArray)} {EG : ByteArray} {r : Int} {w : World} (hr0 : Kd.C (Kd.slice 9 Kd.string) w A0 l0.length l0) (hc0 : l0.length ≤ c0) (Nc : w.heap[He]? = some (.cells #[.string EG] 9 (0, 0))) (h : aV.f k l0 EG = some r) :
  Calls Tryz.prog 174 #[.slice A0 l0.length c0, .func (.func 151) #[] #[.pointer (some ⟨He, 0, none⟩)]] w fun e w' => e = .returned (.int .i64 r) ∧ Below w.heap.size w w' := by
 have HR0 := ak hr0
 have xq := ak hc0
 clear hr0 hc0
 have vC := ak Nc
 clear Nc
 have HB := ak (Below.refl w.heap.size w)
 unfold aV.f at h; have H := h
 clear h
 have H' := ak H; clear H
 go_enter Tryz.func174, Tryz.ntmps174
 go_wp2
 go_loopg [8] k (fun kq v8 w' => ∃ (kY : Int), v8 = .int .i64 kY ∧ ah (aV.l0 kq l0 (l0.length : Int) kY EG = some r) ∧ ah (kq ≤ k) ∧ ah (w'.heap[He]? = some (.cells #[.string EG] 9 (0, 0))) ∧ ah (Below w.heap.size w w'))
 case atStart => exact ⟨_, rs, H', ⟨Nat.le_refl _⟩, ⟨ub vC.out⟩, ⟨bb⟩⟩
 case round =>
  clear H'
  obtain ⟨kY, rfl, HA, xu, vC, HB⟩ := hrel
  cases gk with
  | zero => exact zz HA.out
  | succ k1 =>
   obtain ⟨H⟩ := HA
   simp only [aV.l0] at H
   replace H := sd H
   rcases H with ⟨iQ, H⟩ | ⟨iQ, H⟩
   ·
    replace H := oM H; obtain ⟨rX, H⟩ := H; replace H := oM H; obtain ⟨nR, H⟩ := H; replace H := bd H; obtain ⟨ava, A6, H⟩ := H; replace H := sb H
    rcases H with ⟨rfl, H⟩ | ⟨rfl, H⟩
    ·
     obtain rfl := s1 H
     have X6 := zi kY
     have X7 := zj kY l0.length
     obtain ⟨avb, anF, anG, e300, JV, JW, JX⟩ := II HR0.out kY X6 X7
     cases e300
     replace JV := cl HB.out JV
     have Uz := ak JX
     have UA := ak JW
     clear JX JW
     replace X6 := eq_true X6
     replace X7 := eq_true X7
     go_wp2_with (go_at_call 151; refine mB (nN.calls (cu (Kd.aW Uz.out HB.out)) UA.out (ub vC.out) A6.out) ?_; intro w8 hb; replace vC := kb vC hb; replace HB := bz HB hb; clear hb)
     go_ret
     exact ⟨er, bb⟩
    ·
     have H' := ak H; clear H
     have X6 := zi kY
     have X7 := zj kY l0.length
     obtain ⟨avb, anF, anG, e300, JV, JW, JX⟩ := II HR0.out kY X6 X7
     cases e300
     replace JV := cl HB.out JV
     have Uz := ak JX
     have UA := ak JW
     clear JX JW
     replace X6 := eq_true X6
     replace X7 := eq_true X7
     go_wp2_with (go_at_call 151; refine mB (nN.calls (cu (Kd.aW Uz.out HB.out)) UA.out (ub vC.out) A6.out) ?_; intro w9 hb; replace vC := kb vC hb; replace HB := bz HB hb; clear hb)
     go_roundg k1
     case measure => exact kl
     case rel => exact ⟨_, rs, H', ⟨kl⟩, ⟨ub vC.out⟩, ⟨bb⟩⟩
   ·
    obtain rfl := s1 H
    go_wp2
    go_ret
    exact ⟨er, bb⟩
def dP.f (k : Nat) (l0 : List (List ByteArray)) (EG : ByteArray) : Option (Bool) := (aV.f k l0 EG).bind fun avc => (some (decide (avc ≥ 0)))
theorem dP.calls {k c0 He : Nat} {A0 : Option Addr} {l0 : List (List ByteArray)} {EG : ByteArray} {r : Bool} {w : World} (hr0 : Kd.C (Kd.slice 9 Kd.string) w A0 l0.length l0) (hc0 : l0.length ≤ c0) (Nc : w.heap[He]? = some (.cells #[.string EG] 9 (0, 0))) (h : dP.f k l0 EG = some r) :
  Calls Tryz.prog 150 #[.slice A0 l0.length c0, .func (.func 151) #[] #[.pointer (some ⟨He, 0, none⟩)]] w fun e w' => e = .returned (.bool r) ∧ Below w.heap.size w w' := by
 have HR0 := ak hr0
 have xq := ak hc0
 clear hr0 hc0
 have vC := ak Nc
 clear Nc
 have HB := ak (Below.refl w.heap.size w)
 unfold dP.f at h; have H := h
 clear h
 replace H := bd H; obtain ⟨avc, A3, H⟩ := H
 obtain rfl := s1 H
 go_enter Tryz.func150, Tryz.ntmps150
 go_wp2_with (refine gB Tryz.func174 (aV.calls (cu HR0.out) xq.out (ub vC.out) A3.out) ?_; intro w4 hb; replace vC := kb vC hb; replace HB := bz HB hb; clear hb)
 go_ret
 exact ⟨er, bb⟩
end Go.Proofs.YtncdadcmghglkaaGreatDoor.PFnCountParts
