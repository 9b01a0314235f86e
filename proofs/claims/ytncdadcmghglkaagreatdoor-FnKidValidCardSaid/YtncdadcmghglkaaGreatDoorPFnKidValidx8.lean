/- Printed walks; conditions: those in each statement. -/
import Derived.Test.YtncdadcmghglkaaGreatDoorVFnKidValidQt
import Derived.Test.YtncdadcmghglkaaGreatDoorVFnKidValidYt
import Derived.Test.YtncdadcmghglkaaGreatDoorPFnKidValidx0
import Derived.Test.YtncdadcmghglkaaGreatDoorPFnKidValidx1
import Derived.Test.YtncdadcmghglkaaGreatDoorPFnKidValidx3
import Derived.Test.YtncdadcmghglkaaGreatDoorPFnKidValidx5
import Derived.Test.YtncdadcmghglkaaGreatDoorPFnKidValidx7
-- short
-- dense
-- sq
-- sq2
namespace Go.Proofs.YtncdadcmghglkaaGreatDoor.PFnKidValid
open Go.RowKit Go.Proofs.YtncdadcmghglkaaGreatDoor.X Go.Proofs.YtncdadcmghglkaaGreatDoorW.bI Go.Proofs.YtncdadcmghglkaaGreatDoorW.gq Go.Proofs.YtncdadcmghglkaaGreatDoorW.iJ
attribute [local go_sem] kJ kK mD mF jv jw kL kM   -- for this text's walks alone
set_option linter.unusedVariables false
set_option maxHeartbeats 8000000
set_option maxRecDepth 100000
set_option linter.unusedSimpArgs false
def je.j0 : Nat → Bool → ByteArray → ByteArray → List (gU) → Option (ByteArray × Bool)
 | 0, _, _, _, _ => none
 | k + 1, MC, ax5, ax6, aiM => if MC = true then (some ((⟨#[]⟩ : ByteArray), false)) else ((ni.f k aiM (⟨#[98, 111, 117, 110, 100, 97, 114, 121]⟩ : ByteArray)).bind fun al6 => ((jY.f k al6.1).bind fun awf => (if awf = true then (some (al6.1, true)) else (some ((⟨#[]⟩ : ByteArray), false)))))
def je.f (k : Nat) (eG : ByteArray) (eU : ByteArray) (ay : List (gU)) : Option (ByteArray × Bool) := (bM.f k eG eU ay).bind fun awg => (if awg = true then (je.j0 k (eG.toList != ([109, 117, 108, 116, 105, 112, 97, 114, 116] : List UInt8)) eG eU ay) else (je.j0 k true eG eU ay))
theorem je.calls {k fA : Nat} {eG eU r1 : ByteArray} {gW : Option Addr} {ay : List (gU)} {r2 : Bool} {w : World} (jG : Kd.C qj w gW ay.length ay) (jH : ay.length ≤ fA) (h : je.f k eG eU ay = some (r1, r2)) :
  Calls Tryz.prog 49 #[.agg #[.string eG, .string eU, .slice gW ay.length fA]] w fun e w' => e = .returned (.tuple #[.string r1, .bool r2]) ∧ Below w.heap.size w w' := by
 have Wj := Tryz.underlying61
 have jh := ak jG
 have lC := ak jH
 clear jG jH
 have HB := ak (Below.refl w.heap.size w)
 unfold je.f at h; have H := h
 clear h
 have HC2 := ak H
 clear H
 go_enter Tryz.func49, Tryz.ntmps49
 go_upto_region 1 with (refine bX HB 1 #[.string eG, .string eU, .slice gW ay.length fA] 61 ?_; intro awh w3 zX aEk hb; replace HB := bs HB hb; clear hb)
 (try simp only [Act.put, qQ, qR, l_c])
 go_cut [13] (fun v13 wc => ∃ (kq : Nat) (sV : Bool), v13 = .bool sV ∧ ah (je.j0 kq sV eG eU ay = some (r1, r2)) ∧ ah (kq ≤ k) ∧ ah (wc.heap[awh]? = some (.cells #[.string eG, .string eU, (.slice gW ay.length fA)] 61 (0, 0))) ∧ ah (Below w.heap.size w wc))
 case first =>
  have H := HC2.out
  clear HC2
  replace H := bd H; obtain ⟨awg, A4, H⟩ := H; replace H := sb H
  rcases H with ⟨rfl, H⟩ | ⟨rfl, H⟩
  ·
   have H' := ak H; clear H
   have z6 := jW zX.out
   go_wp2_with (refine gB Tryz.func95 (bM.calls (cu (Kd.aN jh.out HB.out)) lC.out A4.out) ?_; intro w7 hb; replace zX := kb zX hb; replace HB := bz HB hb; clear hb; have z8 := jW zX.out)
   go_meet
   case rel => exact ⟨_, _, rs, H', ⟨Jq⟩, ⟨ub zX.out⟩, ⟨bb⟩⟩
  ·
   have H' := ak H; clear H
   have z9 := jW zX.out
   go_wp2_with (refine gB Tryz.func95 (bM.calls (cu (Kd.aN jh.out HB.out)) lC.out A4.out) ?_; intro w10 hb; replace zX := kb zX hb; replace HB := bz HB hb; clear hb)
   go_meet
   case rel => exact ⟨_, _, rs, H', ⟨Jq⟩, ⟨ub zX.out⟩, ⟨bb⟩⟩
 case rest =>
  clear HC2
  obtain ⟨kq, sV, rfl, HA, HJ1, zX, HB⟩ := hcut
  cases kq with
  | zero => exact zz HA.out
  | succ Ox =>
   obtain ⟨H⟩ := HA
   simp only [je.j0] at H
   replace H := sb H
   rcases H with ⟨rfl, H⟩ | ⟨rfl, H⟩
   ·
    obtain ⟨rfl, rfl⟩ := s2 H
    go_wp2
    go_ret2
    exact ⟨er, bb⟩
   ·
    replace H := bd H
    obtain ⟨⟨aJM, aJN⟩, A12, H⟩ := H
    (try dsimp only at H)
    replace H := bd H; obtain ⟨awf, A13, H⟩ := H; replace H := sb H
    rcases H with ⟨rfl, H⟩ | ⟨rfl, H⟩
    ·
     obtain ⟨rfl, rfl⟩ := s2 H
     have z15 := jW zX.out
     go_wp2_with (first | (refine gB Tryz.func47 (ni.calls (cu (Kd.aN jh.out HB.out)) lC.out A12.out) ?_; intro w16 hb; replace zX := kb zX hb; replace HB := bz HB hb; clear hb) | (refine gA Tryz.func96 (jY.calls A13.out) ?_; intro nd))
     go_ret2
     exact ⟨er, bb⟩
    ·
     obtain ⟨rfl, rfl⟩ := s2 H
     have z17 := jW zX.out
     go_wp2_with (first | (refine gB Tryz.func47 (ni.calls (cu (Kd.aN jh.out HB.out)) lC.out A12.out) ?_; intro w18 hb; replace zX := kb zX hb; replace HB := bz HB hb; clear hb) | (refine gA Tryz.func96 (jY.calls A13.out) ?_; intro nd))
     go_ret2
     exact ⟨er, bb⟩
def kS.f (k : Nat) (dh : List (gU)) (bU : List ByteArray) (ay : List (mY)) : Option (ByteArray × Bool) := (ni.f k dh (⟨#[67, 111, 110, 116, 101, 110, 116, 45, 84, 121, 112, 101]⟩ : ByteArray)).bind fun awi => ((bV.f k awi.1).bind fun abC => (if abC.2.2.2 = true then ((je.f k abC.1 abC.2.1 abC.2.2.1).bind fun al7 => (some (al7.1, al7.2))) else (some ((⟨#[]⟩ : ByteArray), false))))
theorem kS.calls {k iZ iV fA : Nat} {iY iU gW : Option Addr} {dh : List (gU)} {bU : List ByteArray} {ay : List (mY)} {r1 : ByteArray} {r2 : Bool} {w : World} (lW : Kd.C qj w iY dh.length dh) (lX : dh.length ≤ iZ) (lY : Kd.C Kd.string w iU bU.length bU) (lZ : bU.length ≤ iV) (jG : Kd.C k28 w gW ay.length ay) (jH : ay.length ≤ fA) (BX : MaxOk w) (h : kS.f k dh bU ay = some (r1, r2)) :
  Calls Tryz.prog 101 #[.agg #[.slice iY dh.length iZ, .slice iU bU.length iV, .slice gW ay.length fA]] w fun e w' => e = .returned (.tuple #[.string r1, .bool r2]) ∧ Below w.heap.size w w' := by
 have Dj := Tryz.underlying28
 have Wj := Tryz.underlying61
 have oP := ak lW
 have pI := ak lX
 clear lW lX
 have rE := ak lY
 have uG := ak lZ
 clear lY lZ
 have jh := ak jG
 have lC := ak jH
 clear jG jH
 have HG := ak BX
 clear BX
 have HB := ak (Below.refl w.heap.size w)
 unfold kS.f at h; have H := h
 clear h
 replace H := bd H
 obtain ⟨⟨aJO, aJP⟩, A2, H⟩ := H
 (try dsimp only at H)
 replace H := bd H
 obtain ⟨⟨aBi, aBj, awj, aJQ⟩, A3, H⟩ := H
 (try dsimp only at H)
 replace H := sb H
 rcases H with ⟨rfl, H⟩ | ⟨rfl, H⟩
 ·
  replace H := bd H
  obtain ⟨⟨aJR, aJS⟩, A5, H⟩ := H
  (try dsimp only at H)
  obtain ⟨rfl, rfl⟩ := s2 H
  go_enter Tryz.func101, Tryz.ntmps101
  go_wp2_with (first | (refine bX HB 1 #[.slice iY dh.length iZ, .slice iU bU.length iV, .slice gW ay.length fA] 28 ?_; intro awk w6 wK awl hb; replace HB := bs HB hb; clear hb; have z7 := jW wK.out) | (refine gB Tryz.func47 (ni.calls (cu (Kd.aN oP.out HB.out)) pI.out A2.out) ?_; intro w8 hb; replace wK := kb wK hb; replace HB := bz HB hb; clear hb) | (refine gV Tryz.func48 (bV.calls ?fU A3.out) ?_; (case fU => first | exact HG.out | exact MaxOk.below HG.out bb | (repeat (first | exact HG.out | apply MaxOk.drewN | apply MaxOk.drew))); rintro aBk w9 ⟨ho0, hb⟩; have Gf := ak (Kd.aC ho0 (aj bb)); replace wK := kb wK hb; replace HB := bz HB hb; clear hb; (try clear ho0)) | (refine bY HB 6 #[.string (⟨#[]⟩ : ByteArray), .string (⟨#[]⟩ : ByteArray), .slice none 0 0] 61 ?_; intro awm w10 Xm awn hg hb; have MQ := BL wK hg; have MR := BM wK hg; replace Gf := rb Gf hb; replace wK := kb wK hb; replace HB := bz HB hb; clear hb hg; have auD := MR.out; have auE := MQ.out; have z12 := jW Xm.out; obtain ⟨XU, Jk, Ud⟩ := Kd.aV Gf.out; subst Ud) | (refine gB Tryz.func49 (je.calls ?fU ((Kd.aH Gf.out).2.1) A5.out) ?_; (case fU => refine (Kd.aH (e := 69) (base := w.heap.size) (ok := fun k_ => True) (n := awj.length) (c := Jk) ?_).2.2; exact (rh Gf)); intro SA hb; replace Gf := rg Gf hb; replace wK := kp wK #[.slice iY dh.length iZ, .slice iU bU.length iV, .slice gW ay.length fA] hb; replace Xm := kp Xm #[.string aBi, .string aBj, .slice XU awj.length Jk] hb; replace HB := bz HB hb; clear hb))
  go_ret2
  exact ⟨er, bb⟩
 ·
  obtain ⟨rfl, rfl⟩ := s2 H
  go_enter Tryz.func101, Tryz.ntmps101
  go_wp2_with (first | (refine bX HB 1 #[.slice iY dh.length iZ, .slice iU bU.length iV, .slice gW ay.length fA] 28 ?_; intro awk w15 wK awl hb; replace HB := bs HB hb; clear hb; have z16 := jW wK.out) | (refine gB Tryz.func47 (ni.calls (cu (Kd.aN oP.out HB.out)) pI.out A2.out) ?_; intro w17 hb; replace wK := kb wK hb; replace HB := bz HB hb; clear hb) | (refine gV Tryz.func48 (bV.calls ?fU A3.out) ?_; (case fU => first | exact HG.out | exact MaxOk.below HG.out bb | (repeat (first | exact HG.out | apply MaxOk.drewN | apply MaxOk.drew))); rintro aBk w18 ⟨ho0, hb⟩; have Gf := ak (Kd.aC ho0 (aj bb)); replace wK := kb wK hb; replace HB := bz HB hb; clear hb; (try clear ho0)) | (refine bY HB 6 #[.string (⟨#[]⟩ : ByteArray), .string (⟨#[]⟩ : ByteArray), .slice none 0 0] 61 ?_; intro awm ZN Xm awn hg hb; have MQ := BL wK hg; have MR := BM wK hg; replace Gf := rb Gf hb; replace wK := kb wK hb; replace HB := bz HB hb; clear hb hg; have atz := MR.out; have atA := MQ.out; have z21 := jW Xm.out; obtain ⟨aJT, aJU, aBl⟩ := Kd.aV Gf.out; subst aBl))
  go_ret2
  exact ⟨er, bb⟩
def pY.f (k : Nat) (a0 : ByteArray) : Option (Bool) := (bD.f k a0).bind fun awo => (some (!awo))
theorem pY.calls {k : Nat} {a0 : ByteArray} {r : Bool} {w : World} (h : pY.f k a0 = some r) :
  Calls Tryz.prog 149 #[.string a0] w fun e w' => e = .returned (.bool r) ∧ dS w w' := by
 unfold pY.f at h; have H := h
 clear h
 replace H := bd H; obtain ⟨awo, A2, H⟩ := H
 obtain rfl := s1 H
 go_enter Tryz.func149, Tryz.ntmps149
 go_wp2_with (refine gA Tryz.func89 (bD.calls A2.out) ?_; intro nd)
 go_ret
 exact ⟨rs, dn⟩
def aT.l0 : Nat → List ByteArray → Int → Int → Option (Int)
 | 0, _, _, _ => none
 | k + 1, x0, x7, x8 => if x8 < x7 then (if 0 ≤ x8 then (if x8 < (x0.length : Int) then ((pY.f k (o9 ByteArray.empty x0 x8)).bind fun awp => (if awp = true then (some x8) else (aT.l0 k x0 x7 (wrap64 (x8 + 1))))) else (none)) else (none)) else (some (-1))
def aT.f (k : Nat) (l0 : List ByteArray)  : Option (Int) := aT.l0 k l0 (l0.length : Int) 0
theorem aT.calls {k c0 : Nat} {A0 : Option Addr} {l0 : List ByteArray} {r : Int} {w : World} (hr0 : Kd.C Kd.string w A0 l0.length l0) (hc0 : l0.length ≤ c0) (h : aT.f k l0 = some r) :
  Calls Tryz.prog 173 #[.slice A0 l0.length c0, .func (.func 149) #[] #[]] w fun e w' => e = .returned (.int .i64 r) ∧ dS w w' := by
 have HR0 := ak hr0
 have yu := ak hc0
 clear hr0 hc0
 unfold aT.f at h; have H := h
 clear h
 have H' := ak H; clear H
 go_enter Tryz.func173, Tryz.ntmps173
 go_wp2
 go_loopg [8] k (fun kq v8 w' => ∃ (kV : Int), v8 = .int .i64 kV ∧ ah (aT.l0 kq l0 (l0.length : Int) kV = some r) ∧ ah (kq ≤ k) ∧ dS w w')
 case atStart => exact ⟨_, rs, H', ⟨Nat.le_refl _⟩, dn⟩
 case round =>
  clear H'
  obtain ⟨kV, rfl, HA, xG, ⟨m1, rfl⟩⟩ := hrel
  cases gk with
  | zero => exact zz HA.out
  | succ k1 =>
   obtain ⟨H⟩ := HA
   simp only [aT.l0] at H
   replace H := sd H
   rcases H with ⟨iO, H⟩ | ⟨iO, H⟩
   ·
    replace H := oL H; obtain ⟨su, H⟩ := H; replace H := oL H; obtain ⟨nO, H⟩ := H; replace H := bd H; obtain ⟨awp, A6, H⟩ := H; replace H := sb H
    rcases H with ⟨rfl, H⟩ | ⟨rfl, H⟩
    ·
     obtain rfl := s1 H
     have YF := zi kV
     have YG := zj kV l0.length
     obtain ⟨awq, e291, aiN⟩ := Kd.jZ HR0.out kV YF YG
     cases e291
     replace YF := eq_true YF
     replace YG := eq_true YG
     go_wp2_with (go_at_call 149; refine mA (pY.calls A6.out) ?_; intro nd)
     go_ret
     exact ⟨rs, dn⟩
    ·
     have H' := ak H; clear H
     have YF := zi kV
     have YG := zj kV l0.length
     obtain ⟨awq, e291, aiN⟩ := Kd.jZ HR0.out kV YF YG
     cases e291
     replace YF := eq_true YF
     replace YG := eq_true YG
     go_wp2_with (go_at_call 149; refine mA (pY.calls A6.out) ?_; intro nd)
     go_roundg k1
     case measure => exact kl
     case rel => exact ⟨_, rs, H', ⟨kl⟩, dn⟩
   ·
    obtain rfl := s1 H
    go_wp2
    go_ret
    exact ⟨rs, dn⟩
def fH.f (k : Nat) (l0 : List ByteArray)  : Option (Bool) := (aT.f k l0).bind fun awr => (some (decide (awr ≥ 0)))
theorem fH.calls {k c0 : Nat} {A0 : Option Addr} {l0 : List ByteArray} {r : Bool} {w : World} (hr0 : Kd.C Kd.string w A0 l0.length l0) (hc0 : l0.length ≤ c0) (h : fH.f k l0 = some r) :
  Calls Tryz.prog 148 #[.slice A0 l0.length c0, .func (.func 149) #[] #[]] w fun e w' => e = .returned (.bool r) ∧ dS w w' := by
 have HR0 := ak hr0
 have yu := ak hc0
 clear hr0 hc0
 unfold fH.f at h; have H := h
 clear h
 replace H := bd H; obtain ⟨awr, A3, H⟩ := H
 obtain rfl := s1 H
 go_enter Tryz.func148, Tryz.ntmps148
 go_wp2_with (refine gA Tryz.func173 (aT.calls (cu HR0.out) yu.out A3.out) ?_; intro nd)
 go_ret
 exact ⟨rs, dn⟩
def qB.f (k : Nat) (l0 : List ByteArray) (a1 : Int) : Option (Bool) := if (l0.length : Int) ≤ a1 then ((fH.f k l0).bind fun awt => (some (!awt))) else (some false)
theorem qB.calls {k c0 : Nat} {A0 : Option Addr} {l0 : List ByteArray} {a1 : Int} {r : Bool} {w : World} (hr0 : Kd.C Kd.string w A0 l0.length l0) (hc0 : l0.length ≤ c0) (h : qB.f k l0 a1 = some r) :
  Calls Tryz.prog 105 #[.slice A0 l0.length c0, .int .i64 a1] w fun e w' => e = .returned (.bool r) ∧ dS w w' := by
 have HR0 := ak hr0
 have yu := ak hc0
 clear hr0 hc0
 unfold qB.f at h; have H := h
 clear h
 replace H := sd H
 rcases H with ⟨iO, H⟩ | ⟨iO, H⟩
 ·
  replace H := bd H; obtain ⟨awt, A4, H⟩ := H
  obtain rfl := s1 H
  go_enter Tryz.func105, Tryz.ntmps105
  go_wp2_with (go_at_call 148; refine mA (fH.calls (cu HR0.out) yu.out A4.out) ?_; intro nd)
  go_ret
  exact ⟨rs, dn⟩
 ·
  obtain rfl := s1 H
  go_enter Tryz.func105, Tryz.ntmps105
  go_wp2
  go_ret
  exact ⟨rs, dn⟩
def dG.l0 : Nat → List ByteArray → ByteArray → Int → Int → Option (Int)
 | 0, _, _, _, _ => none
 | k + 1, x0, x1, x7, x8 => if x8 < x7 then (if 0 ≤ x8 then (if x8 < (x0.length : Int) then (if x1.toList = (o9 ByteArray.empty x0 x8).toList then (some x8) else (dG.l0 k x0 x1 x7 (wrap64 (x8 + 1)))) else (none)) else (none)) else (some (-1))
def dG.f (k : Nat) (l0 : List ByteArray) (a1 : ByteArray) : Option (Int) := dG.l0 k l0 a1 (l0.length : Int) 0
theorem dG.calls {k c0 : Nat} {A0 : Option Addr} {l0 : List ByteArray} {a1 : ByteArray} {r : Int} {w : World} (hr0 : Kd.C Kd.string w A0 l0.length l0) (hc0 : l0.length ≤ c0) (h : dG.f k l0 a1 = some r) :
  Calls Tryz.prog 99 #[.slice A0 l0.length c0, .string a1] w fun e w' => e = .returned (.int .i64 r) ∧ dS w w' := by
 have HR0 := ak hr0
 have yu := ak hc0
 clear hr0 hc0
 unfold dG.f at h; have H := h
 clear h
 have H' := ak H; clear H
 go_enter Tryz.func99, Tryz.ntmps99
 go_wp2
 go_loopg [8] k (fun kq v8 w' => ∃ (kV : Int), v8 = .int .i64 kV ∧ ah (dG.l0 kq l0 a1 (l0.length : Int) kV = some r) ∧ ah (kq ≤ k) ∧ dS w w')
 case atStart => exact ⟨_, rs, H', ⟨Nat.le_refl _⟩, dn⟩
 case round =>
  clear H'
  obtain ⟨kV, rfl, HA, xG, ⟨m1, rfl⟩⟩ := hrel
  cases gk with
  | zero => exact zz HA.out
  | succ k1 =>
   obtain ⟨H⟩ := HA
   simp only [dG.l0] at H
   replace H := sd H
   rcases H with ⟨iO, H⟩ | ⟨iO, H⟩
   ·
    replace H := oL H; obtain ⟨su, H⟩ := H; replace H := oL H; obtain ⟨nO, H⟩ := H; replace H := sq H
    rcases H with ⟨oz, xH, H⟩ | ⟨c6, oz, xH, H⟩
    ·
     obtain rfl := s1 H
     have YH := zi kV
     have YI := zj kV l0.length
     obtain ⟨awu, e295, aiO⟩ := Kd.jZ HR0.out kV YH YI
     cases e295
     replace YH := eq_true YH
     replace YI := eq_true YI
     go_wp2
     go_ret
     exact ⟨rs, dn⟩
    ·
     have H' := ak H; clear H
     have YH := zi kV
     have YI := zj kV l0.length
     obtain ⟨awu, e295, aiO⟩ := Kd.jZ HR0.out kV YH YI
     cases e295
     replace YH := eq_true YH
     replace YI := eq_true YI
     go_wp2
     go_roundg k1
     case measure => exact kl
     case rel => exact ⟨_, rs, H', ⟨kl⟩, dn⟩
   ·
    obtain rfl := s1 H
    go_wp2
    go_ret
    exact ⟨rs, dn⟩
def fF.f (k : Nat) (l0 : List ByteArray) (a1 : ByteArray) : Option (Bool) := (dG.f k l0 a1).bind fun awv => (some (decide (awv ≥ 0)))
theorem fF.calls {k c0 : Nat} {A0 : Option Addr} {l0 : List ByteArray} {a1 : ByteArray} {r : Bool} {w : World} (hr0 : Kd.C Kd.string w A0 l0.length l0) (hc0 : l0.length ≤ c0) (h : fF.f k l0 a1 = some r) :
  Calls Tryz.prog 175 #[.slice A0 l0.length c0, .string a1] w fun e w' => e = .returned (.bool r) ∧ dS w w' := by
 have HR0 := ak hr0
 have yu := ak hc0
 clear hr0 hc0
 unfold fF.f at h; have H := h
 clear h
 replace H := bd H; obtain ⟨awv, A3, H⟩ := H
 obtain rfl := s1 H
 go_enter Tryz.func175, Tryz.ntmps175
 go_wp2_with (refine gA Tryz.func99 (dG.calls (cu HR0.out) yu.out A3.out) ?_; intro nd)
 go_ret
 exact ⟨rs, dn⟩
def t_.f (k : Nat) (l0 : List ByteArray) (a1 : ByteArray) : Option (Bool) := if 2 + a1.size ≤ 9223372036854775807 then ((fF.f k l0 ((⟨#[45, 45]⟩ : ByteArray) ++ a1)).bind fun aww => (if aww = true then (some true) else (if ((⟨#[45, 45]⟩ : ByteArray) ++ a1).size + 2 ≤ 9223372036854775807 then ((fF.f k l0 (((⟨#[45, 45]⟩ : ByteArray) ++ a1) ++ (⟨#[45, 45]⟩ : ByteArray))).bind fun awx => (some awx)) else (none)))) else (none)
theorem t_.calls {k c0 : Nat} {A0 : Option Addr} {l0 : List ByteArray} {a1 : ByteArray} {r : Bool} {w : World} (hr0 : Kd.C Kd.string w A0 l0.length l0) (hc0 : l0.length ≤ c0) (h : t_.f k l0 a1 = some r) :
  Calls Tryz.prog 152 #[.slice A0 l0.length c0, .string a1] w fun e w' => e = .returned (.bool r) ∧ dS w w' := by
 have HR0 := ak hr0
 have yu := ak hc0
 clear hr0 hc0
 unfold t_.f at h; have H := h
 clear h
 replace H := nn H; obtain ⟨c3, H⟩ := H
 have iO := eq_true c3
 have Au := decide_eq_true c3
 try have am2 : (9223372036854775807 < 2 + a1.size) = False := eq_false (Nat.not_lt.2 c3)
 replace H := bd H; obtain ⟨aww, A4, H⟩ := H; replace H := sb H
 rcases H with ⟨rfl, H⟩ | ⟨rfl, H⟩
 ·
  obtain rfl := s1 H
  go_enter Tryz.func152, Tryz.ntmps152
  go_wp2_with (refine gA Tryz.func175 (fF.calls (cu HR0.out) yu.out A4.out) ?_; intro nd)
  go_ret
  exact ⟨rs, dn⟩
 ·
  replace H := nn H; obtain ⟨c6, H⟩ := H
  have oz := eq_true c6
  have xH := decide_eq_true c6
  try have aJV : (9223372036854775807 < 2 + a1.size + 2) = False := by have h_ := (eq_false (Nat.not_lt.2 c6) : (9223372036854775807 < ((⟨#[45, 45]⟩ : ByteArray) ++ a1).size + 2) = False); simp only [ByteArray.size_append] at h_; exact h_
  try have ahd : (9223372036854775807 < ((⟨#[45, 45]⟩ : ByteArray) ++ a1).size + 2) = False := eq_false (Nat.not_lt.2 c6)
  replace H := bd H; obtain ⟨awx, A7, H⟩ := H
  obtain rfl := s1 H
  go_enter Tryz.func152, Tryz.ntmps152
  go_wp2_with (first | (refine gA Tryz.func175 (fF.calls (cu HR0.out) yu.out A4.out) ?_; intro nd) | (go_at_call 175; refine mA (fF.calls (cu HR0.out) yu.out A7.out) ?_; intro nd))
  go_ret
  exact ⟨rs, dn⟩
def nM.f (k : Nat) (l0 : List ByteArray) (a1 : ByteArray) : Option (Bool) := (t_.f k l0 a1).bind fun awy => (some awy)
theorem nM.calls {k c0 gq1 : Nat} {A0 : Option Addr} {l0 : List ByteArray} {a1 : ByteArray} {r : Bool} {w : World} (hr0 : Kd.C Kd.string w A0 l0.length l0) (hc0 : l0.length ≤ c0) (hq1 : w.heap[gq1]? = some (.cells #[.string a1] 9 (0, 0))) (h : nM.f k l0 a1 = some r) :
  Calls Tryz.prog 151 #[.slice A0 l0.length c0, .pointer (some ⟨gq1, 0, none⟩)] w fun e w' => e = .returned (.bool r) ∧ Below w.heap.size w w' := by
 have HR0 := ak hr0
 have yu := ak hc0
 clear hr0 hc0
 have vK := ak hq1
 clear hq1
 have HB := ak (Below.refl w.heap.size w)
 unfold nM.f at h; have H := h
 clear h
 replace H := bd H; obtain ⟨awy, A3, H⟩ := H
 obtain rfl := s1 H
 have aei : w.cell? ⟨gq1, 0, none⟩ = some (.string a1) := (aA vK.out 0).trans rfl
 have aBm := gX vK.out 0
 go_enter Tryz.func151, Tryz.ntmps151
 go_wp2_with (refine gA Tryz.func152 (t_.calls (cu HR0.out) yu.out A3.out) ?_; intro nd)
 go_ret
 exact ⟨er, bb⟩
def aW.l0 : Nat → List (List ByteArray) → Int → Int → ByteArray → Option (Int)
 | 0, _, _, _, _ => none
 | k + 1, x0, x7, x8, QJ => if x8 < x7 then (if 0 ≤ x8 then (if x8 < (x0.length : Int) then ((nM.f k (yt x0 x8) QJ).bind fun awz => (if awz = true then (some x8) else (aW.l0 k x0 x7 (wrap64 (x8 + 1)) QJ))) else (none)) else (none)) else (some (-1))
def aW.f (k : Nat) (l0 : List (List ByteArray)) (EX : ByteArray) : Option (Int) := aW.l0 k l0 (l0.length : Int) 0 EX
theorem aW.calls {k c0 Il : Nat} {A0 : Option Addr} {l0 : List (List ByteArray)} {EX : ByteArray} {r : Int} {w : World} (hr0 : Kd.C (Kd.slice 9 Kd.string) w A0 l0.length l0) (hc0 : l0.length ≤ c0) (Ob : w.heap[Il]? = some (.cells #[.string EX] 9 (0, 0))) (h : aW.f k l0 EX = some r) :
  Calls Tryz.prog 174 #[.slice A0 l0.length c0, .func (.func 151) #[] #[.pointer (some ⟨Il, 0, none⟩)]] w fun e w' => e = .returned (.int .i64 r) ∧ Below w.heap.size w w' := by
 have HR0 := ak hr0
 have yu := ak hc0
 clear hr0 hc0
 have vK := ak Ob
 clear Ob
 have HB := ak (Below.refl w.heap.size w)
 unfold aW.f at h; have H := h
 clear h
 have H' := ak H; clear H
 go_enter Tryz.func174, Tryz.ntmps174
 go_wp2
 go_loopg [8] k (fun kq v8 w' => ∃ (kV : Int), v8 = .int .i64 kV ∧ ah (aW.l0 kq l0 (l0.length : Int) kV EX = some r) ∧ ah (kq ≤ k) ∧ ah (w'.heap[Il]? = some (.cells #[.string EX] 9 (0, 0))) ∧ ah (Below w.heap.size w w'))
 case atStart => exact ⟨_, rs, H', ⟨Nat.le_refl _⟩, ⟨ub vK.out⟩, ⟨bb⟩⟩
 case round =>
  clear H'
  obtain ⟨kV, rfl, HA, xG, vK, HB⟩ := hrel
  cases gk with
  | zero => exact zz HA.out
  | succ k1 =>
   obtain ⟨H⟩ := HA
   simp only [aW.l0] at H
   replace H := sd H
   rcases H with ⟨iO, H⟩ | ⟨iO, H⟩
   ·
    replace H := oL H; obtain ⟨su, H⟩ := H; replace H := oL H; obtain ⟨nO, H⟩ := H; replace H := bd H; obtain ⟨awz, A6, H⟩ := H; replace H := sb H
    rcases H with ⟨rfl, H⟩ | ⟨rfl, H⟩
    ·
     obtain rfl := s1 H
     have YJ := zi kV
     have YK := zj kV l0.length
     obtain ⟨awC, aoK, aoL, e300, KL, KN, KO⟩ := Jj HR0.out kV YJ YK
     cases e300
     replace KL := cl HB.out KL
     have Vk := ak KO
     have Vl := ak KN
     clear KO KN
     replace YJ := eq_true YJ
     replace YK := eq_true YK
     go_wp2_with (go_at_call 151; refine mB (nM.calls (cu (Kd.aN Vk.out HB.out)) Vl.out (ub vK.out) A6.out) ?_; intro w8 hb; replace vK := kb vK hb; replace HB := bz HB hb; clear hb)
     go_ret
     exact ⟨er, bb⟩
    ·
     have H' := ak H; clear H
     have YJ := zi kV
     have YK := zj kV l0.length
     obtain ⟨awC, aoK, aoL, e300, KL, KN, KO⟩ := Jj HR0.out kV YJ YK
     cases e300
     replace KL := cl HB.out KL
     have Vk := ak KO
     have Vl := ak KN
     clear KO KN
     replace YJ := eq_true YJ
     replace YK := eq_true YK
     go_wp2_with (go_at_call 151; refine mB (nM.calls (cu (Kd.aN Vk.out HB.out)) Vl.out (ub vK.out) A6.out) ?_; intro w9 hb; replace vK := kb vK hb; replace HB := bz HB hb; clear hb)
     go_roundg k1
     case measure => exact kl
     case rel => exact ⟨_, rs, H', ⟨kl⟩, ⟨ub vK.out⟩, ⟨bb⟩⟩
   ·
    obtain rfl := s1 H
    go_wp2
    go_ret
    exact ⟨er, bb⟩
def dR.f (k : Nat) (l0 : List (List ByteArray)) (EX : ByteArray) : Option (Bool) := (aW.f k l0 EX).bind fun awD => (some (decide (awD ≥ 0)))
theorem dR.calls {k c0 Il : Nat} {A0 : Option Addr} {l0 : List (List ByteArray)} {EX : ByteArray} {r : Bool} {w : World} (hr0 : Kd.C (Kd.slice 9 Kd.string) w A0 l0.length l0) (hc0 : l0.length ≤ c0) (Ob : w.heap[Il]? = some (.cells #[.string EX] 9 (0, 0))) (h : dR.f k l0 EX = some r) :
  Calls Tryz.prog 150 #[.slice A0 l0.length c0, .func (.func 151) #[] #[.pointer (some ⟨Il, 0, none⟩)]] w fun e w' => e = .returned (.bool r) ∧ Below w.heap.size w w' := by
 have HR0 := ak hr0
 have yu := ak hc0
 clear hr0 hc0
 have vK := ak Ob
 clear Ob
 have HB := ak (Below.refl w.heap.size w)
 unfold dR.f at h; have H := h
 clear h
 replace H := bd H; obtain ⟨awD, A3, H⟩ := H
 obtain rfl := s1 H
 go_enter Tryz.func150, Tryz.ntmps150
 go_wp2_with (refine gB Tryz.func174 (aW.calls (cu HR0.out) yu.out (ub vK.out) A3.out) ?_; intro w4 hb; replace vK := kb vK hb; replace HB := bz HB hb; clear hb)
 go_ret
 exact ⟨er, bb⟩
mutual
def fC.j0 : Nat → List (List ByteArray) → Bool → ByteArray → Option (List ByteArray × Bool)
 | 0, _, _, _ => none
 | k + 1, x0, x21, CP => if x21 = true then (some (([] : List ByteArray), false)) else (fC.l0 k (([] : List ByteArray)) x0 (x0.length : Int) 0 CP)
def fC.l0 : Nat → List ByteArray → List (List ByteArray) → Int → Int → ByteArray → Option (List ByteArray × Bool)
 | 0, _, _, _, _, _ => none
 | k + 1, x6, x23, x24, x25, CP => if x25 < x24 then (if 0 ≤ x25 then (if x25 < (x23.length : Int) then (if 2 + CP.size ≤ 9223372036854775807 then (if x6.length < 8796093022208 then ((some (x6 ++ [(⟨#[45, 45]⟩ : ByteArray) ++ CP] : List ByteArray)).bind fun af9 => (if af9.length + (yt x23 x25).length < 8796093022208 then (fC.l0 k (af9 ++ (yt x23 x25)) x23 x24 (wrap64 (x25 + 1)) CP) else (none))) else (none)) else (none)) else (none)) else (none)) else (if 2 + CP.size ≤ 9223372036854775807 then (if ((⟨#[45, 45]⟩ : ByteArray) ++ CP).size + 2 ≤ 9223372036854775807 then (if x6.length < 8796093022208 then (some ((x6 ++ [((⟨#[45, 45]⟩ : ByteArray) ++ CP) ++ (⟨#[45, 45]⟩ : ByteArray)]), true)) else (none)) else (none)) else (none))
end
def fC.f (k : Nat) (l0 : List (List ByteArray)) (a1 : ByteArray) : Option (List ByteArray × Bool) := (jY.f k a1).bind fun awE => (if awE = true then (if (l0.length : Int) = 0 then (fC.j0 k l0 true a1) else ((dR.f k l0 a1).bind fun awF => (fC.j0 k l0 awF a1))) else (fC.j0 k l0 true a1))
theorem fC.calls {k c0 : Nat} {A0 : Option Addr} {l0 : List (List ByteArray)} {a1 : ByteArray} {r1 : List ByteArray} {r2 : Bool} {w : World} (hr0 : Kd.C (Kd.slice 9 Kd.string) w A0 l0.length l0) (hc0 : l0.length ≤ c0) (h : fC.f k l0 a1 = some (r1, r2)) :
  Calls Tryz.prog 106 #[.slice A0 l0.length c0, .string a1] w fun e w' => ∃ ql : Value, e = .returned (.tuple #[ql, .bool r2]) ∧ Kd.R Kd.string 9 w' w.heap.size (fun _ => True) ql r1 ∧ Below w.heap.size w w' := by
 have HR0 := ak hr0
 have yu := ak hc0
 clear hr0 hc0
 have HB := ak (Below.refl w.heap.size w)
 unfold fC.f at h; have H := h
 clear h
 have P9 := ak H
 clear H
 go_enter Tryz.func106, Tryz.ntmps106
 go_upto_region 1 with (refine gG 3 ?_; refine bX HB 3 #[.string a1] 9 ?_; intro yA w4 qH aEl hb; replace HB := bs HB hb; clear hb)
 (try simp only [Act.put, qQ, qR, l_c])
 go_cut [21] (fun v21 wc => ∃ (kq : Nat) (af_ : Bool), v21 = .bool af_ ∧ ah (fC.j0 kq l0 af_ a1 = some (r1, r2)) ∧ ah (kq ≤ k) ∧ ah (wc.heap[yA]? = some (.cells #[.string a1] 9 (0, 0))) ∧ ah (Below w.heap.size w wc))
 case first =>
  have H := P9.out
  clear P9
  replace H := bd H; obtain ⟨awE, A5, H⟩ := H; replace H := sb H
  rcases H with ⟨rfl, H⟩ | ⟨rfl, H⟩
  ·
   replace H := sp H
   rcases H with ⟨c7, H⟩ | ⟨c7, H⟩
   ·
    have sD := beq_iff_eq.mpr c7
    have Mc := bne_eq_false_iff_eq.mpr c7
    clear c7
    (first | rw [sD] | (simp only [dP, fG]; rw [sD]) | skip)
    have H' := ak H; clear H
    have aBn : w4.cell? ⟨yA, 0, none⟩ = some (.string a1) := (aA qH.out 0).trans rfl
    have aBo := gX qH.out 0
    go_wp2_with (refine gA Tryz.func96 (jY.calls A5.out) ?_; intro nd)
    go_meet
    case rel => exact ⟨_, _, rs, H', ⟨Jq⟩, ⟨ub qH.out⟩, ⟨bb⟩⟩
   ·
    have sD := beq_eq_false_iff_ne.mpr c7
    have Mc := bne_iff_ne.mpr c7
    have azz : ¬ (l0 = []) := fun h_ => c7 (by rw [h_]; rfl)
    (first | rw [sD] | (simp only [dP, fG]; rw [sD]) | skip)
    replace H := bd H; obtain ⟨awF, A9, H⟩ := H
    have H' := ak H; clear H
    have ax7 : w4.cell? ⟨yA, 0, none⟩ = some (.string a1) := (aA qH.out 0).trans rfl
    have ax8 := gX qH.out 0
    go_wp2_with (first | (refine gA Tryz.func96 (jY.calls A5.out) ?_; intro nd) | (go_at_call 150; refine mB (dR.calls (cu (Kd.aN HR0.out bb)) yu.out (ub qH.out) A9.out) ?_; intro Ub hb; replace qH := kb qH hb; replace HB := bz HB hb; clear hb))
    go_meet
    case rel => exact ⟨_, _, rs, H', ⟨Jq⟩, ⟨ub qH.out⟩, ⟨bb⟩⟩
  ·
   have H' := ak H; clear H
   have ahU : w4.cell? ⟨yA, 0, none⟩ = some (.string a1) := (aA qH.out 0).trans rfl
   have ax9 := gX qH.out 0
   go_wp2_with (refine gA Tryz.func96 (jY.calls A5.out) ?_; intro nd)
   go_meet
   case rel => exact ⟨_, _, rs, H', ⟨Jq⟩, ⟨ub qH.out⟩, ⟨bb⟩⟩
 case rest =>
  clear P9
  obtain ⟨kq, af_, rfl, HA, HJ2, qH, HB⟩ := hcut
  cases kq with
  | zero => exact zz HA.out
  | succ ZQ =>
   obtain ⟨H⟩ := HA
   simp only [fC.j0] at H
   replace H := sb H
   rcases H with ⟨rfl, H⟩ | ⟨rfl, H⟩
   ·
    obtain ⟨rfl, rfl⟩ := s2 H
    go_wp2
    go_ret2
    exact ⟨_, er, nx, bb⟩
   ·
    obtain ⟨aJW, al8⟩ := nm ([] : List ByteArray)
    rw [← al8.out] at H
    have H' := ak H; clear H
    go_wp2_with (refine gG 22 ?_; refine H7 22 Kd.string 9 al8 ?_; intro aJX SA Ot hb; have awG := ak (Kd.aC (Kd.nN Ot (g := yA) (o := .cells #[.string a1] 9 (0, 0)) (ub qH.out)) (aj bb)); replace qH := kb qH hb; replace HB := bz HB hb; clear hb Ot)
    go_loopg [6, 25] ZQ (fun kq v6 v25 w' => ∃ (qL : List ByteArray) (Oh : Int), v25 = .int .i64 Oh ∧ ah (fC.l0 kq qL l0 (l0.length : Int) Oh a1 = some (r1, r2)) ∧ ah (kq ≤ ZQ) ∧ ah (Kd.R Kd.string 9 w' w.heap.size (fun k_ => k_ ≠ yA) v6 qL) ∧ ah (w'.heap[yA]? = some (.cells #[.string a1] 9 (0, 0))) ∧ ah (Below w.heap.size w w'))
    case atStart => exact ⟨_, _, rs, H', ⟨Nat.le_refl _⟩, ⟨ur (Kd.bn awG.out (fun _ hk => hk.2))⟩, ⟨ub qH.out⟩, ⟨bb⟩⟩
    case round =>
     clear H'
     obtain ⟨qL, Oh, rfl, HA, Zw, oI, qH, HB⟩ := hrel
     cases gk with
     | zero => exact zz HA.out
     | succ k2 =>
      obtain ⟨H⟩ := HA
      simp only [fC.l0] at H
      replace H := sd H
      rcases H with ⟨zW, H⟩ | ⟨zW, H⟩
      ·
       replace H := oL H; obtain ⟨tJ, H⟩ := H; replace H := oL H; obtain ⟨zV, H⟩ := H; replace H := nn H; obtain ⟨c19, H⟩ := H
       have Aw := eq_true c19
       have Ew := decide_eq_true c19
       try have akm : (9223372036854775807 < 2 + a1.size) = False := eq_false (Nat.not_lt.2 c19)
       replace H := nl H; obtain ⟨afT, H⟩ := H
       replace H := ny H
       obtain ⟨af9, awH, H⟩ := H
       replace H := nl H; obtain ⟨V8, H⟩ := H
       obtain ⟨aJY, al9⟩ := nm (af9 ++ (yt l0 Oh))
       rw [← al9.out] at H
       have H' := ak H; clear H
       have aoM := zi Oh
       have aoN := zj Oh l0.length
       obtain ⟨aEm, aBp, aBq, e309, abD, abE, abG⟩ := Jj HR0.out Oh aoM aoN
       cases e309
       replace abD := cl HB.out abD
       have aiP := ak abG
       have ax_ := ak abE
       clear abG abE
       replace aoM := eq_true aoM
       replace aoN := eq_true aoN
       have aya : wr.cell? ⟨yA, 0, none⟩ = some (.string a1) := (aA qH.out 0).trans rfl
       have ayb := gX qH.out 0
       go_wp2_with (first | ((with_reducible refine eu (b := .append) (xs := #[.tmp 29, .tmp 32]) rfl ?_); (try (refine lD (by rfl) ?_; dsimp only)); at_builtin; refine Kd.qc Kd.string (w0 := w) w.heap.size rfl (.tmp 29) (.tmp 32) 23 9 (.string ⟨#[]⟩) 16 rfl Tryz.underlying23 info9 rfl (by decide) (by omega) u6 qL ((⟨#[45, 45]⟩ : ByteArray) ++ a1) [.string ((⟨#[45, 45]⟩ : ByteArray) ++ a1)] (fun k_ => k_ ≠ yA) (fun _ => False) rfl rfl ?aP (fun _ hk => hk.elim) ?aF ?aO ?aB ?aS ?aL ?_; (case aP => exact rfl); (case aB => exact bb); (case aF => exact (fun k_ hk => Kd.yC (g := yA) (o := .cells #[.string a1] 9 (0, 0)) (ub qH.out) k_ hk)); (case aO => exact (ur oI.out)); (case aS => exact (aj bb)); (case aL => have := afT.out; omega); intro aBr w23 ho hb hg hat; rw [← awH.out] at ho; have aga := ak (ho); replace qH := ak (dw (g := yA) (o := .cells #[.string a1] 9 (0, 0)) (ub qH.out) hg (Kd.zD oI.out (fun _ hk => hk))); replace HB := ak (hb); clear ho hb hg hat oI) | ((with_reducible refine eu (b := .append) (xs := #[.tmp 34, .tmp 35]) rfl ?_); (try (refine lD (by rfl) ?_; dsimp only)); at_builtin; refine Kd.qy Kd.string (w0 := w) w.heap.size rfl (.tmp 34) (.tmp 35) 23 9 (.string ⟨#[]⟩) 16 rfl Tryz.underlying23 info9 rfl (by decide) (by omega) aBr af9 (yt l0 Oh) _ _ _ (fun k_ => k_ ≠ yA) (fun _ => False) rfl rfl ?aO ?aR (fun _ _ h => h) (fun _ h => h.elim) ?aF ?aB ?aS ?aL ?_; (case aR => repeat (first | exact (Kd.aN aiP.out HB.out) | (with_reducible refine Kd.jf ?_ _) | (with_reducible refine Kd.jg ?_ _) | (with_reducible refine Kd.kH ?_))); (case aB => exact bb); (case aF => exact (fun k_ hk => Kd.yC (g := yA) (o := .cells #[.string a1] 9 (0, 0)) (ub qH.out) k_ hk)); (case aO => exact (ur aga.out)); (case aS => exact (aj bb)); (case aL => have := V8.out; omega); intro aJZ w24 ho hb hg hat; rw [← al9.out] at ho; have awI := ak (ho); replace qH := ak (dw (g := yA) (o := .cells #[.string a1] 9 (0, 0)) (ub qH.out) hg (Kd.zD aga.out (fun _ hk => hk))); replace HB := ak (hb); clear ho hb hg hat aga))
       go_roundg k2
       case measure => exact kl
       case rel => exact ⟨_, _, rs, H', ⟨kl⟩, ⟨ur awI.out⟩, ⟨ub qH.out⟩, ⟨bb⟩⟩
      ·
       replace H := nn H; obtain ⟨c25, H⟩ := H
       have PU := eq_true c25
       have adQ := decide_eq_true c25
       try have ate : (9223372036854775807 < 2 + a1.size) = False := eq_false (Nat.not_lt.2 c25)
       replace H := nn H; obtain ⟨c26, H⟩ := H
       have NP := eq_true c26
       have ZC := decide_eq_true c26
       try have aEn : (9223372036854775807 < 2 + a1.size + 2) = False := by have h_ := (eq_false (Nat.not_lt.2 c26) : (9223372036854775807 < ((⟨#[45, 45]⟩ : ByteArray) ++ a1).size + 2) = False); simp only [ByteArray.size_append] at h_; exact h_
       try have aEo : (9223372036854775807 < ((⟨#[45, 45]⟩ : ByteArray) ++ a1).size + 2) = False := eq_false (Nat.not_lt.2 c26)
       replace H := nl H; obtain ⟨adM, H⟩ := H
       obtain ⟨aJ0, al_⟩ := nm (qL ++ [((⟨#[45, 45]⟩ : ByteArray) ++ a1) ++ (⟨#[45, 45]⟩ : ByteArray)])
       rw [← al_.out] at H
       obtain ⟨rfl, rfl⟩ := s2 H
       have ayc : wr.cell? ⟨yA, 0, none⟩ = some (.string a1) := (aA qH.out 0).trans rfl
       have ayd := gX qH.out 0
       go_wp2_with ((with_reducible refine eu (b := .append) (xs := #[.tmp 38, .tmp 42]) rfl ?_); (try (refine lD (by rfl) ?_; dsimp only)); at_builtin; refine Kd.qc Kd.string (w0 := w) w.heap.size rfl (.tmp 38) (.tmp 42) 23 9 (.string ⟨#[]⟩) 16 rfl Tryz.underlying23 info9 rfl (by decide) (by omega) u6 qL (((⟨#[45, 45]⟩ : ByteArray) ++ a1) ++ (⟨#[45, 45]⟩ : ByteArray)) [.string (((⟨#[45, 45]⟩ : ByteArray) ++ a1) ++ (⟨#[45, 45]⟩ : ByteArray))] (fun k_ => k_ ≠ yA) (fun _ => False) rfl rfl ?aP (fun _ hk => hk.elim) ?aF ?aO ?aB ?aS ?aL ?_; (case aP => exact rfl); (case aB => exact bb); (case aF => exact (fun k_ hk => Kd.yC (g := yA) (o := .cells #[.string a1] 9 (0, 0)) (ub qH.out) k_ hk)); (case aO => exact (ur oI.out)); (case aS => exact (aj bb)); (case aL => have := adM.out; omega); intro aJ1 w29 ho hb hg hat; rw [← al_.out] at ho; have awJ := ak (ho); replace qH := ak (dw (g := yA) (o := .cells #[.string a1] 9 (0, 0)) (ub qH.out) hg (Kd.zD oI.out (fun _ hk => hk))); replace HB := ak (hb); clear ho hb hg hat oI)
       go_ret2
       exact ⟨_, er, ur (Kd.bn awJ.out (fun _ hk => trivial)), bb⟩
end Go.Proofs.YtncdadcmghglkaaGreatDoor.PFnKidValid
