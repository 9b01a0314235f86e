/- Printed walks; conditions: those in each statement. -/
import Derived.Test.YtncdadcmghglkaaGreatDoorVFnPartValidQt
import Derived.Test.YtncdadcmghglkaaGreatDoorVFnPartValidYt
import Derived.Test.YtncdadcmghglkaaGreatDoorPFnPartValidx0
import Derived.Test.YtncdadcmghglkaaGreatDoorPFnPartValidx2
import Derived.Test.YtncdadcmghglkaaGreatDoorPFnPartValidx3
import Derived.Test.YtncdadcmghglkaaGreatDoorPFnPartValidx30
import Derived.Test.YtncdadcmghglkaaGreatDoorPFnPartValidx14
import Derived.Test.YtncdadcmghglkaaGreatDoorPFnPartValidx17
import Derived.Test.YtncdadcmghglkaaGreatDoorPFnPartValidx20
-- short
-- dense
-- sq
-- sq2
namespace Go.Proofs.YtncdadcmghglkaaGreatDoor.PFnPartValid
open Go.RowKit Go.Proofs.YtncdadcmghglkaaGreatDoor.X Go.Proofs.YtncdadcmghglkaaGreatDoorW.bK Go.Proofs.YtncdadcmghglkaaGreatDoorW.gY Go.Proofs.YtncdadcmghglkaaGreatDoorW.iU
attribute [local go_sem] lu lC ng ni jO jP lD lF   -- for this text's walks alone
set_option linter.unusedVariables false
set_option maxHeartbeats 8000000
set_option maxRecDepth 100000
set_option linter.unusedSimpArgs false
def jq.j0 : Nat → Bool → ByteArray → ByteArray → List (gK) → Option (ByteArray × Bool)
 | 0, _, _, _, _ => none
 | k + 1, CO, axp, axq, ahF => if CO = true then (some ((⟨#[]⟩ : ByteArray), false)) else ((nS.f k ahF (⟨#[98, 111, 117, 110, 100, 97, 114, 121]⟩ : ByteArray)).bind fun ajJ => ((kU.f k ajJ.1).bind fun apR => (if apR = true then (some (ajJ.1, true)) else (some ((⟨#[]⟩ : ByteArray), false)))))
def jq.f (k : Nat) (fC : ByteArray) (fH : ByteArray) (aC : List (gK)) : Option (ByteArray × Bool) := (bV.f k fC fH aC).bind fun apS => (if apS = true then (jq.j0 k (fC.toList != ([109, 117, 108, 116, 105, 112, 97, 114, 116] : List UInt8)) fC fH aC) else (jq.j0 k true fC fH aC))
theorem jq.calls {k fM : Nat} {fC fH r1 : ByteArray} {iC : Option Addr} {aC : List (gK)} {r2 : Bool} {w : World} (jY : Kd.C pU w iC aC.length aC) (jZ : aC.length ≤ fM) (h : jq.f k fC fH aC = some (r1, r2)) :
  Calls Tryz.prog 49 #[.agg #[.string fC, .string fH, .slice iC aC.length fM]] w fun e w' => e = .returned (.tuple #[.string r1, .bool r2]) ∧ Below w.heap.size w w' := by
 have Xh := Tryz.underlying61
 have jQ := ak jY
 have nC := ak jZ
 clear jY jZ
 have HB := ak (Below.refl w.heap.size w)
 unfold jq.f at h; have H := h
 clear h
 have HC2 := ak H
 clear H
 go_enter Tryz.func49, Tryz.ntmps49
 go_upto_region 1 with (refine bX HB 1 #[.string fC, .string fH, .slice iC aC.length fM] 61 ?_; intro apT w3 AO aBB hb; replace HB := bs HB hb; clear hb)
 (try simp only [Act.put, sK, sN, l_c])
 go_cut [13] (fun v13 wc => ∃ (kq : Nat) (jA : Bool), v13 = .bool jA ∧ ah (jq.j0 kq jA fC fH aC = some (r1, r2)) ∧ ah (kq ≤ k) ∧ ah (wc.heap[apT]? = some (.cells #[.string fC, .string fH, (.slice iC aC.length fM)] 61 (0, 0))) ∧ ah (Below w.heap.size w wc))
 case first =>
  have H := HC2.out
  clear HC2
  replace H := bd H; obtain ⟨apS, A4, H⟩ := H; replace H := sb H
  rcases H with ⟨rfl, H⟩ | ⟨rfl, H⟩
  ·
   have H' := ak H; clear H
   have z6 := ku AO.out
   go_wp2_with (refine gB Tryz.func95 (bV.calls (cu (Kd.aW jQ.out HB.out)) nC.out A4.out) ?_; intro w7 hb; replace AO := kb AO hb; replace HB := bz HB hb; clear hb; have z8 := ku AO.out)
   go_meet
   case rel => exact ⟨_, _, rs, H', ⟨JF⟩, ⟨ub AO.out⟩, ⟨bb⟩⟩
  ·
   have H' := ak H; clear H
   have z9 := ku AO.out
   go_wp2_with (refine gB Tryz.func95 (bV.calls (cu (Kd.aW jQ.out HB.out)) nC.out A4.out) ?_; intro w10 hb; replace AO := kb AO hb; replace HB := bz HB hb; clear hb)
   go_meet
   case rel => exact ⟨_, _, rs, H', ⟨JF⟩, ⟨ub AO.out⟩, ⟨bb⟩⟩
 case rest =>
  clear HC2
  obtain ⟨kq, jA, rfl, HA, HJ1, AO, HB⟩ := hcut
  cases kq with
  | zero => exact zz HA.out
  | succ Py =>
   obtain ⟨H⟩ := HA
   simp only [jq.j0] at H
   replace H := sb H
   rcases H with ⟨rfl, H⟩ | ⟨rfl, H⟩
   ·
    obtain ⟨rfl, rfl⟩ := s2 H
    go_wp2
    go_ret2
    exact ⟨er, bb⟩
   ·
    replace H := bd H
    obtain ⟨⟨aEq, aEr⟩, A12, H⟩ := H
    (try dsimp only at H)
    replace H := bd H; obtain ⟨apR, A13, H⟩ := H; replace H := sb H
    rcases H with ⟨rfl, H⟩ | ⟨rfl, H⟩
    ·
     obtain ⟨rfl, rfl⟩ := s2 H
     have OH := ku AO.out
     go_wp2_with (first | (refine gB Tryz.func47 (nS.calls (cu (Kd.aW jQ.out HB.out)) nC.out A12.out) ?_; intro w16 hb; replace AO := kb AO hb; replace HB := bz HB hb; clear hb) | (refine gA Tryz.func96 (kU.calls A13.out) ?_; intro nd))
     go_ret2
     exact ⟨er, bb⟩
    ·
     obtain ⟨rfl, rfl⟩ := s2 H
     have z17 := ku AO.out
     go_wp2_with (first | (refine gB Tryz.func47 (nS.calls (cu (Kd.aW jQ.out HB.out)) nC.out A12.out) ?_; intro w18 hb; replace AO := kb AO hb; replace HB := bz HB hb; clear hb) | (refine gA Tryz.func96 (kU.calls A13.out) ?_; intro nd))
     go_ret2
     exact ⟨er, bb⟩
def lI.f (k : Nat) (dG : List (gK)) (cO : List ByteArray) (aC : List (mV)) : Option (ByteArray × Bool) := (nS.f k dG (⟨#[67, 111, 110, 116, 101, 110, 116, 45, 84, 121, 112, 101]⟩ : ByteArray)).bind fun apU => ((cZ.f k apU.1).bind fun aaE => (if aaE.2.2.2 = true then ((jq.f k aaE.1 aaE.2.1 aaE.2.2.1).bind fun ajK => (some (ajK.1, ajK.2))) else (some ((⟨#[]⟩ : ByteArray), false))))
theorem lI.calls {k jm jk fM : Nat} {jl ji iC : Option Addr} {dG : List (gK)} {cO : List ByteArray} {aC : List (mV)} {r1 : ByteArray} {r2 : Bool} {w : World} (mW : Kd.C pU w jl dG.length dG) (mX : dG.length ≤ jm) (mY : Kd.C Kd.string w ji cO.length cO) (mZ : cO.length ≤ jk) (jY : Kd.C k28 w iC aC.length aC) (jZ : aC.length ≤ fM) (CX : MaxOk w) (h : lI.f k dG cO aC = some (r1, r2)) :
  Calls Tryz.prog 101 #[.agg #[.slice jl dG.length jm, .slice ji cO.length jk, .slice iC aC.length fM]] w fun e w' => e = .returned (.tuple #[.string r1, .bool r2]) ∧ Below w.heap.size w w' := by
 have Et := Tryz.underlying28
 have Xh := Tryz.underlying61
 have qE := ak mW
 have qX := ak mX
 clear mW mX
 have uH := ak mY
 have wY := ak mZ
 clear mY mZ
 have jQ := ak jY
 have nC := ak jZ
 clear jY jZ
 have HG := ak CX
 clear CX
 have HB := ak (Below.refl w.heap.size w)
 unfold lI.f at h; have H := h
 clear h
 replace H := bd H
 obtain ⟨⟨aEs, aEt⟩, A2, H⟩ := H
 (try dsimp only at H)
 replace H := bd H
 obtain ⟨⟨ayy, ayz, apV, aEu⟩, A3, H⟩ := H
 (try dsimp only at H)
 replace H := sb H
 rcases H with ⟨rfl, H⟩ | ⟨rfl, H⟩
 ·
  replace H := bd H
  obtain ⟨⟨aEv, aEw⟩, A5, H⟩ := H
  (try dsimp only at H)
  obtain ⟨rfl, rfl⟩ := s2 H
  go_enter Tryz.func101, Tryz.ntmps101
  go_wp2_with (first | (refine bX HB 1 #[.slice jl dG.length jm, .slice ji cO.length jk, .slice iC aC.length fM] 28 ?_; intro apW w6 xI apX hb; replace HB := bs HB hb; clear hb; have z7 := ku xI.out) | (refine gB Tryz.func47 (nS.calls (cu (Kd.aW qE.out HB.out)) qX.out A2.out) ?_; intro w8 hb; replace xI := kb xI hb; replace HB := bz HB hb; clear hb) | (refine gV Tryz.func48 (cZ.calls ?gJ A3.out) ?_; (case gJ => first | exact HG.out | exact MaxOk.below HG.out bb | (repeat (first | exact HG.out | apply MaxOk.drewN | apply MaxOk.drew))); rintro ayA w9 ⟨ho0, hb⟩; have F9 := ak (Kd.aG ho0 (aj bb)); replace xI := kb xI hb; replace HB := bz HB hb; clear hb; (try clear ho0)) | (refine bY HB 6 #[.string (⟨#[]⟩ : ByteArray), .string (⟨#[]⟩ : ByteArray), .slice none 0 0] 61 ?_; intro apY w10 Xi apZ hg hb; have Nu := Au xI hg; have Nv := Aw xI hg; replace F9 := rb F9 hb; replace xI := kb xI hb; replace HB := bz HB hb; clear hb hg; have ap0 := Nv.out; have ap1 := Nu.out; have z12 := ku Xi.out; obtain ⟨U4, Ii, QB⟩ := Kd.aX F9.out; subst QB) | (refine gB Tryz.func49 (jq.calls ?gJ ((Kd.au F9.out).2.1) A5.out) ?_; (case gJ => refine (Kd.au (e := 69) (base := w.heap.size) (ok := fun k_ => True) (n := apV.length) (c := Ii) ?_).2.2; exact (rh F9)); intro Tc hb; replace F9 := rg F9 hb; replace xI := kp xI #[.slice jl dG.length jm, .slice ji cO.length jk, .slice iC aC.length fM] hb; replace Xi := kp Xi #[.string ayy, .string ayz, .slice U4 apV.length Ii] hb; replace HB := bz HB hb; clear hb))
  go_ret2
  exact ⟨er, bb⟩
 ·
  obtain ⟨rfl, rfl⟩ := s2 H
  go_enter Tryz.func101, Tryz.ntmps101
  go_wp2_with (first | (refine bX HB 1 #[.slice jl dG.length jm, .slice ji cO.length jk, .slice iC aC.length fM] 28 ?_; intro apW w15 xI apX hb; replace HB := bs HB hb; clear hb; have z16 := ku xI.out) | (refine gB Tryz.func47 (nS.calls (cu (Kd.aW qE.out HB.out)) qX.out A2.out) ?_; intro w17 hb; replace xI := kb xI hb; replace HB := bz HB hb; clear hb) | (refine gV Tryz.func48 (cZ.calls ?gJ A3.out) ?_; (case gJ => first | exact HG.out | exact MaxOk.below HG.out bb | (repeat (first | exact HG.out | apply MaxOk.drewN | apply MaxOk.drew))); rintro ayA w18 ⟨ho0, hb⟩; have F9 := ak (Kd.aG ho0 (aj bb)); replace xI := kb xI hb; replace HB := bz HB hb; clear hb; (try clear ho0)) | (refine bY HB 6 #[.string (⟨#[]⟩ : ByteArray), .string (⟨#[]⟩ : ByteArray), .slice none 0 0] 61 ?_; intro apY YM Xi apZ hg hb; have Nu := Au xI hg; have Nv := Aw xI hg; replace F9 := rb F9 hb; replace xI := kb xI hb; replace HB := bz HB hb; clear hb hg; have ap2 := Nv.out; have ap3 := Nu.out; have z21 := ku Xi.out; obtain ⟨aEx, aEy, ayB⟩ := Kd.aX F9.out; subst ayB))
  go_ret2
  exact ⟨er, bb⟩
def qU.f (k : Nat) (a0 : ByteArray) : Option (Bool) := (bI.f k a0).bind fun ap4 => (some (!ap4))
theorem qU.calls {k : Nat} {a0 : ByteArray} {r : Bool} {w : World} (h : qU.f k a0 = some r) :
  Calls Tryz.prog 149 #[.string a0] w fun e w' => e = .returned (.bool r) ∧ dW w w' := by
 unfold qU.f at h; have H := h
 clear h
 replace H := bd H; obtain ⟨ap4, A2, H⟩ := H
 obtain rfl := s1 H
 go_enter Tryz.func149, Tryz.ntmps149
 go_wp2_with (refine gA Tryz.func89 (bI.calls A2.out) ?_; intro nd)
 go_ret
 exact ⟨rs, dn⟩
def aZ.l0 : Nat → List ByteArray → Int → Int → Option (Int)
 | 0, _, _, _ => none
 | k + 1, x0, x7, x8 => if x8 < x7 then (if 0 ≤ x8 then (if x8 < (x0.length : Int) then ((qU.f k (qg ByteArray.empty x0 x8)).bind fun ap5 => (if ap5 = true then (some x8) else (aZ.l0 k x0 x7 (wrap64 (x8 + 1))))) else (none)) else (none)) else (some (-1))
def aZ.f (k : Nat) (l0 : List ByteArray)  : Option (Int) := aZ.l0 k l0 (l0.length : Int) 0
theorem aZ.calls {k c0 : Nat} {A0 : Option Addr} {l0 : List ByteArray} {r : Int} {w : World} (hr0 : Kd.C Kd.string w A0 l0.length l0) (hc0 : l0.length ≤ c0) (h : aZ.f k l0 = some r) :
  Calls Tryz.prog 173 #[.slice A0 l0.length c0, .func (.func 149) #[] #[]] w fun e w' => e = .returned (.int .i64 r) ∧ dW w w' := by
 have HR0 := ak hr0
 have zq := ak hc0
 clear hr0 hc0
 unfold aZ.f at h; have H := h
 clear h
 have H' := ak H; clear H
 go_enter Tryz.func173, Tryz.ntmps173
 go_wp2
 go_loopg [8] k (fun kq v8 w' => ∃ (lK : Int), v8 = .int .i64 lK ∧ ah (aZ.l0 kq l0 (l0.length : Int) lK = some r) ∧ ah (kq ≤ k) ∧ dW w w')
 case atStart => exact ⟨_, rs, H', ⟨Nat.le_refl _⟩, dn⟩
 case round =>
  clear H'
  obtain ⟨lK, rfl, HA, yB, ⟨m1, rfl⟩⟩ := hrel
  cases gk with
  | zero => exact zz HA.out
  | succ k1 =>
   obtain ⟨H⟩ := HA
   simp only [aZ.l0] at H
   replace H := sd H
   rcases H with ⟨iP, H⟩ | ⟨iP, H⟩
   ·
    replace H := oN H; obtain ⟨rC, H⟩ := H; replace H := oN H; obtain ⟨nR, H⟩ := H; replace H := bd H; obtain ⟨ap5, A6, H⟩ := H; replace H := sb H
    rcases H with ⟨rfl, H⟩ | ⟨rfl, H⟩
    ·
     obtain rfl := s1 H
     have YT := zi lK
     have YU := zj lK l0.length
     obtain ⟨ap6, e300, ahG⟩ := Kd.jI HR0.out lK YT YU
     cases e300
     replace YT := eq_true YT
     replace YU := eq_true YU
     go_wp2_with (go_at_call 149; refine mA (qU.calls A6.out) ?_; intro nd)
     go_ret
     exact ⟨rs, dn⟩
    ·
     have H' := ak H; clear H
     have YT := zi lK
     have YU := zj lK l0.length
     obtain ⟨ap6, e300, ahG⟩ := Kd.jI HR0.out lK YT YU
     cases e300
     replace YT := eq_true YT
     replace YU := eq_true YU
     go_wp2_with (go_at_call 149; refine mA (qU.calls A6.out) ?_; intro nd)
     go_roundg k1
     case measure => exact kl
     case rel => exact ⟨_, rs, H', ⟨kl⟩, dn⟩
   ·
    obtain rfl := s1 H
    go_wp2
    go_ret
    exact ⟨rs, dn⟩
def fZ.f (k : Nat) (l0 : List ByteArray)  : Option (Bool) := (aZ.f k l0).bind fun ap7 => (some (decide (ap7 ≥ 0)))
theorem fZ.calls {k c0 : Nat} {A0 : Option Addr} {l0 : List ByteArray} {r : Bool} {w : World} (hr0 : Kd.C Kd.string w A0 l0.length l0) (hc0 : l0.length ≤ c0) (h : fZ.f k l0 = some r) :
  Calls Tryz.prog 148 #[.slice A0 l0.length c0, .func (.func 149) #[] #[]] w fun e w' => e = .returned (.bool r) ∧ dW w w' := by
 have HR0 := ak hr0
 have zq := ak hc0
 clear hr0 hc0
 unfold fZ.f at h; have H := h
 clear h
 replace H := bd H; obtain ⟨ap7, A3, H⟩ := H
 obtain rfl := s1 H
 go_enter Tryz.func148, Tryz.ntmps148
 go_wp2_with (refine gA Tryz.func173 (aZ.calls (cu HR0.out) zq.out A3.out) ?_; intro nd)
 go_ret
 exact ⟨rs, dn⟩
def rM.f (k : Nat) (l0 : List ByteArray) (a1 : Int) : Option (Bool) := if (l0.length : Int) ≤ a1 then ((fZ.f k l0).bind fun ap8 => (some (!ap8))) else (some false)
theorem rM.calls {k c0 : Nat} {A0 : Option Addr} {l0 : List ByteArray} {a1 : Int} {r : Bool} {w : World} (hr0 : Kd.C Kd.string w A0 l0.length l0) (hc0 : l0.length ≤ c0) (h : rM.f k l0 a1 = some r) :
  Calls Tryz.prog 105 #[.slice A0 l0.length c0, .int .i64 a1] w fun e w' => e = .returned (.bool r) ∧ dW w w' := by
 have HR0 := ak hr0
 have zq := ak hc0
 clear hr0 hc0
 unfold rM.f at h; have H := h
 clear h
 replace H := sd H
 rcases H with ⟨iP, H⟩ | ⟨iP, H⟩
 ·
  replace H := bd H; obtain ⟨ap8, A4, H⟩ := H
  obtain rfl := s1 H
  go_enter Tryz.func105, Tryz.ntmps105
  go_wp2_with (go_at_call 148; refine mA (fZ.calls (cu HR0.out) zq.out A4.out) ?_; intro nd)
  go_ret
  exact ⟨rs, dn⟩
 ·
  obtain rfl := s1 H
  go_enter Tryz.func105, Tryz.ntmps105
  go_wp2
  go_ret
  exact ⟨rs, dn⟩
def dL.l0 : Nat → List ByteArray → ByteArray → Int → Int → Option (Int)
 | 0, _, _, _, _ => none
 | k + 1, x0, x1, x7, x8 => if x8 < x7 then (if 0 ≤ x8 then (if x8 < (x0.length : Int) then (if x1.toList = (qg ByteArray.empty x0 x8).toList then (some x8) else (dL.l0 k x0 x1 x7 (wrap64 (x8 + 1)))) else (none)) else (none)) else (some (-1))
def dL.f (k : Nat) (l0 : List ByteArray) (a1 : ByteArray) : Option (Int) := dL.l0 k l0 a1 (l0.length : Int) 0
theorem dL.calls {k c0 : Nat} {A0 : Option Addr} {l0 : List ByteArray} {a1 : ByteArray} {r : Int} {w : World} (hr0 : Kd.C Kd.string w A0 l0.length l0) (hc0 : l0.length ≤ c0) (h : dL.f k l0 a1 = some r) :
  Calls Tryz.prog 99 #[.slice A0 l0.length c0, .string a1] w fun e w' => e = .returned (.int .i64 r) ∧ dW w w' := by
 have HR0 := ak hr0
 have zq := ak hc0
 clear hr0 hc0
 unfold dL.f at h; have H := h
 clear h
 have H' := ak H; clear H
 go_enter Tryz.func99, Tryz.ntmps99
 go_wp2
 go_loopg [8] k (fun kq v8 w' => ∃ (lK : Int), v8 = .int .i64 lK ∧ ah (dL.l0 kq l0 a1 (l0.length : Int) lK = some r) ∧ ah (kq ≤ k) ∧ dW w w')
 case atStart => exact ⟨_, rs, H', ⟨Nat.le_refl _⟩, dn⟩
 case round =>
  clear H'
  obtain ⟨lK, rfl, HA, yB, ⟨m1, rfl⟩⟩ := hrel
  cases gk with
  | zero => exact zz HA.out
  | succ k1 =>
   obtain ⟨H⟩ := HA
   simp only [dL.l0] at H
   replace H := sd H
   rcases H with ⟨iP, H⟩ | ⟨iP, H⟩
   ·
    replace H := oN H; obtain ⟨rC, H⟩ := H; replace H := oN H; obtain ⟨nR, H⟩ := H; replace H := sq H
    rcases H with ⟨oJ, yT, H⟩ | ⟨c6, oJ, yT, H⟩
    ·
     obtain rfl := s1 H
     have YV := zi lK
     have YW := zj lK l0.length
     obtain ⟨ap9, e304, ahH⟩ := Kd.jI HR0.out lK YV YW
     cases e304
     replace YV := eq_true YV
     replace YW := eq_true YW
     go_wp2
     go_ret
     exact ⟨rs, dn⟩
    ·
     have H' := ak H; clear H
     have YV := zi lK
     have YW := zj lK l0.length
     obtain ⟨ap9, e304, ahH⟩ := Kd.jI HR0.out lK YV YW
     cases e304
     replace YV := eq_true YV
     replace YW := eq_true YW
     go_wp2
     go_roundg k1
     case measure => exact kl
     case rel => exact ⟨_, rs, H', ⟨kl⟩, dn⟩
   ·
    obtain rfl := s1 H
    go_wp2
    go_ret
    exact ⟨rs, dn⟩
def fU.f (k : Nat) (l0 : List ByteArray) (a1 : ByteArray) : Option (Bool) := (dL.f k l0 a1).bind fun ap_ => (some (decide (ap_ ≥ 0)))
theorem fU.calls {k c0 : Nat} {A0 : Option Addr} {l0 : List ByteArray} {a1 : ByteArray} {r : Bool} {w : World} (hr0 : Kd.C Kd.string w A0 l0.length l0) (hc0 : l0.length ≤ c0) (h : fU.f k l0 a1 = some r) :
  Calls Tryz.prog 175 #[.slice A0 l0.length c0, .string a1] w fun e w' => e = .returned (.bool r) ∧ dW w w' := by
 have HR0 := ak hr0
 have zq := ak hc0
 clear hr0 hc0
 unfold fU.f at h; have H := h
 clear h
 replace H := bd H; obtain ⟨ap_, A3, H⟩ := H
 obtain rfl := s1 H
 go_enter Tryz.func175, Tryz.ntmps175
 go_wp2_with (refine gA Tryz.func99 (dL.calls (cu HR0.out) zq.out A3.out) ?_; intro nd)
 go_ret
 exact ⟨rs, dn⟩
def uV.f (k : Nat) (l0 : List ByteArray) (a1 : ByteArray) : Option (Bool) := if 2 + a1.size ≤ 9223372036854775807 then ((fU.f k l0 ((⟨#[45, 45]⟩ : ByteArray) ++ a1)).bind fun ahI => (if ahI = true then (some true) else (if ((⟨#[45, 45]⟩ : ByteArray) ++ a1).size + 2 ≤ 9223372036854775807 then ((fU.f k l0 (((⟨#[45, 45]⟩ : ByteArray) ++ a1) ++ (⟨#[45, 45]⟩ : ByteArray))).bind fun aqa => (some aqa)) else (none)))) else (none)
theorem uV.calls {k c0 : Nat} {A0 : Option Addr} {l0 : List ByteArray} {a1 : ByteArray} {r : Bool} {w : World} (hr0 : Kd.C Kd.string w A0 l0.length l0) (hc0 : l0.length ≤ c0) (h : uV.f k l0 a1 = some r) :
  Calls Tryz.prog 152 #[.slice A0 l0.length c0, .string a1] w fun e w' => e = .returned (.bool r) ∧ dW w w' := by
 have HR0 := ak hr0
 have zq := ak hc0
 clear hr0 hc0
 unfold uV.f at h; have H := h
 clear h
 replace H := nn H; obtain ⟨c3, H⟩ := H
 have iP := eq_true c3
 have yU := decide_eq_true c3
 try have U7 : (9223372036854775807 < 2 + a1.size) = False := eq_false (Nat.not_lt.2 c3)
 replace H := bd H; obtain ⟨ahI, A4, H⟩ := H; replace H := sb H
 rcases H with ⟨rfl, H⟩ | ⟨rfl, H⟩
 ·
  obtain rfl := s1 H
  go_enter Tryz.func152, Tryz.ntmps152
  go_wp2_with (refine gA Tryz.func175 (fU.calls (cu HR0.out) zq.out A4.out) ?_; intro nd)
  go_ret
  exact ⟨rs, dn⟩
 ·
  replace H := nn H; obtain ⟨c6, H⟩ := H
  have oJ := eq_true c6
  have yT := decide_eq_true c6
  try have aEz : (9223372036854775807 < 2 + a1.size + 2) = False := by have h_ := (eq_false (Nat.not_lt.2 c6) : (9223372036854775807 < ((⟨#[45, 45]⟩ : ByteArray) ++ a1).size + 2) = False); simp only [ByteArray.size_append] at h_; exact h_
  try have ahJ : (9223372036854775807 < ((⟨#[45, 45]⟩ : ByteArray) ++ a1).size + 2) = False := eq_false (Nat.not_lt.2 c6)
  replace H := bd H; obtain ⟨aqa, A7, H⟩ := H
  obtain rfl := s1 H
  go_enter Tryz.func152, Tryz.ntmps152
  go_wp2_with (first | (refine gA Tryz.func175 (fU.calls (cu HR0.out) zq.out A4.out) ?_; intro nd) | (go_at_call 175; refine mA (fU.calls (cu HR0.out) zq.out A7.out) ?_; intro nd))
  go_ret
  exact ⟨rs, dn⟩
def ou.f (k : Nat) (l0 : List ByteArray) (a1 : ByteArray) : Option (Bool) := (uV.f k l0 a1).bind fun aqb => (some aqb)
theorem ou.calls {k c0 gq1 : Nat} {A0 : Option Addr} {l0 : List ByteArray} {a1 : ByteArray} {r : Bool} {w : World} (hr0 : Kd.C Kd.string w A0 l0.length l0) (hc0 : l0.length ≤ c0) (hq1 : w.heap[gq1]? = some (.cells #[.string a1] 9 (0, 0))) (h : ou.f k l0 a1 = some r) :
  Calls Tryz.prog 151 #[.slice A0 l0.length c0, .pointer (some ⟨gq1, 0, none⟩)] w fun e w' => e = .returned (.bool r) ∧ Below w.heap.size w w' := by
 have HR0 := ak hr0
 have zq := ak hc0
 clear hr0 hc0
 have wC := ak hq1
 clear hq1
 have HB := ak (Below.refl w.heap.size w)
 unfold ou.f at h; have H := h
 clear h
 replace H := bd H; obtain ⟨aqb, A3, H⟩ := H
 obtain rfl := s1 H
 have aek : w.cell? ⟨gq1, 0, none⟩ = some (.string a1) := (aA wC.out 0).trans rfl
 have ayC := iG wC.out 0
 go_enter Tryz.func151, Tryz.ntmps151
 go_wp2_with (refine gA Tryz.func152 (uV.calls (cu HR0.out) zq.out A3.out) ?_; intro nd)
 go_ret
 exact ⟨er, bb⟩
def bg.l0 : Nat → List (List ByteArray) → Int → Int → ByteArray → Option (Int)
 | 0, _, _, _, _ => none
 | k + 1, x0, x7, x8, QC => if x8 < x7 then (if 0 ≤ x8 then (if x8 < (x0.length : Int) then ((ou.f k (zy x0 x8) QC).bind fun ahK => (if ahK = true then (some x8) else (bg.l0 k x0 x7 (wrap64 (x8 + 1)) QC))) else (none)) else (none)) else (some (-1))
def bg.f (k : Nat) (l0 : List (List ByteArray)) (FU : ByteArray) : Option (Int) := bg.l0 k l0 (l0.length : Int) 0 FU
theorem bg.calls {k c0 Iy : Nat} {A0 : Option Addr} {l0 : List (List ByteArray)} {FU : ByteArray} {r : Int} {w : World} (hr0 : Kd.C (Kd.slice 9 Kd.string) w A0 l0.length l0) (hc0 : l0.length ≤ c0) (OL : w.heap[Iy]? = some (.cells #[.string FU] 9 (0, 0))) (h : bg.f k l0 FU = some r) :
  Calls Tryz.prog 174 #[.slice A0 l0.length c0, .func (.func 151) #[] #[.pointer (some ⟨Iy, 0, none⟩)]] w fun e w' => e = .returned (.int .i64 r) ∧ Below w.heap.size w w' := by
 have HR0 := ak hr0
 have zq := ak hc0
 clear hr0 hc0
 have wC := ak OL
 clear OL
 have HB := ak (Below.refl w.heap.size w)
 unfold bg.f at h; have H := h
 clear h
 have H' := ak H; clear H
 go_enter Tryz.func174, Tryz.ntmps174
 go_wp2
 go_loopg [8] k (fun kq v8 w' => ∃ (lK : Int), v8 = .int .i64 lK ∧ ah (bg.l0 kq l0 (l0.length : Int) lK FU = some r) ∧ ah (kq ≤ k) ∧ ah (w'.heap[Iy]? = some (.cells #[.string FU] 9 (0, 0))) ∧ ah (Below w.heap.size w w'))
 case atStart => exact ⟨_, rs, H', ⟨Nat.le_refl _⟩, ⟨ub wC.out⟩, ⟨bb⟩⟩
 case round =>
  clear H'
  obtain ⟨lK, rfl, HA, yB, wC, HB⟩ := hrel
  cases gk with
  | zero => exact zz HA.out
  | succ k1 =>
   obtain ⟨H⟩ := HA
   simp only [bg.l0] at H
   replace H := sd H
   rcases H with ⟨iP, H⟩ | ⟨iP, H⟩
   ·
    replace H := oN H; obtain ⟨rC, H⟩ := H; replace H := oN H; obtain ⟨nR, H⟩ := H; replace H := bd H; obtain ⟨ahK, A6, H⟩ := H; replace H := sb H
    rcases H with ⟨rfl, H⟩ | ⟨rfl, H⟩
    ·
     obtain rfl := s1 H
     have YX := zi lK
     have YZ := zj lK l0.length
     obtain ⟨aqc, amV, amW, e309, JJ, JK, JL⟩ := JG HR0.out lK YX YZ
     cases e309
     replace JJ := cl HB.out JJ
     have U8 := ak JL
     have U9 := ak JK
     clear JL JK
     replace YX := eq_true YX
     replace YZ := eq_true YZ
     go_wp2_with (go_at_call 151; refine mB (ou.calls (cu (Kd.aW U8.out HB.out)) U9.out (ub wC.out) A6.out) ?_; intro w8 hb; replace wC := kb wC hb; replace HB := bz HB hb; clear hb)
     go_ret
     exact ⟨er, bb⟩
    ·
     have H' := ak H; clear H
     have YX := zi lK
     have YZ := zj lK l0.length
     obtain ⟨aqc, amV, amW, e309, JJ, JK, JL⟩ := JG HR0.out lK YX YZ
     cases e309
     replace JJ := cl HB.out JJ
     have U8 := ak JL
     have U9 := ak JK
     clear JL JK
     replace YX := eq_true YX
     replace YZ := eq_true YZ
     go_wp2_with (go_at_call 151; refine mB (ou.calls (cu (Kd.aW U8.out HB.out)) U9.out (ub wC.out) A6.out) ?_; intro w9 hb; replace wC := kb wC hb; replace HB := bz HB hb; clear hb)
     go_roundg k1
     case measure => exact kl
     case rel => exact ⟨_, rs, H', ⟨kl⟩, ⟨ub wC.out⟩, ⟨bb⟩⟩
   ·
    obtain rfl := s1 H
    go_wp2
    go_ret
    exact ⟨er, bb⟩
def eF.f (k : Nat) (l0 : List (List ByteArray)) (FU : ByteArray) : Option (Bool) := (bg.f k l0 FU).bind fun ahL => (some (decide (ahL ≥ 0)))
theorem eF.calls {k c0 Iy : Nat} {A0 : Option Addr} {l0 : List (List ByteArray)} {FU : ByteArray} {r : Bool} {w : World} (hr0 : Kd.C (Kd.slice 9 Kd.string) w A0 l0.length l0) (hc0 : l0.length ≤ c0) (OL : w.heap[Iy]? = some (.cells #[.string FU] 9 (0, 0))) (h : eF.f k l0 FU = some r) :
  Calls Tryz.prog 150 #[.slice A0 l0.length c0, .func (.func 151) #[] #[.pointer (some ⟨Iy, 0, none⟩)]] w fun e w' => e = .returned (.bool r) ∧ Below w.heap.size w w' := by
 have HR0 := ak hr0
 have zq := ak hc0
 clear hr0 hc0
 have wC := ak OL
 clear OL
 have HB := ak (Below.refl w.heap.size w)
 unfold eF.f at h; have H := h
 clear h
 replace H := bd H; obtain ⟨ahL, A3, H⟩ := H
 obtain rfl := s1 H
 go_enter Tryz.func150, Tryz.ntmps150
 go_wp2_with (refine gB Tryz.func174 (bg.calls (cu HR0.out) zq.out (ub wC.out) A3.out) ?_; intro w4 hb; replace wC := kb wC hb; replace HB := bz HB hb; clear hb)
 go_ret
 exact ⟨er, bb⟩
mutual
def fP.j0 : Nat → List (List ByteArray) → Bool → ByteArray → Option (List ByteArray × Bool)
 | 0, _, _, _ => none
 | k + 1, x0, x21, CY => if x21 = true then (some (([] : List ByteArray), false)) else (fP.l0 k (([] : List ByteArray)) x0 (x0.length : Int) 0 CY)
def fP.l0 : Nat → List ByteArray → List (List ByteArray) → Int → Int → ByteArray → Option (List ByteArray × Bool)
 | 0, _, _, _, _, _ => none
 | k + 1, x6, x23, x24, x25, CY => if x25 < x24 then (if 0 ≤ x25 then (if x25 < (x23.length : Int) then (if 2 + CY.size ≤ 9223372036854775807 then (if x6.length < 8796093022208 then ((some (x6 ++ [(⟨#[45, 45]⟩ : ByteArray) ++ CY] : List ByteArray)).bind fun ael => (if ael.length + (zy x23 x25).length < 8796093022208 then (fP.l0 k (ael ++ (zy x23 x25)) x23 x24 (wrap64 (x25 + 1)) CY) else (none))) else (none)) else (none)) else (none)) else (none)) else (if 2 + CY.size ≤ 9223372036854775807 then (if ((⟨#[45, 45]⟩ : ByteArray) ++ CY).size + 2 ≤ 9223372036854775807 then (if x6.length < 8796093022208 then (some ((x6 ++ [((⟨#[45, 45]⟩ : ByteArray) ++ CY) ++ (⟨#[45, 45]⟩ : ByteArray)]), true)) else (none)) else (none)) else (none))
end
def fP.f (k : Nat) (l0 : List (List ByteArray)) (a1 : ByteArray) : Option (List ByteArray × Bool) := (kU.f k a1).bind fun aqd => (if aqd = true then (if (l0.length : Int) = 0 then (fP.j0 k l0 true a1) else ((eF.f k l0 a1).bind fun aqe => (fP.j0 k l0 aqe a1))) else (fP.j0 k l0 true a1))
theorem fP.calls {k c0 : Nat} {A0 : Option Addr} {l0 : List (List ByteArray)} {a1 : ByteArray} {r1 : List ByteArray} {r2 : Bool} {w : World} (hr0 : Kd.C (Kd.slice 9 Kd.string) w A0 l0.length l0) (hc0 : l0.length ≤ c0) (h : fP.f k l0 a1 = some (r1, r2)) :
  Calls Tryz.prog 106 #[.slice A0 l0.length c0, .string a1] w fun e w' => ∃ rY : Value, e = .returned (.tuple #[rY, .bool r2]) ∧ Kd.R Kd.string 9 w' w.heap.size (fun _ => True) rY r1 ∧ Below w.heap.size w w' := by
 have HR0 := ak hr0
 have zq := ak hc0
 clear hr0 hc0
 have HB := ak (Below.refl w.heap.size w)
 unfold fP.f at h; have H := h
 clear h
 have QD := ak H
 clear H
 go_enter Tryz.func106, Tryz.ntmps106
 go_upto_region 1 with (refine gG 3 ?_; refine bX HB 3 #[.string a1] 9 ?_; intro zA w4 rP aBC hb; replace HB := bs HB hb; clear hb)
 (try simp only [Act.put, sK, sN, l_c])
 go_cut [21] (fun v21 wc => ∃ (kq : Nat) (aem : Bool), v21 = .bool aem ∧ ah (fP.j0 kq l0 aem a1 = some (r1, r2)) ∧ ah (kq ≤ k) ∧ ah (wc.heap[zA]? = some (.cells #[.string a1] 9 (0, 0))) ∧ ah (Below w.heap.size w wc))
 case first =>
  have H := QD.out
  clear QD
  replace H := bd H; obtain ⟨aqd, A5, H⟩ := H; replace H := sb H
  rcases H with ⟨rfl, H⟩ | ⟨rfl, H⟩
  ·
   replace H := sp H
   rcases H with ⟨c7, H⟩ | ⟨c7, H⟩
   ·
    have sH := beq_iff_eq.mpr c7
    have Nw := bne_eq_false_iff_eq.mpr c7
    clear c7
    (first | rw [sH] | (simp only [eu, f_]; rw [sH]) | skip)
    have H' := ak H; clear H
    have ayD : w4.cell? ⟨zA, 0, none⟩ = some (.string a1) := (aA rP.out 0).trans rfl
    have ayE := iG rP.out 0
    go_wp2_with (refine gA Tryz.func96 (kU.calls A5.out) ?_; intro nd)
    go_meet
    case rel => exact ⟨_, _, rs, H', ⟨JF⟩, ⟨ub rP.out⟩, ⟨bb⟩⟩
   ·
    have sH := beq_eq_false_iff_ne.mpr c7
    have Nw := bne_iff_ne.mpr c7
    have ayF : ¬ (l0 = []) := fun h_ => c7 (by rw [h_]; rfl)
    (first | rw [sH] | (simp only [eu, f_]; rw [sH]) | skip)
    replace H := bd H; obtain ⟨aqe, A9, H⟩ := H
    have H' := ak H; clear H
    have axr : w4.cell? ⟨zA, 0, none⟩ = some (.string a1) := (aA rP.out 0).trans rfl
    have axt := iG rP.out 0
    go_wp2_with (first | (refine gA Tryz.func96 (kU.calls A5.out) ?_; intro nd) | (go_at_call 150; refine mB (eF.calls (cu (Kd.aW HR0.out bb)) zq.out (ub rP.out) A9.out) ?_; intro U2 hb; replace rP := kb rP hb; replace HB := bz HB hb; clear hb))
    go_meet
    case rel => exact ⟨_, _, rs, H', ⟨JF⟩, ⟨ub rP.out⟩, ⟨bb⟩⟩
  ·
   have H' := ak H; clear H
   have ahM : w4.cell? ⟨zA, 0, none⟩ = some (.string a1) := (aA rP.out 0).trans rfl
   have axu := iG rP.out 0
   go_wp2_with (refine gA Tryz.func96 (kU.calls A5.out) ?_; intro nd)
   go_meet
   case rel => exact ⟨_, _, rs, H', ⟨JF⟩, ⟨ub rP.out⟩, ⟨bb⟩⟩
 case rest =>
  clear QD
  obtain ⟨kq, aem, rfl, HA, HJ2, rP, HB⟩ := hcut
  cases kq with
  | zero => exact zz HA.out
  | succ WX =>
   obtain ⟨H⟩ := HA
   simp only [fP.j0] at H
   replace H := sb H
   rcases H with ⟨rfl, H⟩ | ⟨rfl, H⟩
   ·
    obtain ⟨rfl, rfl⟩ := s2 H
    go_wp2
    go_ret2
    exact ⟨_, er, nx, bb⟩
   ·
    obtain ⟨aEA, ajL⟩ := nm ([] : List ByteArray)
    rw [← ajL.out] at H
    have H' := ak H; clear H
    go_wp2_with (refine gG 22 ?_; refine F8 22 Kd.string 9 ajL ?_; intro aEB Tc Px hb; have aqf := ak (Kd.aG (Kd.oI Px (g := zA) (o := .cells #[.string a1] 9 (0, 0)) (ub rP.out)) (aj bb)); replace rP := kb rP hb; replace HB := bz HB hb; clear hb Px)
    go_loopg [6, 25] WX (fun kq v6 v25 w' => ∃ (CP : List ByteArray) (OM : Int), v25 = .int .i64 OM ∧ ah (fP.l0 kq CP l0 (l0.length : Int) OM a1 = some (r1, r2)) ∧ ah (kq ≤ WX) ∧ ah (Kd.R Kd.string 9 w' w.heap.size (fun k_ => k_ ≠ zA) v6 CP) ∧ ah (w'.heap[zA]? = some (.cells #[.string a1] 9 (0, 0))) ∧ ah (Below w.heap.size w w'))
    case atStart => exact ⟨_, _, rs, H', ⟨Nat.le_refl _⟩, ⟨ur (Kd.aY aqf.out (fun _ hk => hk.2))⟩, ⟨ub rP.out⟩, ⟨bb⟩⟩
    case round =>
     clear H'
     obtain ⟨CP, OM, rfl, HA, HK2, pK, rP, HB⟩ := hrel
     cases gk with
     | zero => exact zz HA.out
     | succ k2 =>
      obtain ⟨H⟩ := HA
      simp only [fP.l0] at H
      replace H := sd H
      rcases H with ⟨AP, H⟩ | ⟨AP, H⟩
      ·
       replace H := oN H; obtain ⟨uQ, H⟩ := H; replace H := oN H; obtain ⟨AQ, H⟩ := H; replace H := nn H; obtain ⟨c19, H⟩ := H
       have BD := eq_true c19
       have Fb := decide_eq_true c19
       try have ajM : (9223372036854775807 < 2 + a1.size) = False := eq_false (Nat.not_lt.2 c19)
       replace H := nl H; obtain ⟨aen, H⟩ := H
       replace H := ny H
       obtain ⟨ael, aqg, H⟩ := H
       replace H := nl H; obtain ⟨Xj, H⟩ := H
       obtain ⟨aEC, ajN⟩ := nm (ael ++ (zy l0 OM))
       rw [← ajN.out] at H
       have H' := ak H; clear H
       have amX := zi OM
       have amY := zj OM l0.length
       obtain ⟨aBD, ayG, ayH, e318, aaF, aaG, aaH⟩ := JG HR0.out OM amX amY
       cases e318
       replace aaF := cl HB.out aaF
       have ahN := ak aaH
       have axv := ak aaG
       clear aaH aaG
       replace amX := eq_true amX
       replace amY := eq_true amY
       have axw : wr.cell? ⟨zA, 0, none⟩ = some (.string a1) := (aA rP.out 0).trans rfl
       have axx := iG rP.out 0
       go_wp2_with (first | ((with_reducible refine dN (b := .append) (xs := #[.tmp 29, .tmp 32]) rfl ?_); (try (refine jJ (by rfl) ?_; dsimp only)); at_builtin; refine Kd.oP Kd.string (w0 := w) w.heap.size rfl (.tmp 29) (.tmp 32) 23 9 (.string ⟨#[]⟩) 16 rfl Tryz.underlying23 info9 rfl (by decide) (by omega) u6 CP ((⟨#[45, 45]⟩ : ByteArray) ++ a1) [.string ((⟨#[45, 45]⟩ : ByteArray) ++ a1)] (fun k_ => k_ ≠ zA) (fun _ => False) rfl rfl ?aP (fun _ hk => hk.elim) ?aF ?aO ?aB ?aS ?aL ?_; (case aP => exact rfl); (case aB => exact bb); (case aF => exact (fun k_ hk => Kd.zF (g := zA) (o := .cells #[.string a1] 9 (0, 0)) (ub rP.out) k_ hk)); (case aO => exact (ur pK.out)); (case aS => exact (aj bb)); (case aL => have := aen.out; omega); intro ayI w23 ho hb hg hat; rw [← aqg.out] at ho; have aeo := ak (ho); replace rP := ak (bM (g := zA) (o := .cells #[.string a1] 9 (0, 0)) (ub rP.out) hg (Kd.Az pK.out (fun _ hk => hk))); replace HB := ak (hb); clear ho hb hg hat pK) | ((with_reducible refine dN (b := .append) (xs := #[.tmp 34, .tmp 35]) rfl ?_); (try (refine jJ (by rfl) ?_; dsimp only)); at_builtin; refine Kd.nP Kd.string (w0 := w) w.heap.size rfl (.tmp 34) (.tmp 35) 23 9 (.string ⟨#[]⟩) 16 rfl Tryz.underlying23 info9 rfl (by decide) (by omega) ayI ael (zy l0 OM) _ _ _ (fun k_ => k_ ≠ zA) (fun _ => False) rfl rfl ?aO ?aR (fun _ _ h => h) (fun _ h => h.elim) ?aF ?aB ?aS ?aL ?_; (case aR => repeat (first | exact (Kd.aW ahN.out HB.out) | (with_reducible refine Kd.pV ?_ _) | (with_reducible refine Kd.pW ?_ _) | (with_reducible refine Kd.sU ?_))); (case aB => exact bb); (case aF => exact (fun k_ hk => Kd.zF (g := zA) (o := .cells #[.string a1] 9 (0, 0)) (ub rP.out) k_ hk)); (case aO => exact (ur aeo.out)); (case aS => exact (aj bb)); (case aL => have := Xj.out; omega); intro aED w24 ho hb hg hat; rw [← ajN.out] at ho; have aqh := ak (ho); replace rP := ak (bM (g := zA) (o := .cells #[.string a1] 9 (0, 0)) (ub rP.out) hg (Kd.Az aeo.out (fun _ hk => hk))); replace HB := ak (hb); clear ho hb hg hat aeo))
       go_roundg k2
       case measure => exact kl
       case rel => exact ⟨_, _, rs, H', ⟨kl⟩, ⟨ur aqh.out⟩, ⟨ub rP.out⟩, ⟨bb⟩⟩
      ·
       replace H := nn H; obtain ⟨c25, H⟩ := H
       have QE := eq_true c25
       have aep := decide_eq_true c25
       try have aqi : (9223372036854775807 < 2 + a1.size) = False := eq_false (Nat.not_lt.2 c25)
       replace H := nn H; obtain ⟨c26, H⟩ := H
       have OO := eq_true c26
       have aaI := decide_eq_true c26
       try have aBE : (9223372036854775807 < 2 + a1.size + 2) = False := by have h_ := (eq_false (Nat.not_lt.2 c26) : (9223372036854775807 < ((⟨#[45, 45]⟩ : ByteArray) ++ a1).size + 2) = False); simp only [ByteArray.size_append] at h_; exact h_
       try have aBF : (9223372036854775807 < ((⟨#[45, 45]⟩ : ByteArray) ++ a1).size + 2) = False := eq_false (Nat.not_lt.2 c26)
       replace H := nl H; obtain ⟨QF, H⟩ := H
       obtain ⟨aEE, ajO⟩ := nm (CP ++ [((⟨#[45, 45]⟩ : ByteArray) ++ a1) ++ (⟨#[45, 45]⟩ : ByteArray)])
       rw [← ajO.out] at H
       obtain ⟨rfl, rfl⟩ := s2 H
       have axy : wr.cell? ⟨zA, 0, none⟩ = some (.string a1) := (aA rP.out 0).trans rfl
       have axz := iG rP.out 0
       go_wp2_with ((with_reducible refine dN (b := .append) (xs := #[.tmp 38, .tmp 42]) rfl ?_); (try (refine jJ (by rfl) ?_; dsimp only)); at_builtin; refine Kd.oP Kd.string (w0 := w) w.heap.size rfl (.tmp 38) (.tmp 42) 23 9 (.string ⟨#[]⟩) 16 rfl Tryz.underlying23 info9 rfl (by decide) (by omega) u6 CP (((⟨#[45, 45]⟩ : ByteArray) ++ a1) ++ (⟨#[45, 45]⟩ : ByteArray)) [.string (((⟨#[45, 45]⟩ : ByteArray) ++ a1) ++ (⟨#[45, 45]⟩ : ByteArray))] (fun k_ => k_ ≠ zA) (fun _ => False) rfl rfl ?aP (fun _ hk => hk.elim) ?aF ?aO ?aB ?aS ?aL ?_; (case aP => exact rfl); (case aB => exact bb); (case aF => exact (fun k_ hk => Kd.zF (g := zA) (o := .cells #[.string a1] 9 (0, 0)) (ub rP.out) k_ hk)); (case aO => exact (ur pK.out)); (case aS => exact (aj bb)); (case aL => have := QF.out; omega); intro aEF w29 ho hb hg hat; rw [← ajO.out] at ho; have aqj := ak (ho); replace rP := ak (bM (g := zA) (o := .cells #[.string a1] 9 (0, 0)) (ub rP.out) hg (Kd.Az pK.out (fun _ hk => hk))); replace HB := ak (hb); clear ho hb hg hat pK)
       go_ret2
       exact ⟨_, er, ur (Kd.aY aqj.out (fun _ hk => trivial)), bb⟩
mutual
def aH.j0 : Nat → Int → List ByteArray → Bool → List (gK) → List ByteArray → List (mV) → Option (List ByteArray × Bool)
 | 0, _, _, _, _, _, _ => none
 | k + 1, x1, x6, x27, JM, A_, zS => if x27 = true then (some (([] : List ByteArray), false)) else (if x6.length < 8796093022208 then ((some (x6 ++ [(⟨#[]⟩ : ByteArray)] : List ByteArray)).bind fun JO => ((lI.f k JM A_ zS).bind fun aaJ => (if aaJ.2 = true then (if (A_.length : Int) > 0 then (aH.j1 k x1 JO aaJ.1 true JM A_ zS) else (if (zS.length : Int) < 1 then (aH.j1 k x1 JO aaJ.1 true JM A_ zS) else (aH.j1 k x1 JO aaJ.1 (decide ((zS.length : Int) > 4)) JM A_ zS))) else (if JO.length + A_.length < 8796093022208 then ((some (JO ++ A_ : List ByteArray)).bind fun amZ => (if (zS.length : Int) = 0 then ((rM.f k A_ 30).bind fun aqk => (some (amZ, aqk))) else (some (amZ, false)))) else (none))))) else (none))
def aH.j1 : Nat → Int → List ByteArray → ByteArray → Bool → List (gK) → List ByteArray → List (mV) → Option (List ByteArray × Bool)
 | 0, _, _, _, _, _, _, _ => none
 | k + 1, x1, x6, x8, x66, JM, A_, zS => if x66 = true then (some (([] : List ByteArray), false)) else (aH.l0 k x1 x6 x8 (([] : List (List ByteArray))) zS (zS.length : Int) 0)
def aH.l0 : Nat → Int → List ByteArray → ByteArray → List (List ByteArray) → List (mV) → Int → Int → Option (List ByteArray × Bool)
 | 0, _, _, _, _, _, _, _ => none
 | k + 1, x1, x6, x8, x10, x69, x70, x71 => if x71 < x70 then (if 0 ≤ x71 then (if x71 < (x69.length : Int) then ((aH.f k ((aN x69 x71).f0) ((aN x69 x71).f1) ((aN x69 x71).f2) (wrap64 (x1 - 1))).bind fun ajP => (if ajP.2 = true then (if x10.length < 5864062014805 then (aH.l0 k x1 x6 x8 (x10 ++ [ajP.1]) x69 x70 (wrap64 (x71 + 1))) else (none)) else (some (([] : List ByteArray), false)))) else (none)) else (none)) else ((fP.f k x10 x8).bind fun aer => (if x6.length + aer.1.length < 8796093022208 then (some ((x6 ++ aer.1), aer.2)) else (none)))
def aH.f : Nat → List (gK) → List ByteArray → List (mV) → Int → Option (List ByteArray × Bool)
 | 0, _, _, _, _ => none
 | k + 1, dG, cO, aC, a1 => (jr.f k dG).bind fun aes => (if aes.2 = true then (aH.j0 k a1 aes.1 (a1 == 0) dG cO aC) else (aH.j0 k a1 aes.1 true dG cO aC))
end
theorem aH.calls (k : Nat) : ∀ (jl : Option Addr) (jm : Nat) (dG : List (gK)) (ji : Option Addr) (jk : Nat) (cO : List ByteArray) (iC : Option Addr) (fM : Nat) (aC : List (mV)) (a1 : Int) (r1 : List ByteArray) (r2 : Bool) (w : World) (mW : Kd.C pU w jl dG.length dG) (mX : dG.length ≤ jm) (mY : Kd.C Kd.string w ji cO.length cO) (mZ : cO.length ≤ jk) (jY : Kd.C k28 w iC aC.length aC) (jZ : aC.length ≤ fM) (CX : MaxOk w) (h : aH.f k dG cO aC a1 = some (r1, r2)),
  Calls Tryz.prog 66 #[.agg #[.slice jl dG.length jm, .slice ji cO.length jk, .slice iC aC.length fM], .int .i64 a1] w fun e w' => ∃ rY : Value, e = .returned (.tuple #[rY, .bool r2]) ∧ Kd.R Kd.string 9 w' w.heap.size (fun _ => True) rY r1 ∧ Below w.heap.size w w' := by
 induction k using Nat.strongRecOn with
 | _ k ih =>
 intro jl jm dG ji jk cO iC fM aC a1 r1 r2 w mW mX mY mZ jY jZ CX h
 cases k with
 | zero => exact absurd h (by simp [aH.f])
 | succ k =>
 simp only [aH.f] at h
 have Et := Tryz.underlying28
 have qE := ak mW
 have qX := ak mX
 clear mW mX
 have uH := ak mY
 have wY := ak mZ
 clear mY mZ
 have jQ := ak jY
 have nC := ak jZ
 clear jY jZ
 have HG := ak CX
 clear CX
 have HB := ak (Below.refl w.heap.size w)
 have H := h
 clear h
 replace H := bd H
 obtain ⟨⟨aeu, aEG⟩, A3, H⟩ := H
 (try dsimp only at H)
 have HC4 := ak H
 clear H
 go_enter Tryz.func66, Tryz.ntmps66
 go_upto_region 2 with (first | (refine gG 2 ?_; refine bX HB 2 #[.slice jl dG.length jm, .slice ji cO.length jk, .slice iC aC.length fM] 28 ?_; intro AU w5 iF aBG hb; replace HB := bs HB hb; clear hb; have z6 := ku iF.out) | (refine gV Tryz.func39 (jr.calls (cu (Kd.aW qE.out HB.out)) qX.out A3.out) ?_; rintro ahO w7 ⟨ho0, hb⟩; have ajR := ak (Kd.aG ho0 (aj bb)); replace iF := kb iF hb; replace HB := bz HB hb; clear hb; (try clear ho0)))
 (try simp only [Act.put, sK, sN, l_c])
 go_cut [27] (fun v27 wc => ∃ (kq : Nat) (aev : Bool), v27 = .bool aev ∧ ah (aH.j0 kq a1 aeu aev dG cO aC = some (r1, r2)) ∧ ah (kq ≤ k) ∧ ah (Kd.R Kd.string 9 wc w.heap.size (fun _ => True) ahO aeu) ∧ ah (wc.heap[AU]? = some (.cells #[(.slice jl dG.length jm), (.slice ji cO.length jk), (.slice iC aC.length fM)] 28 (0, 0))) ∧ ah (Below w.heap.size w wc))
 case first =>
  have H := HC4.out
  clear HC4
  replace H := sb H
  rcases H with ⟨rfl, H⟩ | ⟨rfl, H⟩
  ·
   have H' := ak H; clear H
   go_wp2
   go_meet
   case rel => exact ⟨_, _, rs, H', ⟨JF⟩, ⟨ur ajR.out⟩, ⟨ub iF.out⟩, ⟨bb⟩⟩
  ·
   have H' := ak H; clear H
   go_wp2
   go_meet
   case rel => exact ⟨_, _, rs, H', ⟨JF⟩, ⟨ur ajR.out⟩, ⟨ub iF.out⟩, ⟨bb⟩⟩
 case rest =>
  clear HC4
  obtain ⟨kq, aev, rfl, HA, HJ3, pK, iF, HB⟩ := hcut
  cases kq with
  | zero => exact zz HA.out
  | succ kj3 =>
   obtain ⟨H⟩ := HA
   simp only [aH.j0] at H
   replace H := sb H
   rcases H with ⟨rfl, H⟩ | ⟨rfl, H⟩
   ·
    obtain ⟨rfl, rfl⟩ := s2 H
    go_wp2
    go_ret2
    exact ⟨_, er, nx, bb⟩
   ·
    replace H := nl H; obtain ⟨Xk, H⟩ := H
    replace H := ny H
    obtain ⟨JO, aew, H⟩ := H
    replace H := bd H
    obtain ⟨⟨aqm, aEH⟩, W9, H⟩ := H
    (try dsimp only at H)
    replace H := sb H
    rcases H with ⟨rfl, H⟩ | ⟨rfl, H⟩
    ·
     have am0 := ak H
     clear H
     go_upto_region 8 with (first | ((with_reducible refine dN (b := .append) (xs := #[.tmp 28, .tmp 29]) rfl ?_); (try (refine jJ (by rfl) ?_; dsimp only)); at_builtin; refine Kd.oP Kd.string (w0 := w) w.heap.size rfl (.tmp 28) (.tmp 29) 23 9 (.string ⟨#[]⟩) 16 rfl Tryz.underlying23 info9 rfl (by decide) (by omega) ahO aeu (⟨#[]⟩ : ByteArray) [.string (⟨#[]⟩ : ByteArray)] (fun _ => True) (fun _ => False) rfl rfl ?aP (fun _ hk => hk.elim) ?aF ?aO ?aB ?aS ?aL ?_; (case aP => exact rfl); (case aB => exact bb); (case aF => exact (fun _ _ => trivial)); (case aO => exact (ur pK.out)); (case aS => exact (aj bb)); (case aL => have := Xk.out; omega); intro QG Tc ho hb hg hat; rw [← aew.out] at ho; have wE := ak (ho); replace iF := ak (bM (g := AU) (o := .cells #[.slice jl dG.length jm, .slice ji cO.length jk, .slice iC aC.length fM] 28 (0, 0)) (ub iF.out) hg (Kd.nO pK.out iF.out (by decide))); replace HB := ak (hb); clear ho hb hg hat pK; have OH := ku iF.out) | (refine gB Tryz.func101 (lI.calls (cu (Kd.aW qE.out HB.out)) qX.out (cu (Kd.aW uH.out HB.out)) wY.out (cu (Kd.aW jQ.out HB.out)) nC.out ?rZ W9.out) ?_; (case rZ => first | exact HG.out | exact MaxOk.below HG.out bb | (repeat (first | exact HG.out | apply MaxOk.drewN | apply MaxOk.drew))); intro w16 hb; replace wE := rb wE hb; replace iF := kb iF hb; replace HB := bz HB hb; clear hb))
     (try simp only [Act.put, sK, sN, l_c])
     go_cut [66] (fun v66 wc => ∃ (kq : Nat) (Y0 : Bool), v66 = .bool Y0 ∧ ah (aH.j1 kq a1 JO aqm Y0 dG cO aC = some (r1, r2)) ∧ ah (kq ≤ kj3) ∧ ah (Kd.R Kd.string 9 wc w.heap.size (fun _ => True) QG JO) ∧ ah (wc.heap[AU]? = some (.cells #[(.slice jl dG.length jm), (.slice ji cO.length jk), (.slice iC aC.length fM)] 28 (0, 0))) ∧ ah (Below w.heap.size w wc))
     case first =>
      have H := am0.out
      clear am0
      replace H := sp H
      rcases H with ⟨c17, H⟩ | ⟨c17, H⟩
      ·
       have uQ : decide (0 < (cO.length : Int)) = true := decide_eq_true c17
       have OQ : decide (0 < cO.length) = true := decide_eq_true (by omega)
       clear c17
       (first | rw [uQ] | (simp only [eu, f_]; rw [uQ]) | skip)
       have H' := ak H; clear H
       have z18 := ku iF.out
       go_wp2
       go_meet
       case rel => exact ⟨_, _, rs, H', ⟨kl⟩, ⟨ur wE.out⟩, ⟨ub iF.out⟩, ⟨bb⟩⟩
      ·
       have uQ : decide (0 < (cO.length : Int)) = false := decide_eq_false c17
       have OQ : decide (0 < cO.length) = false := decide_eq_false (by omega)
       clear c17
       (first | rw [uQ] | (simp only [eu, f_]; rw [uQ]) | skip)
       replace H := sp H
       rcases H with ⟨c19, H⟩ | ⟨c19, H⟩
       ·
        have BD := decide_eq_true c19
        have Fb : decide (aC.length < 1) = true := decide_eq_true (by omega)
        clear c19
        have H' := ak H; clear H
        have z20 := ku iF.out
        go_wp2
        go_meet
        case rel => exact ⟨_, _, rs, H', ⟨kl⟩, ⟨ur wE.out⟩, ⟨ub iF.out⟩, ⟨bb⟩⟩
       ·
        have BD := decide_eq_false c19
        have Fb : decide (aC.length < 1) = false := decide_eq_false (by omega)
        clear c19
        have H' := ak H; clear H
        have z21 := ku iF.out
        go_wp2
        go_meet
        case rel => exact ⟨_, _, rs, H', ⟨kl⟩, ⟨ur wE.out⟩, ⟨ub iF.out⟩, ⟨bb⟩⟩
     case rest =>
      clear am0
      obtain ⟨kq, Y0, rfl, HA, aex, pK, iF, HB⟩ := hcut
      cases kq with
      | zero => exact zz HA.out
      | succ aqn =>
       obtain ⟨H⟩ := HA
       simp only [aH.j1] at H
       replace H := sb H
       rcases H with ⟨rfl, H⟩ | ⟨rfl, H⟩
       ·
        obtain ⟨rfl, rfl⟩ := s2 H
        go_wp2
        go_ret2
        exact ⟨_, er, nx, bb⟩
       ·
        obtain ⟨aEI, aey⟩ := nm ([] : List (List ByteArray))
        rw [← aey.out] at H
        have H' := ak H; clear H
        go_wp2_with ((with_reducible refine Xl (N := 67) rfl ?_); (try (refine jJ (by rfl) ?_; dsimp only)); refine Kd.ajS (Kd.slice 9 Kd.string) _ 23 ?hg (N := 67) ?hd (xs := ([] : List (List ByteArray))) (inner := []) (ok := fun _ => True) (xC := fun _ => True) ?hr ?hp (fun _ hk => hk) trivial (Below.refl _ _) (Nat.le_refl _) (by simp) ?_; (case hd => rfl); (case hg => rfl); (case hr => first | (go_simp; done) | (go_simp; rfl)); (case hp => exact (dK.none _ _)); intro aEJ w23 U_ hb CX xJ; clear CX xJ; (first | rw [← aey.out] at U_ | (simp only [Int.reduceToNat] at U_; rw [← aey.out] at U_)); have aqo := ak (Kd.aaK (Kd.aez U_ (Kd.jH (ur pK.out))) (aj bb)); replace pK := rb pK hb; replace iF := kb iF hb; replace HB := bz HB hb; clear hb U_; have z25 := ku iF.out)
        go_loopg [10, 71] aqn (fun kq v10 v71 w' => ∃ (Xm : List (List ByteArray)) (sO : Int), v71 = .int .i64 sO ∧ ah (aH.l0 kq a1 JO aqm Xm aC (aC.length : Int) sO = some (r1, r2)) ∧ ah (kq ≤ aqn) ∧ ah (Kd.R Kd.string 9 w' w.heap.size (fun _ => True) QG JO) ∧ ah (Kd.S (Kd.slice 9 Kd.string) 23 w' w.heap.size (fun k_ => some k_ ≠ (QG : Value).ownBlock) v10 Xm) ∧ ah (w'.heap[AU]? = some (.cells #[(.slice jl dG.length jm), (.slice ji cO.length jk), (.slice iC aC.length fM)] 28 (0, 0))) ∧ ah (Below w.heap.size w w'))
        case atStart => exact ⟨_, _, rs, H', ⟨Nat.le_refl _⟩, ⟨ur pK.out⟩, ⟨by (with_reducible repeat (first | apply Kd.tK | apply Kd.tN | apply Kd.wF)); exact Kd.Eu aqo.out (fun _ hk => hk.2)⟩, ⟨ub iF.out⟩, ⟨bb⟩⟩
        case round =>
         clear H'
         obtain ⟨Xm, sO, rfl, HA, HK3, pK, wZ, iF, HB⟩ := hrel
         cases gk with
         | zero => exact zz HA.out
         | succ k3 =>
          obtain ⟨H⟩ := HA
          simp only [aH.l0] at H
          replace H := sd H
          rcases H with ⟨OO, H⟩ | ⟨OO, H⟩
          ·
           replace H := oN H; obtain ⟨Gf, H⟩ := H; replace H := oN H; obtain ⟨Gg, H⟩ := H; replace H := bd H
           obtain ⟨⟨ac6, aEK⟩, A29, H⟩ := H
           (try dsimp only at H)
           replace H := sb H
           rcases H with ⟨rfl, H⟩ | ⟨rfl, H⟩
           ·
            replace H := nl H; obtain ⟨aeA, H⟩ := H
            obtain ⟨aEL, ajT⟩ := nm (Xm ++ [ac6])
            rw [← ajT.out] at H
            have H' := ak H; clear H
            have Y1 := zi sO
            have Y2 := zj sO aC.length
            obtain ⟨aaL, Nz, NC, ND, NG, NH, NI, e345, JQ, JR, JU, JV, JW, JX, JY, JZ, J3⟩ := zD jQ.out sO Y1 Y2
            cases e345
            replace JQ := cl HB.out JQ
            replace JR := cl HB.out JR
            replace JU := cl HB.out JU
            have Va := ak JW
            have Vb := ak JV
            clear JW JV
            have Vd := ak JY
            have Ve := ak JX
            clear JY JX
            have Vf := ak J3
            have Vg := ak JZ
            clear J3 JZ
            replace Y1 := eq_true Y1
            replace Y2 := eq_true Y2
            go_wp2_with (first | (refine gG 12 ?_; refine bY HB 12 #[.slice none 0 0, .slice none 0 0, .slice none 0 0] 28 ?_; intro OT w32 Fe aqp hg hb; have NJ := Au iF hg; have NK := Aw iF hg; replace pK := rb pK hb; replace wZ := ak (Kd.J4 (by (with_reducible repeat (first | apply Kd.tK | apply Kd.tN | apply Kd.wF)); exact wZ.out) hb); replace iF := kb iF hb; replace HB := bz HB hb; clear hb hg; have aqr := NK.out; have aqs := NJ.out; have z34 := ku Fe.out) | (refine gV Tryz.func66 (ih k3 (by have := HJ3.out; have := aex.out; have := HK3.out; omega) _ _ ((aN aC sO).f0) _ _ ((aN aC sO).f1) _ _ ((aN aC sO).f2) (wrap64 (a1 - 1)) ac6 true _ (Kd.aW Va.out bb) Vb.out (Kd.aW Vd.out bb) Ve.out (Kd.aW Vf.out bb) Vg.out ?rZ A29.out) ?_; (case rZ => first | exact HG.out | exact MaxOk.below HG.out bb | (repeat (first | exact HG.out | apply MaxOk.drewN | apply MaxOk.drew))); rintro ayJ w35 ⟨ho0, hb⟩; have Xn := ak (Kd.aG (Kd.fK ho0 (Kd.jH (rh pK))) (aj bb)); replace pK := ak (Kd.fA (rh pK) (Kd.eH ho0) hb); replace wZ := ak (Kd.Gh (by (with_reducible repeat (first | apply Kd.tK | apply Kd.tN | apply Kd.wF)); exact (Kd.Eu (Kd.TP (p := ⟨OT, 2, none⟩) (Kd.TP (p := ⟨OT, 1, none⟩) (Kd.TP (p := ⟨OT, 0, none⟩) (Kd.Vh wZ.out Fe.out (by decide)) (fun _ hk => hk.2) (.slice Nz ((aN aC sO).f0).length NC)) (fun _ hk => hk.2) (.slice ND ((aN aC sO).f1).length NG)) (fun _ hk => hk.2) (.slice NH ((aN aC sO).f2).length NI)) (fun _ h_ => h_.1))) (Kd.eH ho0) hb); replace iF := kp iF #[.slice jl dG.length jm, .slice ji cO.length jk, .slice (some aaL) aC.length fM] hb; replace Fe := kp Fe #[.slice Nz ((aN aC sO).f0).length NC, .slice ND ((aN aC sO).f1).length NG, .slice NH ((aN aC sO).f2).length NI] hb; replace HB := bz HB hb; clear hb; (try clear ho0); obtain ⟨ahP, ahQ, ac7⟩ := Kd.aX Xn.out; subst ac7) | ((with_reducible refine dN (b := .append) (xs := #[.tmp 84, .tmp 86]) rfl ?_); (try (refine jJ (by rfl) ?_; dsimp only)); at_builtin; refine Kd.Xo (Kd.slice 9 Kd.string) (w0 := w) w.heap.size rfl (.tmp 84) (.tmp 86) 65 23 (.slice none 0 0) 24 rfl Tryz.underlying65 info23 rfl (by decide) (by omega) u10 Xm ac6 [.slice ahP ac6.length ahQ] (fun k_ => some k_ ≠ (QG : Value).ownBlock) (fun k_ => some k_ = (.slice ahP ac6.length ahQ : Value).ownBlock) rfl rfl ?aP (fun k_ hk_ => ((Kd.aY (ok' := fun k_ => ((fun k_ => some k_ ≠ (QG : Value).ownBlock)) k_ ∧ some k_ ≠ (u10 : Value).ownBlock) (Kd.qF (Xn.out) (Kd.Hg wZ.out) (by decide)) (fun k_ hk => ⟨hk.1.2, hk.2⟩))).1 k_ hk_.symm) ?aF ?aO ?aB ?aS ?aL ?_; (case aP => exact Kd.ajU (Kd.aY (Kd.aaM rfl (Kd.aY (ok' := fun k_ => ((fun k_ => some k_ ≠ (QG : Value).ownBlock)) k_ ∧ some k_ ≠ (u10 : Value).ownBlock) (Kd.qF (Xn.out) (Kd.Hg wZ.out) (by decide)) (fun k_ hk => ⟨hk.1.2, hk.2⟩))) (fun _ h_ => h_))); (case aB => exact bb); (case aF => exact (fun k_ hk => Kd.fresh' (Kd.jH (ur pK.out)) k_ hk)); (case aO => exact (by (with_reducible repeat (first | apply Kd.tK | apply Kd.tN | apply Kd.wF)); exact Kd.Eu wZ.out (fun k_ hk => ⟨hk.1, fun e_ => hk.2 e_⟩))); (case aS => exact (aj bb)); (case aL => have := aeA.out; omega); intro aEM w36 ho hb hg hat; rw [← ajT.out] at ho; have aqt := ak (ho); replace pK := ak (Kd.nZ (ur pK.out) (Kd.Hg (by (with_reducible repeat (first | apply Kd.tK | apply Kd.tN | apply Kd.wF)); exact wZ.out)) (by decide) hg); replace iF := ak (bM (g := AU) (o := .cells #[.slice jl dG.length jm, .slice ji cO.length jk, .slice (some aaL) aC.length fM] 28 (0, 0)) (ub iF.out) hg (Kd.ahR wZ.out iF.out (by decide))); replace Fe := ak (bM (g := OT) (o := .cells #[.slice Nz ((aN aC sO).f0).length NC, .slice ND ((aN aC sO).f1).length NG, .slice NH ((aN aC sO).f2).length NI] 28 (0, 0)) (ub Fe.out) hg (Kd.ahR wZ.out Fe.out (by decide))); replace HB := ak (hb); clear ho hb hg hat wZ Xn))
            go_roundg k3
            case measure => have := HJ3.out; have := aex.out; have := HK3.out; omega
            case rel => exact ⟨_, _, rs, H', ⟨by have := HJ3.out; have := aex.out; have := HK3.out; omega⟩, ⟨ur (Kd.aY pK.out (fun _ hk => trivial))⟩, ⟨by (with_reducible repeat (first | apply Kd.tK | apply Kd.tN | apply Kd.wF)); exact aqt.out⟩, ⟨ub iF.out⟩, ⟨bb⟩⟩
           ·
            obtain ⟨rfl, rfl⟩ := s2 H
            have Y1 := zi sO
            have Y2 := zj sO aC.length
            obtain ⟨aaL, Nz, NC, ND, NG, NH, NI, e345, JQ, JR, JU, JV, JW, JX, JY, JZ, J3⟩ := zD jQ.out sO Y1 Y2
            cases e345
            replace JQ := cl HB.out JQ
            replace JR := cl HB.out JR
            replace JU := cl HB.out JU
            have Va := ak JW
            have Vb := ak JV
            clear JW JV
            have Vd := ak JY
            have Ve := ak JX
            clear JY JX
            have Vf := ak J3
            have Vg := ak JZ
            clear J3 JZ
            replace Y1 := eq_true Y1
            replace Y2 := eq_true Y2
            go_wp2_with (first | (refine gG 12 ?_; refine bY HB 12 #[.slice none 0 0, .slice none 0 0, .slice none 0 0] 28 ?_; intro OT w38 Fe aqp hg hb; have NJ := Au iF hg; have NK := Aw iF hg; replace pK := rb pK hb; replace wZ := ak (Kd.J4 (by (with_reducible repeat (first | apply Kd.tK | apply Kd.tN | apply Kd.wF)); exact wZ.out) hb); replace iF := kb iF hb; replace HB := bz HB hb; clear hb hg; have aBH := NK.out; have aBI := NJ.out; have z40 := ku Fe.out) | (refine gV Tryz.func66 (ih k3 (by have := HJ3.out; have := aex.out; have := HK3.out; omega) _ _ ((aN aC sO).f0) _ _ ((aN aC sO).f1) _ _ ((aN aC sO).f2) (wrap64 (a1 - 1)) ac6 false _ (Kd.aW Va.out bb) Vb.out (Kd.aW Vd.out bb) Ve.out (Kd.aW Vf.out bb) Vg.out ?rZ A29.out) ?_; (case rZ => first | exact HG.out | exact MaxOk.below HG.out bb | (repeat (first | exact HG.out | apply MaxOk.drewN | apply MaxOk.drew))); rintro ayJ w41 ⟨ho0, hb⟩; have Xn := ak (Kd.aG (Kd.fK ho0 (Kd.jH (rh pK))) (aj bb)); replace pK := ak (Kd.fA (rh pK) (Kd.eH ho0) hb); replace wZ := ak (Kd.Gh (by (with_reducible repeat (first | apply Kd.tK | apply Kd.tN | apply Kd.wF)); exact (Kd.Eu (Kd.TP (p := ⟨OT, 2, none⟩) (Kd.TP (p := ⟨OT, 1, none⟩) (Kd.TP (p := ⟨OT, 0, none⟩) (Kd.Vh wZ.out Fe.out (by decide)) (fun _ hk => hk.2) (.slice Nz ((aN aC sO).f0).length NC)) (fun _ hk => hk.2) (.slice ND ((aN aC sO).f1).length NG)) (fun _ hk => hk.2) (.slice NH ((aN aC sO).f2).length NI)) (fun _ h_ => h_.1))) (Kd.eH ho0) hb); replace iF := kp iF #[.slice jl dG.length jm, .slice ji cO.length jk, .slice (some aaL) aC.length fM] hb; replace Fe := kp Fe #[.slice Nz ((aN aC sO).f0).length NC, .slice ND ((aN aC sO).f1).length NG, .slice NH ((aN aC sO).f2).length NI] hb; replace HB := bz HB hb; clear hb; (try clear ho0)))
            go_ret2
            exact ⟨_, er, nx, bb⟩
          ·
           replace H := bd H
           obtain ⟨⟨ahS, aEN⟩, A42, H⟩ := H
           (try dsimp only at H)
           replace H := nl H; obtain ⟨aqu, H⟩ := H
           obtain ⟨aEO, ajV⟩ := nm (JO ++ ahS)
           rw [← ajV.out] at H
           obtain ⟨rfl, rfl⟩ := s2 H
           obtain ⟨BF, BG, Xp⟩ := Kd.aaN wZ.out
           subst Xp
           go_wp2_with (first | (refine gV Tryz.func106 (fP.calls (cu ((Kd.J5 wZ.out).2.2)) ((Kd.J5 wZ.out).2.1) A42.out) ?_; rintro aEP w45 ⟨ho0, hb⟩; have Xq := ak (Kd.aG (Kd.fK ho0 (Kd.jH (ur pK.out))) (aj bb)); replace pK := ak (Kd.fA (ur pK.out) (Kd.eH ho0) hb); replace wZ := ak (Kd.Gh (by (with_reducible repeat (first | apply Kd.tK | apply Kd.tN | apply Kd.wF)); exact wZ.out) (Kd.eH ho0) hb); replace iF := kb iF hb; replace HB := bz HB hb; clear hb; (try clear ho0); obtain ⟨am1, am2, ahT⟩ := Kd.aX Xq.out; subst ahT) | ((with_reducible refine dN (b := .append) (xs := #[.tmp 95, .tmp 96]) rfl ?_); (try (refine jJ (by rfl) ?_; dsimp only)); at_builtin; refine Kd.nP Kd.string (w0 := w) w.heap.size rfl (.tmp 95) (.tmp 96) 23 9 (.string ⟨#[]⟩) 16 rfl Tryz.underlying23 info9 rfl (by decide) (by omega) QG JO ahS _ _ _ (fun k_ => some k_ ≠ (.slice am1 ahS.length am2 : Value).ownBlock) (fun _ => False) rfl rfl ?aO ?aR (fun _ _ h => h) (fun _ h => h.elim) ?aF ?aB ?aS ?aL ?_; (case aR => repeat (first | exact (Kd.au Xq.out).2.2 | (with_reducible refine Kd.pV ?_ _) | (with_reducible refine Kd.pW ?_ _) | (with_reducible refine Kd.sU ?_))); (case aB => exact bb); (case aF => exact (fun k_ hk => Kd.fresh' (Kd.jH (ur Xq.out)) k_ hk)); (case aO => exact (ur (Kd.aY pK.out (fun _ hk => hk.2)))); (case aS => exact (aj bb)); (case aL => have := aqu.out; omega); intro aEQ w46 ho hb hg hat; rw [← ajV.out] at ho; have aqv := ak (ho); replace wZ := ak (Kd.aaO (ok := (fun k_ => some k_ ≠ (.slice am1 ahS.length am2 : Value).ownBlock)) (by (with_reducible repeat (first | apply Kd.tK | apply Kd.tN | apply Kd.wF)); exact Kd.Eu wZ.out (fun _ hk => ⟨hk.2, hk.1⟩)) hg hat); replace iF := ak (bM (g := AU) (o := .cells #[.slice jl dG.length jm, .slice ji cO.length jk, .slice iC aC.length fM] 28 (0, 0)) (ub iF.out) hg (Kd.nO pK.out iF.out (by decide))); replace Xq := ak (Kd.qo (ok := (fun _ => True)) (ur Xq.out) hg hat); replace HB := ak (hb); clear ho hb hg hat pK))
           go_ret2
           exact ⟨_, er, ur (Kd.aY aqv.out (fun _ hk => trivial)), bb⟩
    ·
     replace H := nl H; obtain ⟨ajW, H⟩ := H
     replace H := ny H
     obtain ⟨amZ, ajX, H⟩ := H
     replace H := sp H
     rcases H with ⟨c49, H⟩ | ⟨c49, H⟩
     ·
      have aqw := beq_iff_eq.mpr c49
      have aqx := bne_eq_false_iff_eq.mpr c49
      clear c49
      replace H := bd H; obtain ⟨aqk, A50, H⟩ := H
      obtain ⟨rfl, rfl⟩ := s2 H
      try go_wp2_with (first | ((with_reducible refine dN (b := .append) (xs := #[.tmp 28, .tmp 29]) rfl ?_); (try (refine jJ (by rfl) ?_; dsimp only)); at_builtin; refine Kd.oP Kd.string (w0 := w) w.heap.size rfl (.tmp 28) (.tmp 29) 23 9 (.string ⟨#[]⟩) 16 rfl Tryz.underlying23 info9 rfl (by decide) (by omega) ahO aeu (⟨#[]⟩ : ByteArray) [.string (⟨#[]⟩ : ByteArray)] (fun _ => True) (fun _ => False) rfl rfl ?aP (fun _ hk => hk.elim) ?aF ?aO ?aB ?aS ?aL ?_; (case aP => exact rfl); (case aB => exact bb); (case aF => exact (fun _ _ => trivial)); (case aO => exact (ur pK.out)); (case aS => exact (aj bb)); (case aL => have := Xk.out; omega); intro QG w51 ho hb hg hat; rw [← aew.out] at ho; have wE := ak (ho); replace iF := ak (bM (g := AU) (o := .cells #[.slice jl dG.length jm, .slice ji cO.length jk, .slice iC aC.length fM] 28 (0, 0)) (ub iF.out) hg (Kd.nO pK.out iF.out (by decide))); replace HB := ak (hb); clear ho hb hg hat pK; have z52 := ku iF.out) | (refine gB Tryz.func101 (lI.calls (cu (Kd.aW qE.out HB.out)) qX.out (cu (Kd.aW uH.out HB.out)) wY.out (cu (Kd.aW jQ.out HB.out)) nC.out ?rZ W9.out) ?_; (case rZ => first | exact HG.out | exact MaxOk.below HG.out bb | (repeat (first | exact HG.out | apply MaxOk.drewN | apply MaxOk.drew))); intro w53 hb; replace wE := rb wE hb; replace iF := kb iF hb; replace HB := bz HB hb; clear hb))
      replace wE := ak (Kd.jX wE.out)
      replace iF := ak (bH iF.out)
      replace HB := ak (iy HB.out)
      refine ro [3, 11] [0, 1, 4, 2, 5, 6, 7, 3, 8, 9, 10, 11, 12, 13, 14] (fun w' => w'.cell? ⟨AU, 0, none⟩ = some (.slice jl dG.length jm) ∧ w'.cell? ⟨AU, 1, none⟩ = some (.slice ji cO.length jk) ∧ w'.cell? ⟨AU, 2, none⟩ = some (.slice iC aC.length fM)) ⟨(aA iF.out 0).trans rfl, (aA iF.out 1).trans rfl, (aA iF.out 2).trans rfl⟩ ?_
      generalize w53.drew = w54 at wE iF HB ⊢
      repeat refine yS ?_
      refine ld (N := some 41) (gk.trans rfl) rfl rfl (fun K hK => ?_)
      refine Kd.uX Kd.string (w0 := w) w.heap.size (by rfl) (.tmp 38) (.tmp 40) 23 9 (.string ⟨#[]⟩) 16 rfl Tryz.underlying23 info9 rfl (by decide) (by omega) QG JO cO _ _ _ (fun _ => True) (fun _ => False) rfl rfl ?aO ?aR (fun _ _ h => h) (fun _ h => h.elim) ?aF ?aB ?aS ?aL ?_
      (case aR => repeat (first | exact (Kd.aW uH.out HB.out) | (with_reducible refine Kd.pV ?_ _) | (with_reducible refine Kd.pW ?_ _) | (with_reducible refine Kd.sU ?_)))
      (case aB => exact bb)
      (case aF => exact (fun _ _ => trivial))
      (case aO => exact (ur wE.out))
      (case aS => exact (aj bb))
      (case aL => have := ajW.out; omega)
      intro ayK w55 ho hb hg hat
      rw [← ajX.out] at ho
      have xK := ak (bM (g := AU) (o := .cells #[.slice jl dG.length jm, .slice ji cO.length jk, .slice iC aC.length fM] 28 (0, 0)) (ub iF.out) hg (Kd.nO wE.out iF.out (by decide)))
      have xM := ak (hb)
      have yC := ak (ho)
      clear iF HB wE
      have iF := xK
      have HB := xM
      have aeB := yC
      clear xK xM yC ho hb hg hat
      refine hK.out _ _ ⟨(aA iF.out 0).trans rfl, (aA iF.out 1).trans rfl, (aA iF.out 2).trans rfl⟩ ?_
      clear hK K
      refine no (a' := ?_) ?_ ?_
      rotate_left
      ·
       show Act.put _ (some 41) _ = _
       simp only [Act.put, sK, sN, l_c, eu, f_]
       rfl
      repeat refine yS ?_
      refine rA Tryz.func105 (rM.calls (cu (Kd.aW uH.out HB.out)) wY.out A50.out) ?_
      intro nd
      refine ⟨sx, ?_⟩
      repeat refine yS ?_
      refine on ?_
      try go_wp2
      go_ret2
      exact ⟨_, er, ur aeB.out, bb⟩
     ·
      have aqw := beq_eq_false_iff_ne.mpr c49
      have aqx := bne_iff_ne.mpr c49
      have aBJ : ¬ (aC = []) := fun h_ => c49 (by rw [h_]; rfl)
      obtain ⟨rfl, rfl⟩ := s2 H
      try go_wp2_with (first | ((with_reducible refine dN (b := .append) (xs := #[.tmp 28, .tmp 29]) rfl ?_); (try (refine jJ (by rfl) ?_; dsimp only)); at_builtin; refine Kd.oP Kd.string (w0 := w) w.heap.size rfl (.tmp 28) (.tmp 29) 23 9 (.string ⟨#[]⟩) 16 rfl Tryz.underlying23 info9 rfl (by decide) (by omega) ahO aeu (⟨#[]⟩ : ByteArray) [.string (⟨#[]⟩ : ByteArray)] (fun _ => True) (fun _ => False) rfl rfl ?aP (fun _ hk => hk.elim) ?aF ?aO ?aB ?aS ?aL ?_; (case aP => exact rfl); (case aB => exact bb); (case aF => exact (fun _ _ => trivial)); (case aO => exact (ur pK.out)); (case aS => exact (aj bb)); (case aL => have := Xk.out; omega); intro QG w56 ho hb hg hat; rw [← aew.out] at ho; have wE := ak (ho); replace iF := ak (bM (g := AU) (o := .cells #[.slice jl dG.length jm, .slice ji cO.length jk, .slice iC aC.length fM] 28 (0, 0)) (ub iF.out) hg (Kd.nO pK.out iF.out (by decide))); replace HB := ak (hb); clear ho hb hg hat pK; have z57 := ku iF.out) | (refine gB Tryz.func101 (lI.calls (cu (Kd.aW qE.out HB.out)) qX.out (cu (Kd.aW uH.out HB.out)) wY.out (cu (Kd.aW jQ.out HB.out)) nC.out ?rZ W9.out) ?_; (case rZ => first | exact HG.out | exact MaxOk.below HG.out bb | (repeat (first | exact HG.out | apply MaxOk.drewN | apply MaxOk.drew))); intro w58 hb; replace wE := rb wE hb; replace iF := kb iF hb; replace HB := bz HB hb; clear hb))
      replace wE := ak (Kd.jX wE.out)
      replace iF := ak (bH iF.out)
      replace HB := ak (iy HB.out)
      refine ro [3] [0, 1, 4, 2, 5, 6, 7, 3, 8, 9, 10, 11, 12, 13, 14] (fun w' => w'.cell? ⟨AU, 0, none⟩ = some (.slice jl dG.length jm) ∧ w'.cell? ⟨AU, 1, none⟩ = some (.slice ji cO.length jk) ∧ w'.cell? ⟨AU, 2, none⟩ = some (.slice iC aC.length fM)) ⟨(aA iF.out 0).trans rfl, (aA iF.out 1).trans rfl, (aA iF.out 2).trans rfl⟩ ?_
      generalize w58.drew = w59 at wE iF HB ⊢
      repeat (first | refine yS ?_ | refine P_ ?_)
      refine ld (N := some 41) (gk.trans rfl) rfl rfl (fun K hK => ?_)
      refine Kd.uX Kd.string (w0 := w) w.heap.size (by rfl) (.tmp 38) (.tmp 40) 23 9 (.string ⟨#[]⟩) 16 rfl Tryz.underlying23 info9 rfl (by decide) (by omega) QG JO cO _ _ _ (fun _ => True) (fun _ => False) rfl rfl ?aO ?aR (fun _ _ h => h) (fun _ h => h.elim) ?aF ?aB ?aS ?aL ?_
      (case aR => repeat (first | exact (Kd.aW uH.out HB.out) | (with_reducible refine Kd.pV ?_ _) | (with_reducible refine Kd.pW ?_ _) | (with_reducible refine Kd.sU ?_)))
      (case aB => exact bb)
      (case aF => exact (fun _ _ => trivial))
      (case aO => exact (ur wE.out))
      (case aS => exact (aj bb))
      (case aL => have := ajW.out; omega)
      intro ayK J6 ho hb hg hat
      rw [← ajX.out] at ho
      have xK := ak (bM (g := AU) (o := .cells #[.slice jl dG.length jm, .slice ji cO.length jk, .slice iC aC.length fM] 28 (0, 0)) (ub iF.out) hg (Kd.nO wE.out iF.out (by decide)))
      have xM := ak (hb)
      have yC := ak (ho)
      clear iF HB wE
      have iF := xK
      have HB := xM
      have aeB := yC
      clear xK xM yC ho hb hg hat
      refine hK.out _ _ ⟨(aA iF.out 0).trans rfl, (aA iF.out 1).trans rfl, (aA iF.out 2).trans rfl⟩ ?_
      clear hK K
      refine no (a' := ?_) ?_ ?_
      rotate_left
      ·
       show Act.put _ (some 41) _ = _
       simp only [Act.put, sK, sN, l_c, eu, f_]
       rfl
      repeat (first | refine yS ?_ | refine P_ ?_)
      refine on ?_
      try go_wp2
      go_ret2
      exact ⟨_, er, ur aeB.out, bb⟩
def kF.f (k : Nat) (dG : List (gK)) (cO : List ByteArray) (aC : List (mV)) : Option (Bool) := (aH.f k dG cO aC 3).bind fun aqy => (some aqy.2)
theorem kF.calls {k jm jk fM : Nat} {jl ji iC : Option Addr} {dG : List (gK)} {cO : List ByteArray} {aC : List (mV)} {r : Bool} {w : World} (mW : Kd.C pU w jl dG.length dG) (mX : dG.length ≤ jm) (mY : Kd.C Kd.string w ji cO.length cO) (mZ : cO.length ≤ jk) (jY : Kd.C k28 w iC aC.length aC) (jZ : aC.length ≤ fM) (CX : MaxOk w) (h : kF.f k dG cO aC = some r) :
  Calls Tryz.prog 26 #[.agg #[.slice jl dG.length jm, .slice ji cO.length jk, .slice iC aC.length fM]] w fun e w' => e = .returned (.bool r) ∧ Below w.heap.size w w' := by
 have Et := Tryz.underlying28
 have qE := ak mW
 have qX := ak mX
 clear mW mX
 have uH := ak mY
 have wY := ak mZ
 clear mY mZ
 have jQ := ak jY
 have nC := ak jZ
 clear jY jZ
 have HG := ak CX
 clear CX
 have HB := ak (Below.refl w.heap.size w)
 unfold kF.f at h; have H := h
 clear h
 replace H := bd H
 obtain ⟨⟨ayL, ayM⟩, A2, H⟩ := H
 (try dsimp only at H)
 obtain rfl := s1 H
 go_enter Tryz.func26, Tryz.ntmps26
 go_wp2_with (first | (refine bX HB 1 #[.slice jl dG.length jm, .slice ji cO.length jk, .slice iC aC.length fM] 28 ?_; intro aBK w3 aeC aBL hb; replace HB := bs HB hb; clear hb; have z4 := ku aeC.out) | (refine gV Tryz.func66 (aH.calls k _ _ dG _ _ cO _ _ aC 3 ayL ayM _ (cu (Kd.aW qE.out HB.out)) qX.out (cu (Kd.aW uH.out HB.out)) wY.out (cu (Kd.aW jQ.out HB.out)) nC.out ?rZ A2.out) ?_; (case rZ => first | exact HG.out | exact MaxOk.below HG.out bb | (repeat (first | exact HG.out | apply MaxOk.drewN | apply MaxOk.drew))); rintro aER w5 ⟨ho0, hb⟩; have aBM := ak (Kd.aG ho0 (aj bb)); replace aeC := kb aeC hb; replace HB := bz HB hb; clear hb; (try clear ho0)))
 go_ret
 exact ⟨er, bb⟩
mutual
def bQ.j0 : Nat → Int → Bool → List (gK) → List ByteArray → List (mV) → Option (Bool)
 | 0, _, _, _, _, _ => none
 | k + 1, x1, x17, y7, xU, qL => if x17 = true then (some false) else ((kV.f k y7).bind fun abk => (if abk.2 = true then (if (xU.length : Int) > 0 then (bQ.j1 k x1 abk.1 true y7 xU qL) else (if (qL.length : Int) < 1 then (bQ.j1 k x1 abk.1 true y7 xU qL) else (bQ.j1 k x1 abk.1 (decide ((qL.length : Int) > 4)) y7 xU qL))) else (if (qL.length : Int) = 0 then ((iR.f k xU).bind fun asD => (some asD)) else (some false))))
def bQ.j1 : Nat → Int → ByteArray → Bool → List (gK) → List ByteArray → List (mV) → Option (Bool)
 | 0, _, _, _, _, _, _ => none
 | k + 1, x1, x5, x50, y7, xU, qL => if x50 = true then (some false) else (bQ.l0 k x1 x5 0 y7 xU qL)
def bQ.l0 : Nat → Int → ByteArray → Int → List (gK) → List ByteArray → List (mV) → Option (Bool)
 | 0, _, _, _, _, _, _ => none
 | k + 1, x1, x5, x7, y7, xU, qL => if x7 < (qL.length : Int) then (if 0 ≤ x7 then ((bQ.f k ((aN qL x7).f0) ((aN qL x7).f1) ((aN qL x7).f2) (wrap64 (x1 - 1))).bind fun asE => (if asE = true then ((jF.f k ((aN qL x7).f0) ((aN qL x7).f1) ((aN qL x7).f2)).bind fun Zo => (bQ.l1 k x1 x5 x7 Zo 0 y7 xU qL)) else (some false))) else (none)) else (some true)
def bQ.l1 : Nat → Int → ByteArray → Int → List ByteArray → Int → List (gK) → List ByteArray → List (mV) → Option (Bool)
 | 0, _, _, _, _, _, _, _, _ => none
 | k + 1, x1, x5, x7, x8, x9, y7, xU, qL => if x9 < (x8.length : Int) then (if 0 ≤ x9 then ((oQ.f (qg ByteArray.empty x8 x9) x5).bind fun asF => (if asF = true then (some false) else (bQ.l1 k x1 x5 x7 x8 (wrap64 (x9 + 1)) y7 xU qL))) else (none)) else (bQ.l0 k x1 x5 (wrap64 (x7 + 1)) y7 xU qL)
def bQ.f : Nat → List (gK) → List ByteArray → List (mV) → Int → Option (Bool)
 | 0, _, _, _, _ => none
 | k + 1, dG, cO, aC, a1 => (gW.f k dG).bind fun asG => (if asG = true then (bQ.j0 k a1 (decide (a1 < 1)) dG cO aC) else (bQ.j0 k a1 true dG cO aC))
end
theorem bQ.calls (k : Nat) : ∀ (jl : Option Addr) (jm : Nat) (dG : List (gK)) (ji : Option Addr) (jk : Nat) (cO : List ByteArray) (iC : Option Addr) (fM : Nat) (aC : List (mV)) (a1 : Int) (r : Bool) (w : World) (mW : Kd.C pU w jl dG.length dG) (mX : dG.length ≤ jm) (mY : Kd.C Kd.string w ji cO.length cO) (mZ : cO.length ≤ jk) (jY : Kd.C k28 w iC aC.length aC) (jZ : aC.length ≤ fM) (h : bQ.f k dG cO aC a1 = some r),
  Calls Tryz.prog 72 #[.agg #[.slice jl dG.length jm, .slice ji cO.length jk, .slice iC aC.length fM], .int .i64 a1] w fun e w' => e = .returned (.bool r) ∧ Below w.heap.size w w' := by
 induction k using Nat.strongRecOn with
 | _ k ih =>
 intro jl jm dG ji jk cO iC fM aC a1 r w mW mX mY mZ jY jZ h
 cases k with
 | zero => exact absurd h (by simp [bQ.f])
 | succ k =>
 simp only [bQ.f] at h
 have Et := Tryz.underlying28
 have qE := ak mW
 have qX := ak mX
 clear mW mX
 have uH := ak mY
 have wY := ak mZ
 clear mY mZ
 have jQ := ak jY
 have nC := ak jZ
 clear jY jZ
 have HB := ak (Below.refl w.heap.size w)
 have H := h
 clear h
 have QD := ak H
 clear H
 go_enter Tryz.func72, Tryz.ntmps72
 go_upto_region 1 with (refine gG 2 ?_; refine bX HB 2 #[.slice jl dG.length jm, .slice ji cO.length jk, .slice iC aC.length fM] 28 ?_; intro abl w4 nU aCj hb; replace HB := bs HB hb; clear hb)
 (try simp only [Act.put, sK, sN, l_c])
 go_cut [17] (fun v17 wc => ∃ (kq : Nat) (QU : Bool), v17 = .bool QU ∧ ah (bQ.j0 kq a1 QU dG cO aC = some r) ∧ ah (kq ≤ k) ∧ ah (wc.heap[abl]? = some (.cells #[(.slice jl dG.length jm), (.slice ji cO.length jk), (.slice iC aC.length fM)] 28 (0, 0))) ∧ ah (Below w.heap.size w wc))
 case first =>
  have H := QD.out
  clear QD
  replace H := bd H; obtain ⟨asG, A5, H⟩ := H; replace H := sb H
  rcases H with ⟨rfl, H⟩ | ⟨rfl, H⟩
  ·
   have H' := ak H; clear H
   have z7 := ku nU.out
   go_wp2_with (refine gB Tryz.func113 (gW.calls (cu (Kd.aW qE.out HB.out)) qX.out A5.out) ?_; intro w8 hb; replace nU := kb nU hb; replace HB := bz HB hb; clear hb)
   go_meet
   case rel => exact ⟨_, _, rs, H', ⟨JF⟩, ⟨ub nU.out⟩, ⟨bb⟩⟩
  ·
   have H' := ak H; clear H
   have z9 := ku nU.out
   go_wp2_with (refine gB Tryz.func113 (gW.calls (cu (Kd.aW qE.out HB.out)) qX.out A5.out) ?_; intro w10 hb; replace nU := kb nU hb; replace HB := bz HB hb; clear hb)
   go_meet
   case rel => exact ⟨_, _, rs, H', ⟨JF⟩, ⟨ub nU.out⟩, ⟨bb⟩⟩
 case rest =>
  clear QD
  obtain ⟨kq, QU, rfl, HA, HJ2, nU, HB⟩ := hcut
  cases kq with
  | zero => exact zz HA.out
  | succ WX =>
   obtain ⟨H⟩ := HA
   simp only [bQ.j0] at H
   replace H := sb H
   rcases H with ⟨rfl, H⟩ | ⟨rfl, H⟩
   ·
    obtain rfl := s1 H
    go_wp2
    go_ret
    exact ⟨er, bb⟩
   ·
    replace H := bd H
    obtain ⟨⟨anP, aGa⟩, A12, H⟩ := H
    (try dsimp only at H)
    replace H := sb H
    rcases H with ⟨rfl, H⟩ | ⟨rfl, H⟩
    ·
     have anQ := ak H
     clear H
     have OH := ku nU.out
     go_upto_region 6 with (refine gB Tryz.func108 (kV.calls (cu (Kd.aW qE.out HB.out)) qX.out A12.out) ?_; intro w16 hb; replace nU := kb nU hb; replace HB := bz HB hb; clear hb)
     (try simp only [Act.put, sK, sN, l_c])
     go_cut [50] (fun v50 wc => ∃ (kq : Nat) (Zp : Bool), v50 = .bool Zp ∧ ah (bQ.j1 kq a1 anP Zp dG cO aC = some r) ∧ ah (kq ≤ WX) ∧ ah (wc.heap[abl]? = some (.cells #[(.slice jl dG.length jm), (.slice ji cO.length jk), (.slice iC aC.length fM)] 28 (0, 0))) ∧ ah (Below w.heap.size w wc))
     case first =>
      have H := anQ.out
      clear anQ
      replace H := sp H
      rcases H with ⟨c17, H⟩ | ⟨c17, H⟩
      ·
       have uQ : decide (0 < (cO.length : Int)) = true := decide_eq_true c17
       have OQ : decide (0 < cO.length) = true := decide_eq_true (by omega)
       clear c17
       (first | rw [uQ] | (simp only [eu, f_]; rw [uQ]) | skip)
       have H' := ak H; clear H
       have z18 := ku nU.out
       go_wp2
       go_meet
       case rel => exact ⟨_, _, rs, H', ⟨kl⟩, ⟨ub nU.out⟩, ⟨bb⟩⟩
      ·
       have uQ : decide (0 < (cO.length : Int)) = false := decide_eq_false c17
       have OQ : decide (0 < cO.length) = false := decide_eq_false (by omega)
       clear c17
       (first | rw [uQ] | (simp only [eu, f_]; rw [uQ]) | skip)
       replace H := sp H
       rcases H with ⟨c19, H⟩ | ⟨c19, H⟩
       ·
        have BD := decide_eq_true c19
        have Fb : decide (aC.length < 1) = true := decide_eq_true (by omega)
        clear c19
        have H' := ak H; clear H
        have z20 := ku nU.out
        go_wp2
        go_meet
        case rel => exact ⟨_, _, rs, H', ⟨kl⟩, ⟨ub nU.out⟩, ⟨bb⟩⟩
       ·
        have BD := decide_eq_false c19
        have Fb : decide (aC.length < 1) = false := decide_eq_false (by omega)
        clear c19
        have H' := ak H; clear H
        have z21 := ku nU.out
        go_wp2
        go_meet
        case rel => exact ⟨_, _, rs, H', ⟨kl⟩, ⟨ub nU.out⟩, ⟨bb⟩⟩
     case rest =>
      clear anQ
      obtain ⟨kq, Zp, rfl, HA, adg, nU, HB⟩ := hcut
      cases kq with
      | zero => exact zz HA.out
      | succ asH =>
       obtain ⟨H⟩ := HA
       simp only [bQ.j1] at H
       replace H := sb H
       rcases H with ⟨rfl, H⟩ | ⟨rfl, H⟩
       ·
        obtain rfl := s1 H
        go_wp2
        go_ret
        exact ⟨er, bb⟩
       ·
        have H' := ak H; clear H
        go_wp2
        go_loopg [7] asH (fun kq v7 w' => ∃ (qW : Int), v7 = .int .i64 qW ∧ ah (bQ.l0 kq a1 anP qW dG cO aC = some r) ∧ ah (kq ≤ asH) ∧ ah (w'.heap[abl]? = some (.cells #[(.slice jl dG.length jm), (.slice ji cO.length jk), (.slice iC aC.length fM)] 28 (0, 0))) ∧ ah (Below w.heap.size w w'))
        case atStart => exact ⟨_, rs, H', ⟨Nat.le_refl _⟩, ⟨ub nU.out⟩, ⟨bb⟩⟩
        case round =>
         clear H'
         obtain ⟨qW, rfl, HA, HK3, nU, HB⟩ := hrel
         cases gk with
         | zero => exact zz HA.out
         | succ k3 =>
          obtain ⟨H⟩ := HA
          simp only [bQ.l0] at H
          replace H := sd H
          rcases H with ⟨BI, H⟩ | ⟨BI, H⟩
          ·
           replace H := oN H; obtain ⟨QK, H⟩ := H; replace H := bd H; obtain ⟨asE, A25, H⟩ := H; replace H := sb H
           rcases H with ⟨rfl, H⟩ | ⟨rfl, H⟩
           ·
            replace H := bd H; obtain ⟨Zo, A27, H⟩ := H
            have H' := ak H; clear H
            have ajt := ku nU.out
            have XK := zi qW
            have XL := zj qW aC.length
            obtain ⟨ae2, anR, anS, anT, anU, anV, anW, anX, Hq, Hr, Ht, KF, KG, KH, KI, KJ, KL⟩ := zD jQ.out qW XK XL
            cases anX
            replace Hq := cl HB.out Hq
            replace Hr := cl HB.out Hr
            replace Ht := cl HB.out Ht
            have Vz := ak KG
            have VA := ak KF
            clear KG KF
            have VB := ak KI
            have VD := ak KH
            clear KI KH
            have VE := ak KL
            have VF := ak KJ
            clear KL KJ
            replace XK := eq_true XK
            replace XL := eq_true XL
            go_wp2_with (first | (refine gB Tryz.func72 (ih k3 (by have := HJ2.out; have := adg.out; have := HK3.out; omega) _ _ ((aN aC qW).f0) _ _ ((aN aC qW).f1) _ _ ((aN aC qW).f2) (wrap64 (a1 - 1)) true _ (cu (Kd.aW Vz.out HB.out)) VA.out (cu (Kd.aW VB.out HB.out)) VD.out (cu (Kd.aW VE.out HB.out)) VF.out A25.out) ?_; intro w29 hb; replace nU := kb nU hb; replace HB := bz HB hb; clear hb; have z30 := ku nU.out; have aic : 0 ≤ (qW : Int) := of_decide_eq_true (by assumption); have aie : qW < (aC.length : Int) := of_decide_eq_true (by assumption); obtain ⟨asI, aze, azf, azg, azh, azi, azj, azk, Qe, Qg, Qh, abm, abn, abo, abp, abq, abr⟩ := zD jQ.out qW aic aie; obtain rfl : ae2 = asI := (by injection azk); replace Qe := (HB.out.cell (World.block_lt_of_cell? w _ Qe)).trans Qe; replace Qg := (HB.out.cell (World.block_lt_of_cell? w _ Qg)).trans Qg; replace Qh := (HB.out.cell (World.block_lt_of_cell? w _ Qh)).trans Qh; have aif := ak abn; have aii := ak abm; clear abn abm; have aij := ak abp; have aik := ak abo; clear abp abo; have ail := ak abr; have ain := ak abq; clear abr abq; replace aic := eq_true aic; replace aie := eq_true aie) | (refine gV Tryz.func67 (jF.calls k3 _ _ ((aN aC qW).f0) _ _ ((aN aC qW).f1) _ _ ((aN aC qW).f2) Zo _ (cu (Kd.aW aif.out HB.out)) aii.out (cu (Kd.aW aij.out HB.out)) aik.out (cu (Kd.aW ail.out HB.out)) ain.out A27.out) ?_; rintro azl w31 ⟨ho0, hb⟩; have asJ := ak (Kd.aG ho0 (aj bb)); replace nU := kb nU hb; replace HB := bz HB hb; clear hb; (try clear ho0)))
            go_loopg [9] k3 (fun kq v9 w' => ∃ (VG : Int), v9 = .int .i64 VG ∧ ah (bQ.l1 kq a1 anP qW Zo VG dG cO aC = some r) ∧ ah (kq ≤ k3) ∧ ah (Kd.R Kd.string 9 w' w.heap.size (fun _ => True) azl Zo) ∧ ah (w'.heap[abl]? = some (.cells #[(.slice jl dG.length jm), (.slice ji cO.length jk), (.slice (some ae2) aC.length fM)] 28 (0, 0))) ∧ ah (Below w.heap.size w w'))
            case atStart => exact ⟨_, rs, H', ⟨Nat.le_refl _⟩, ⟨ur asJ.out⟩, ⟨ub nU.out⟩, ⟨bb⟩⟩
            case round =>
             clear H'
             try clear BI
             try clear QK
             try clear Hq
             try clear Hr
             try clear Ht
             try clear Qe
             try clear Qg
             try clear Qh
             try clear XK
             try clear aic
             try clear XL
             try clear aie
             obtain ⟨VG, rfl, HA, HK4, adh, nU, HB⟩ := hrel
             cases gk with
             | zero => exact zz HA.out
             | succ k4 =>
              obtain ⟨H⟩ := HA
              simp only [bQ.l1] at H
              replace H := sd H
              rcases H with ⟨Xz, H⟩ | ⟨Xz, H⟩
              ·
               replace H := oN H; obtain ⟨OW, H⟩ := H; replace H := bd H; obtain ⟨asF, A34, H⟩ := H; replace H := sb H
               rcases H with ⟨rfl, H⟩ | ⟨rfl, H⟩
               ·
                obtain rfl := s1 H
                obtain ⟨asK, asL, anY⟩ := Kd.aX adh.out
                subst anY
                have Zq := zi VG
                have Zr := zj VG Zo.length
                obtain ⟨asM, anZ, aio⟩ := Kd.jI (Kd.au adh.out).2.2 VG Zq Zr
                cases anZ
                replace Zq := eq_true Zq
                replace Zr := eq_true Zr
                go_wp2_with (refine gA Tryz.func115 (oQ.calls A34.out) ?_; intro nd)
                go_ret
                exact ⟨er, bb⟩
               ·
                have H' := ak H; clear H
                obtain ⟨ahP, ahQ, ac7⟩ := Kd.aX adh.out
                subst ac7
                have Zq := zi VG
                have Zr := zj VG Zo.length
                obtain ⟨asM, anZ, aio⟩ := Kd.jI (Kd.au adh.out).2.2 VG Zq Zr
                cases anZ
                replace Zq := eq_true Zq
                replace Zr := eq_true Zr
                go_wp2_with (refine gA Tryz.func115 (oQ.calls A34.out) ?_; intro nd)
                go_roundg k4
                case measure => have := HJ2.out; have := adg.out; have := HK3.out; have := HK4.out; omega
                case rel => exact ⟨_, rs, H', ⟨by have := HJ2.out; have := adg.out; have := HK3.out; have := HK4.out; omega⟩, ⟨ur adh.out⟩, ⟨ub nU.out⟩, ⟨bb⟩⟩
              ·
               have H' := ak H; clear H
               obtain ⟨aGb, aGc, azm⟩ := Kd.aX adh.out
               subst azm
               go_wp2
               go_roundg k4
               case measure => have := HJ2.out; have := adg.out; have := HK3.out; have := HK4.out; omega
               case rel => exact ⟨_, rs, H', ⟨by have := HJ2.out; have := adg.out; have := HK3.out; have := HK4.out; omega⟩, ⟨ub nU.out⟩, ⟨bb⟩⟩
           ·
            obtain rfl := s1 H
            have z39 := ku nU.out
            have XK := zi qW
            have XL := zj qW aC.length
            obtain ⟨ae2, anR, anS, anT, anU, anV, anW, anX, Hq, Hr, Ht, KF, KG, KH, KI, KJ, KL⟩ := zD jQ.out qW XK XL
            cases anX
            replace Hq := cl HB.out Hq
            replace Hr := cl HB.out Hr
            replace Ht := cl HB.out Ht
            have Vz := ak KG
            have VA := ak KF
            clear KG KF
            have VB := ak KI
            have VD := ak KH
            clear KI KH
            have VE := ak KL
            have VF := ak KJ
            clear KL KJ
            replace XK := eq_true XK
            replace XL := eq_true XL
            go_wp2_with (refine gB Tryz.func72 (ih k3 (by have := HJ2.out; have := adg.out; have := HK3.out; omega) _ _ ((aN aC qW).f0) _ _ ((aN aC qW).f1) _ _ ((aN aC qW).f2) (wrap64 (a1 - 1)) false _ (cu (Kd.aW Vz.out HB.out)) VA.out (cu (Kd.aW VB.out HB.out)) VD.out (cu (Kd.aW VE.out HB.out)) VF.out A25.out) ?_; intro w40 hb; replace nU := kb nU hb; replace HB := bz HB hb; clear hb)
            go_ret
            exact ⟨er, bb⟩
          ·
           obtain rfl := s1 H
           have ajD := ku nU.out
           go_wp2
           go_ret
           exact ⟨er, bb⟩
    ·
     replace H := sp H
     rcases H with ⟨c42, H⟩ | ⟨c42, H⟩
     ·
      have asN := beq_iff_eq.mpr c42
      have asO := bne_eq_false_iff_eq.mpr c42
      clear c42
      replace H := bd H; obtain ⟨asD, A43, H⟩ := H
      obtain rfl := s1 H
      have apC := ku nU.out
      go_wp2_with (first | (refine gB Tryz.func108 (kV.calls (cu (Kd.aW qE.out HB.out)) qX.out A12.out) ?_; intro w45 hb; replace nU := kb nU hb; replace HB := bz HB hb; clear hb; have z46 := ku nU.out) | (go_at_call 114; refine mA (iR.calls (cu (Kd.aW uH.out HB.out)) wY.out A43.out) ?_; intro nd))
      go_ret
      exact ⟨er, bb⟩
     ·
      have asN := beq_eq_false_iff_ne.mpr c42
      have asO := bne_iff_ne.mpr c42
      have aCk : ¬ (aC = []) := fun h_ => c42 (by rw [h_]; rfl)
      obtain rfl := s1 H
      have z47 := ku nU.out
      go_wp2_with (refine gB Tryz.func108 (kV.calls (cu (Kd.aW qE.out HB.out)) qX.out A12.out) ?_; intro w48 hb; replace nU := kb nU hb; replace HB := bz HB hb; clear hb; have z49 := ku nU.out)
      go_ret
      exact ⟨er, bb⟩
def l9.f (k : Nat) (dG : List (gK)) (cO : List ByteArray) (aC : List (mV)) : Option (Bool) := (bQ.f k dG cO aC 3).bind fun an0 => (some an0)
theorem l9.calls {k jm jk fM : Nat} {jl ji iC : Option Addr} {dG : List (gK)} {cO : List ByteArray} {aC : List (mV)} {r : Bool} {w : World} (mW : Kd.C pU w jl dG.length dG) (mX : dG.length ≤ jm) (mY : Kd.C Kd.string w ji cO.length cO) (mZ : cO.length ≤ jk) (jY : Kd.C k28 w iC aC.length aC) (jZ : aC.length ≤ fM) (h : l9.f k dG cO aC = some r) :
  Calls Tryz.prog 30 #[.agg #[.slice jl dG.length jm, .slice ji cO.length jk, .slice iC aC.length fM]] w fun e w' => e = .returned (.bool r) ∧ Below w.heap.size w w' := by
 have Et := Tryz.underlying28
 have qE := ak mW
 have qX := ak mX
 clear mW mX
 have uH := ak mY
 have wY := ak mZ
 clear mY mZ
 have jQ := ak jY
 have nC := ak jZ
 clear jY jZ
 have HB := ak (Below.refl w.heap.size w)
 unfold l9.f at h; have H := h
 clear h
 replace H := bd H; obtain ⟨an0, A2, H⟩ := H
 obtain rfl := s1 H
 go_enter Tryz.func30, Tryz.ntmps30
 go_wp2_with (first | (refine bX HB 1 #[.slice jl dG.length jm, .slice ji cO.length jk, .slice iC aC.length fM] 28 ?_; intro aCl w3 ae3 aCm hb; replace HB := bs HB hb; clear hb; have z4 := ku ae3.out) | (refine gB Tryz.func72 (bQ.calls k _ _ dG _ _ cO _ _ aC 3 an0 _ (cu (Kd.aW qE.out HB.out)) qX.out (cu (Kd.aW uH.out HB.out)) wY.out (cu (Kd.aW jQ.out HB.out)) nC.out A2.out) ?_; intro w5 hb; replace ae3 := kb ae3 hb; replace HB := bz HB hb; clear hb))
 go_ret
 exact ⟨er, bb⟩
mutual
def gZ.l0 : Nat → Int → List (mV) → Int → Int → Option (Int)
 | 0, _, _, _, _ => none
 | k + 1, x3, x11, x12, CO => if CO < x12 then (if 0 ≤ CO then (if CO < (x11.length : Int) then ((gZ.f k ((aN x11 CO).f0) ((aN x11 CO).f1) ((aN x11 CO).f2)).bind fun an1 => (gZ.l0 k (wrap64 (x3 + an1)) x11 x12 (wrap64 (CO + 1)))) else (none)) else (none)) else (some x3)
def gZ.f : Nat → List (gK) → List ByteArray → List (mV) → Option (Int)
 | 0, _, _, _ => none
 | k + 1, dG, cO, aC => if (aC.length : Int) = 0 then (some 1) else (gZ.l0 k 0 aC (aC.length : Int) 0)
end
theorem gZ.calls (k : Nat) : ∀ (jl : Option Addr) (jm : Nat) (dG : List (gK)) (ji : Option Addr) (jk : Nat) (cO : List ByteArray) (iC : Option Addr) (fM : Nat) (aC : List (mV)) (r : Int) (w : World) (mW : Kd.C pU w jl dG.length dG) (mX : dG.length ≤ jm) (mY : Kd.C Kd.string w ji cO.length cO) (mZ : cO.length ≤ jk) (jY : Kd.C k28 w iC aC.length aC) (jZ : aC.length ≤ fM) (h : gZ.f k dG cO aC = some r),
  Calls Tryz.prog 78 #[.agg #[.slice jl dG.length jm, .slice ji cO.length jk, .slice iC aC.length fM]] w fun e w' => e = .returned (.int .i64 r) ∧ Below w.heap.size w w' := by
 induction k using Nat.strongRecOn with
 | _ k ih =>
 intro jl jm dG ji jk cO iC fM aC r w mW mX mY mZ jY jZ h
 cases k with
 | zero => exact absurd h (by simp [gZ.f])
 | succ k =>
 simp only [gZ.f] at h
 have Et := Tryz.underlying28
 have qE := ak mW
 have qX := ak mX
 clear mW mX
 have uH := ak mY
 have wY := ak mZ
 clear mY mZ
 have jQ := ak jY
 have nC := ak jZ
 clear jY jZ
 have HB := ak (Below.refl w.heap.size w)
 have H := h
 clear h
 replace H := sp H
 rcases H with ⟨c2, H⟩ | ⟨c2, H⟩
 ·
  have o_ := beq_iff_eq.mpr c2
  have wu := bne_eq_false_iff_eq.mpr c2
  clear c2
  obtain rfl := s1 H
  go_enter Tryz.func78, Tryz.ntmps78
  go_wp2_with (refine bX HB 1 #[.slice jl dG.length jm, .slice ji cO.length jk, .slice iC aC.length fM] 28 ?_; intro akK w3 Fp asP hb; replace HB := bs HB hb; clear hb; have z4 := ku Fp.out)
  go_ret
  exact ⟨er, bb⟩
 ·
  have o_ := beq_eq_false_iff_ne.mpr c2
  have wu := bne_iff_ne.mpr c2
  have Zt : ¬ (aC = []) := fun h_ => c2 (by rw [h_]; rfl)
  have H' := ak H; clear H
  go_enter Tryz.func78, Tryz.ntmps78
  go_wp2_with (refine bX HB 1 #[.slice jl dG.length jm, .slice ji cO.length jk, .slice iC aC.length fM] 28 ?_; intro akK w5 Fp asP hb; replace HB := bs HB hb; clear hb; have z6 := ku Fp.out)
  go_loopg [3, 13] k (fun kq v3 v13 w' => ∃ (dZ : Int) (jA : Int), v3 = .int .i64 dZ ∧ v13 = .int .i64 jA ∧ ah (gZ.l0 kq dZ aC (aC.length : Int) jA = some r) ∧ ah (kq ≤ k) ∧ ah (w'.heap[akK]? = some (.cells #[(.slice jl dG.length jm), (.slice ji cO.length jk), (.slice iC aC.length fM)] 28 (0, 0))) ∧ ah (Below w.heap.size w w'))
  case atStart => exact ⟨_, _, rs, rs, H', ⟨Nat.le_refl _⟩, ⟨ub Fp.out⟩, ⟨bb⟩⟩
  case round =>
   clear H'
   try clear c2
   try clear o_
   try clear wu
   try clear Zt
   obtain ⟨dZ, jA, rfl, rfl, HA, yB, Fp, HB⟩ := hrel
   cases gk with
   | zero => exact zz HA.out
   | succ k1 =>
    obtain ⟨H⟩ := HA
    simp only [gZ.l0] at H
    replace H := sd H
    rcases H with ⟨sH, H⟩ | ⟨sH, H⟩
    ·
     replace H := oN H; obtain ⟨uj, H⟩ := H; replace H := oN H; obtain ⟨zu, H⟩ := H; replace H := bd H; obtain ⟨an1, Xa, H⟩ := H
     have H' := ak H; clear H
     have an2 := zi jA
     have an3 := zj jA aC.length
     obtain ⟨asQ, an4, an5, an6, an7, an8, an9, azn, abt, abu, abv, abw, abx, aby, abz, abA, abB⟩ := zD jQ.out jA an2 an3
     cases azn
     replace abt := cl HB.out abt
     replace abu := cl HB.out abu
     replace abv := cl HB.out abv
     have aip := ak abx
     have aiq := ak abw
     clear abx abw
     have air := ak abz
     have ais := ak aby
     clear abz aby
     have ait := ak abB
     have aiu := ak abA
     clear abB abA
     replace an2 := eq_true an2
     replace an3 := eq_true an3
     go_wp2_with (first | (refine bY HB 5 #[.slice none 0 0, .slice none 0 0, .slice none 0 0] 28 ?_; intro aCn U2 ae4 aCo hg hb; have adi := Au Fp hg; have adk := Aw Fp hg; replace Fp := kb Fp hb; replace HB := bz HB hb; clear hb hg; have asR := adk.out; have asT := adi.out; have z13 := ku ae4.out) | (refine gB Tryz.func78 (ih k1 (by have := yB.out; omega) _ _ ((aN aC jA).f0) _ _ ((aN aC jA).f1) _ _ ((aN aC jA).f2) an1 _ (Kd.aW aip.out bb) aiq.out (Kd.aW air.out bb) ais.out (Kd.aW ait.out bb) aiu.out Xa.out) ?_; intro Tc hb; replace Fp := kp Fp #[.slice jl dG.length jm, .slice ji cO.length jk, .slice (some asQ) aC.length fM] hb; replace ae4 := kp ae4 #[.slice an4 ((aN aC jA).f0).length an5, .slice an6 ((aN aC jA).f1).length an7, .slice an8 ((aN aC jA).f2).length an9] hb; replace HB := bz HB hb; clear hb))
     go_roundg k1
     case measure => exact kl
     case rel => exact ⟨_, _, rs, rs, H', ⟨kl⟩, ⟨ub Fp.out⟩, ⟨bb⟩⟩
    ·
     obtain rfl := s1 H
     go_wp2
     go_ret
     exact ⟨er, bb⟩
def lM.f (k : Nat) (dG : List (gK)) (cO : List ByteArray) (aC : List (mV)) : Option (Int) := (kF.f k dG cO aC).bind fun asU => (if asU = true then ((gZ.f k dG cO aC).bind fun an_ => (some an_)) else (some 0))
theorem lM.calls {k jm jk fM : Nat} {jl ji iC : Option Addr} {dG : List (gK)} {cO : List ByteArray} {aC : List (mV)} {r : Int} {w : World} (mW : Kd.C pU w jl dG.length dG) (mX : dG.length ≤ jm) (mY : Kd.C Kd.string w ji cO.length cO) (mZ : cO.length ≤ jk) (jY : Kd.C k28 w iC aC.length aC) (jZ : aC.length ≤ fM) (CX : MaxOk w) (h : lM.f k dG cO aC = some r) :
  Calls Tryz.prog 34 #[.agg #[.slice jl dG.length jm, .slice ji cO.length jk, .slice iC aC.length fM]] w fun e w' => e = .returned (.int .i64 r) ∧ Below w.heap.size w w' := by
 have Et := Tryz.underlying28
 have qE := ak mW
 have qX := ak mX
 clear mW mX
 have uH := ak mY
 have wY := ak mZ
 clear mY mZ
 have jQ := ak jY
 have nC := ak jZ
 clear jY jZ
 have HG := ak CX
 clear CX
 have HB := ak (Below.refl w.heap.size w)
 unfold lM.f at h; have H := h
 clear h
 replace H := bd H; obtain ⟨asU, A2, H⟩ := H; replace H := sb H
 rcases H with ⟨rfl, H⟩ | ⟨rfl, H⟩
 ·
  replace H := bd H; obtain ⟨an_, A4, H⟩ := H
  obtain rfl := s1 H
  go_enter Tryz.func34, Tryz.ntmps34
  go_wp2_with (first | (refine bX HB 1 #[.slice jl dG.length jm, .slice ji cO.length jk, .slice iC aC.length fM] 28 ?_; intro asV w5 IJ asW hb; replace HB := bs HB hb; clear hb; have z6 := ku IJ.out) | (refine gB Tryz.func26 (kF.calls (cu (Kd.aW qE.out HB.out)) qX.out (cu (Kd.aW uH.out HB.out)) wY.out (cu (Kd.aW jQ.out HB.out)) nC.out ?rZ A2.out) ?_; (case rZ => first | exact HG.out | exact MaxOk.below HG.out bb | (repeat (first | exact HG.out | apply MaxOk.drewN | apply MaxOk.drew))); intro w7 hb; replace IJ := kb IJ hb; replace HB := bz HB hb; clear hb; have z8 := ku IJ.out) | (refine gB Tryz.func78 (gZ.calls k _ _ dG _ _ cO _ _ aC an_ _ (cu (Kd.aW qE.out HB.out)) qX.out (cu (Kd.aW uH.out HB.out)) wY.out (cu (Kd.aW jQ.out HB.out)) nC.out A4.out) ?_; intro w9 hb; replace IJ := kb IJ hb; replace HB := bz HB hb; clear hb))
  go_ret
  exact ⟨er, bb⟩
 ·
  obtain rfl := s1 H
  go_enter Tryz.func34, Tryz.ntmps34
  go_wp2_with (first | (refine bX HB 1 #[.slice jl dG.length jm, .slice ji cO.length jk, .slice iC aC.length fM] 28 ?_; intro asV w10 IJ asW hb; replace HB := bs HB hb; clear hb; have z11 := ku IJ.out) | (refine gB Tryz.func26 (kF.calls (cu (Kd.aW qE.out HB.out)) qX.out (cu (Kd.aW uH.out HB.out)) wY.out (cu (Kd.aW jQ.out HB.out)) nC.out ?rZ A2.out) ?_; (case rZ => first | exact HG.out | exact MaxOk.below HG.out bb | (repeat (first | exact HG.out | apply MaxOk.drewN | apply MaxOk.drew))); intro w12 hb; replace IJ := kb IJ hb; replace HB := bz HB hb; clear hb))
  go_ret
  exact ⟨er, bb⟩
end Go.Proofs.YtncdadcmghglkaaGreatDoor.PFnPartValid
