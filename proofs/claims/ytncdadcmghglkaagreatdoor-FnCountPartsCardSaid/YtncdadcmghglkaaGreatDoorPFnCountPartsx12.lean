/- Printed walks; conditions: those in each statement. -/
import Derived.Test.YtncdadcmghglkaaGreatDoorVFnCountPartsQt
import Derived.Test.YtncdadcmghglkaaGreatDoorVFnCountPartsYt
import Derived.Test.YtncdadcmghglkaaGreatDoorPFnCountPartsx0
import Derived.Test.YtncdadcmghglkaaGreatDoorPFnCountPartsx11
-- fixed
-- short
-- dense
-- sq
-- sq2
namespace Go.Proofs.YtncdadcmghglkaaGreatDoor.PFnCountParts
open Go.RowKit Go.Proofs.YtncdadcmghglkaaGreatDoor.X Go.Proofs.YtncdadcmghglkaaGreatDoorW.bI Go.Proofs.YtncdadcmghglkaaGreatDoorW.gI Go.Proofs.YtncdadcmghglkaaGreatDoorW.iL
attribute [local go_sem] kN kP mF mG jB jC kQ kR   -- for this text's walks alone
set_option linter.unusedVariables false
set_option maxHeartbeats 8000000
set_option maxRecDepth 100000
set_option linter.unusedSimpArgs false
mutual
def gu.l0 : Nat → List (gY) → Int → Option (Bool)
 | 0, _, _ => none
 | k + 1, x0, x3 => if x3 < (x0.length : Int) then (gu.j1 k x0 x3 (decide (x3 ≤ 20))) else (gu.j1 k x0 x3 false)
def gu.j1 : Nat → List (gY) → Int → Bool → Option (Bool)
 | 0, _, _, _ => none
 | k + 1, x0, x3, x11 => if x11 = true then (if 0 ≤ x3 then (if x3 < (x0.length : Int) then ((ji.f k ((fD x0 x3).f0) ((fD x0 x3).f1)).bind fun aoK => (if aoK = true then (gu.l0 k x0 (wrap64 (x3 + 1))) else (some false))) else (none)) else (none)) else (some (decide ((x0.length : Int) ≤ 20)))
end
def gu.f (k : Nat) (l0 : List (gY)) : Option (Bool) := gu.l0 k l0 0
theorem gu.calls {k c0 : Nat} {A0 : Option Addr} {l0 : List (gY)} {r : Bool} {w : World} (hr0 : Kd.C qJ w A0 l0.length l0) (hc0 : l0.length ≤ c0) (h : gu.f k l0 = some r) :
  Calls Tryz.prog 113 #[.slice A0 l0.length c0] w fun e w' => e = .returned (.bool r) ∧ Below w.heap.size w w' := by
 have Dt := Tryz.underlying69
 have HR0 := ak hr0
 have xq := ak hc0
 clear hr0 hc0
 have HB := ak (Below.refl w.heap.size w)
 unfold gu.f at h; have H := h
 clear h
 have H' := ak H; clear H
 go_enter Tryz.func113, Tryz.ntmps113
 go_wp2
 go_loopg [3] k (fun kq v3 w' => ∃ (dM : Int), v3 = .int .i64 dM ∧ ah (gu.l0 kq l0 dM = some r) ∧ ah (kq ≤ k) ∧ ah (Below w.heap.size w w'))
 case atStart => exact ⟨_, rs, H', ⟨Nat.le_refl _⟩, ⟨ul HB.out⟩⟩
 case round =>
  clear H'
  obtain ⟨dM, rfl, HA, xu, HB⟩ := hrel
  cases gk with
  | zero => exact zz HA.out
  | succ k1 =>
   obtain ⟨H⟩ := HA
   simp only [gu.l0] at H
   have HC2 := ak H
   clear H
   go_upto_region 2 with (fail)
   go_cut [11] (fun v11 wc => ∃ (kq : Nat) (uU : Bool), v11 = .bool uU ∧ ah (gu.j1 kq l0 dM uU = some r) ∧ ah (kq ≤ k1) ∧ ah (Below w.heap.size w wc))
   case first =>
    have H := HC2.out
    clear HC2
    replace H := sd H
    rcases H with ⟨iQ, H⟩ | ⟨iQ, H⟩
    ·
     (first | rw [iQ] | (simp only [dU, fU]; rw [iQ]) | skip)
     have H' := ak H; clear H
     go_wp2
     go_meet
     case rel => exact ⟨_, _, rs, H', ⟨kl⟩, ⟨ul HB.out⟩⟩
    ·
     (first | rw [iQ] | (simp only [dU, fU]; rw [iQ]) | skip)
     have H' := ak H; clear H
     go_wp2
     go_meet
     case rel => exact ⟨_, _, rs, H', ⟨kl⟩, ⟨ul HB.out⟩⟩
   case rest =>
    clear HC2
    obtain ⟨kq, uU, rfl, HA, HJ1, HB⟩ := hcut
    cases kq with
    | zero => exact zz HA.out
    | succ NI =>
     obtain ⟨H⟩ := HA
     simp only [gu.j1] at H
     replace H := sb H
     rcases H with ⟨rfl, H⟩ | ⟨rfl, H⟩
     ·
      replace H := oM H; obtain ⟨nR, H⟩ := H; replace H := oM H; obtain ⟨nT, H⟩ := H; replace H := bd H; obtain ⟨aoK, A7, H⟩ := H; replace H := sb H
      rcases H with ⟨rfl, H⟩ | ⟨rfl, H⟩
      ·
       have H' := ak H; clear H
       have Xi := zi dM
       have Xj := zj dM l0.length
       obtain ⟨aoL, aly, I_, Ja⟩ := qV HR0.out dM Xi Xj
       cases aly
       replace I_ := cl HB.out I_
       replace Ja := cl HB.out Ja
       replace Xi := eq_true Xi
       replace Xj := eq_true Xj
       go_wp2_with (refine gB Tryz.func158 (ji.calls A7.out) ?_; intro w9 hb; replace HB := bs HB hb; clear hb)
       go_roundg NI
       case measure => exact kl
       case rel => exact ⟨_, rs, H', ⟨kl⟩, ⟨ul HB.out⟩⟩
      ·
       obtain rfl := s1 H
       have Xi := zi dM
       have Xj := zj dM l0.length
       obtain ⟨aoL, aly, I_, Ja⟩ := qV HR0.out dM Xi Xj
       cases aly
       replace I_ := cl HB.out I_
       replace Ja := cl HB.out Ja
       replace Xi := eq_true Xi
       replace Xj := eq_true Xj
       go_wp2_with (refine gB Tryz.func158 (ji.calls A7.out) ?_; intro w10 hb; replace HB := bs HB hb; clear hb)
       go_ret
       exact ⟨er, ul HB.out⟩
     ·
      obtain rfl := s1 H
      go_wp2
      go_ret
      exact ⟨er, ul HB.out⟩
mutual
def eG.l0 : Nat → ByteArray → Int → Int → Option (Int)
 | 0, _, _, _ => none
 | k + 1, x0, x5, x6 => if (wrap64 (x6 + 1)) < (x0.size : Int) then (if 0 ≤ x6 then (if x6 < (x0.size : Int) then (if (bt x0 x6) = 32 then (if 0 ≤ (wrap64 (x6 - 1)) then (if (wrap64 (x6 - 1)) < (x0.size : Int) then (if (bt x0 (wrap64 (x6 - 1))) = 32 then (eG.j1 k x0 x5 x6 true) else (if 0 ≤ (wrap64 (x6 + 1)) then (eG.j1 k x0 x5 x6 ((bt x0 (wrap64 (x6 + 1))) == 32)) else (none))) else (none)) else (none)) else (eG.j1 k x0 x5 x6 true)) else (none)) else (none)) else (some x5)
def eG.j1 : Nat → ByteArray → Int → Int → Bool → Option (Int)
 | 0, _, _, _, _ => none
 | k + 1, x0, x5, x6, x33 => if x33 = true then (eG.l0 k x0 x5 (wrap64 (x6 + 1))) else (if x6 ≤ 40 then (eG.l0 k x0 x6 (wrap64 (x6 + 1))) else (if x5 < 0 then (eG.l0 k x0 x6 (wrap64 (x6 + 1))) else (eG.l0 k x0 x5 (wrap64 (x6 + 1)))))
end
def eG.f (k : Nat) (a0 : ByteArray) (a1 : Int) : Option (Int) := eG.l0 k a0 (-1) (wrap64 (a1 + 1))
theorem eG.calls {k : Nat} {a0 : ByteArray} {a1 r : Int} {w : World} (h : eG.f k a0 a1 = some r) :
  Calls Tryz.prog 176 #[.string a0, .int .i64 a1] w fun e w' => e = .returned (.int .i64 r) ∧ dS w w' := by
 unfold eG.f at h; have H := h
 clear h
 have H' := ak H; clear H
 go_enter Tryz.func176, Tryz.ntmps176
 go_wp2
 go_loopg [5, 6] k (fun kq v5 v6 w' => ∃ (eH : Int) (jH : Int), v5 = .int .i64 eH ∧ v6 = .int .i64 jH ∧ ah (eG.l0 kq a0 eH jH = some r) ∧ ah (kq ≤ k) ∧ dS w w')
 case atStart => exact ⟨_, _, rs, rs, H', ⟨Nat.le_refl _⟩, dn⟩
 case round =>
  clear H'
  obtain ⟨eH, jH, rfl, rfl, HA, xu, ⟨m1, rfl⟩⟩ := hrel
  cases gk with
  | zero => exact zz HA.out
  | succ k1 =>
   obtain ⟨H⟩ := HA
   simp only [eG.l0] at H
   replace H := sp H
   rcases H with ⟨c3, H⟩ | ⟨c3, H⟩
   ·
    have iQ := decide_eq_true c3
    (try (have zZ : decide ((jH + 1) < (a0.size : Int)) = true := decide_eq_true (by have h_ := c3; unfold wrap64 at h_; omega)))
    clear c3
    have HC4 := ak H
    clear H
    go_upto_region 5 with (fail)
    go_cut [33] (fun v33 wc => ∃ (kq : Nat) (ac2 : Bool), v33 = .bool ac2 ∧ ah (eG.j1 kq a0 eH jH ac2 = some r) ∧ ah (kq ≤ k1) ∧ dS w wc)
    case first =>
     have H := HC4.out
     clear HC4
     replace H := oM H; obtain ⟨nR, H⟩ := H
     (first | rw [nR] | (simp only [dU, fU]; rw [nR]) | skip)
     replace H := oM H; obtain ⟨nT, H⟩ := H; replace H := sq H
     rcases H with ⟨sH, Ba, H⟩ | ⟨c8, sH, Ba, H⟩
     ·
      obtain ⟨OQ, HY⟩ : ∃ j_ : Int, (wrap64 (jH - 1)) = j_ := ⟨_, rfl⟩
      replace H : (if 0 ≤ (OQ) then (if (OQ) < (a0.size : Int) then (if (bt a0 (OQ)) = 32 then (eG.j1 k1 a0 eH jH true) else (if 0 ≤ (wrap64 (jH + 1)) then (eG.j1 k1 a0 eH jH ((bt a0 (wrap64 (jH + 1))) == 32)) else (none))) else (none)) else (none)) = some r := by first | (rw [HY] at H; exact H) | (simp only [HY] at H ⊢; exact H)
      have ait : (IntKind.i64.wrap (jH - 1)) = OQ := (dU _).trans HY
      replace H := oM H; obtain ⟨oC, H⟩ := H; replace H := oM H; obtain ⟨uH, H⟩ := H; replace H := sq H
      rcases H with ⟨vS, zB, H⟩ | ⟨c13, vS, zB, H⟩
      ·
       have H' := ak H; clear H
       obtain ⟨p7, q7, hx7⟩ := bx a0 jH
       obtain ⟨p12, q12, alx⟩ := bx a0 (OQ)
       go_wp2
       go_meet
       case rel => exact ⟨_, _, rs, H', ⟨kl⟩, dn⟩
      ·
       obtain ⟨Jb, Jc⟩ : ∃ j_ : Int, (wrap64 (jH + 1)) = j_ := ⟨_, rfl⟩
       replace H : (if 0 ≤ (Jb) then (eG.j1 k1 a0 eH jH ((bt a0 (Jb)) == 32)) else (none)) = some r := by first | (rw [Jc] at H; exact H) | (simp only [Jc] at H ⊢; exact H)
       (try rw [Jc] at iQ)
       have aw3 : (IntKind.i64.wrap (jH + 1)) = Jb := (dU _).trans Jc
       replace H := oM H; obtain ⟨vT, H⟩ := H
       have H' := ak H; clear H
       obtain ⟨p7, q7, hx7⟩ := bx a0 jH
       obtain ⟨p12, q12, alx⟩ := bx a0 (OQ)
       obtain ⟨p16, q16, hx16⟩ := bx a0 (Jb)
       go_wp2
       go_meet
       case rel => exact ⟨_, _, (by first | rfl | (simp; done) | (simp only [← Jc] <;> (first | rfl | simp)) | (simp [*]; done)), H', ⟨kl⟩, dn⟩
     ·
      have H' := ak H; clear H
      obtain ⟨p7, q7, hx7⟩ := bx a0 jH
      go_wp2
      go_meet
      case rel => exact ⟨_, _, rs, H', ⟨kl⟩, dn⟩
    case rest =>
     clear HC4
     try clear c3
     try clear iQ
     try clear zZ
     obtain ⟨kq, ac2, rfl, HA, HJ3, ⟨mc3, rfl⟩⟩ := hcut
     cases kq with
     | zero => exact zz HA.out
     | succ kj3 =>
      obtain ⟨H⟩ := HA
      simp only [eG.j1] at H
      replace H := sb H
      rcases H with ⟨rfl, H⟩ | ⟨rfl, H⟩
      ·
       have H' := ak H; clear H
       go_wp2
       go_roundg kj3
       case measure => exact kl
       case rel => exact ⟨_, _, rs, rs, H', ⟨kl⟩, dn⟩
      ·
       replace H := sd H
       rcases H with ⟨zC, H⟩ | ⟨zC, H⟩
       ·
        have H' := ak H; clear H
        go_wp2
        go_roundg kj3
        case measure => exact kl
        case rel => exact ⟨_, _, rs, rs, H', ⟨kl⟩, dn⟩
       ·
        replace H := sd H
        rcases H with ⟨z_, H⟩ | ⟨z_, H⟩
        ·
         have H' := ak H; clear H
         go_wp2
         go_roundg kj3
         case measure => exact kl
         case rel => exact ⟨_, _, rs, rs, H', ⟨kl⟩, dn⟩
        ·
         have H' := ak H; clear H
         go_wp2
         go_roundg kj3
         case measure => exact kl
         case rel => exact ⟨_, _, rs, rs, H', ⟨kl⟩, dn⟩
   ·
    have iQ := decide_eq_false c3
    (try (have zZ : decide ((jH + 1) < (a0.size : Int)) = false := decide_eq_false (by have h_ := c3; unfold wrap64 at h_; omega)))
    clear c3
    obtain rfl := s1 H
    go_wp2
    go_ret
    exact ⟨rs, dn⟩
mutual
def fZ.j0 : Nat → List ByteArray → ByteArray → Int → Option (List ByteArray)
 | 0, _, _, _ => none
 | k + 1, x3, x4, x5 => fZ.l0 k x3 x4 x5
def fZ.l0 : Nat → List ByteArray → ByteArray → Int → Option (List ByteArray)
 | 0, _, _, _ => none
 | k + 1, x3, x4, x5 => if (x4.size : Int) > 40 then ((eG.f k x4 x5).bind fun OU => (if OU < 0 then (if x3.length < 8796093022208 then (some (x3 ++ [x4])) else (none)) else (if 0 ≤ OU then (if OU ≤ (x4.size : Int) then (if x3.length < 8796093022208 then (fZ.l0 k (x3 ++ [x4.extract 0 (OU : Int).toNat]) (x4.extract (OU : Int).toNat x4.size) 1) else (none)) else (none)) else (none)))) else (if x3.length < 8796093022208 then (some (x3 ++ [x4])) else (none))
end
def fZ.f (k : Nat) (eF : ByteArray) (eP : ByteArray) : Option (List ByteArray) := (some (([] : List ByteArray) : List ByteArray)).bind fun abz => ((ji.f k eF eP).bind fun aoM => (if aoM = true then (if eF.size + 1 ≤ 9223372036854775807 then (if eP.toList = ([] : List UInt8) then (fZ.j0 k abz (eF ++ (⟨#[58]⟩ : ByteArray)) ((eF ++ (⟨#[58]⟩ : ByteArray)).size : Int)) else (if (eF ++ (⟨#[58]⟩ : ByteArray)).size + 1 ≤ 9223372036854775807 then (if ((eF ++ (⟨#[58]⟩ : ByteArray)) ++ (⟨#[32]⟩ : ByteArray)).size + eP.size ≤ 9223372036854775807 then (fZ.j0 k abz (((eF ++ (⟨#[58]⟩ : ByteArray)) ++ (⟨#[32]⟩ : ByteArray)) ++ eP) (wrap64 (((eF ++ (⟨#[58]⟩ : ByteArray)).size : Int) + 1))) else (none)) else (none))) else (none)) else (some abz)))
theorem fZ.calls {k : Nat} {eF eP : ByteArray} {r : List ByteArray} {w : World} (h : fZ.f k eF eP = some r) :
  Calls Tryz.prog 153 #[.agg #[.string eF, .string eP]] w fun e w' => ∃ qj : Value, e = .returned (qj) ∧ Kd.R Kd.string 9 w' w.heap.size (fun _ => True) qj r ∧ Below w.heap.size w w' := by
 have Dt := Tryz.underlying69
 have HB := ak (Below.refl w.heap.size w)
 unfold fZ.f at h; have H := h
 clear h
 replace H := ny H
 obtain ⟨abz, aiu, H⟩ := H
 replace H := bd H; obtain ⟨aoM, A2, H⟩ := H; replace H := sb H
 rcases H with ⟨rfl, H⟩ | ⟨rfl, H⟩
 ·
  replace H := nn H; obtain ⟨c4, H⟩ := H
  have rX := eq_true c4
  have Xb := decide_eq_true c4
  try have aoN : (9223372036854775807 < eF.size + 1) = False := eq_false (Nat.not_lt.2 c4)
  have HC5 := ak H
  clear H
  go_enter Tryz.func153, Tryz.ntmps153
  go_upto_if 19 with (first | (refine bX HB 1 #[.string eF, .string eP] 69 ?_; intro Rf w6 sD aoO hb; replace HB := bs HB hb; clear hb) | (refine GN 7 Kd.string 9 aiu ?_; intro aoP w7 ho8 hb; have MN := ak (Kd.aA ho8 (aj bb)); replace sD := kb sD hb; replace HB := bz HB hb; clear hb ho8; have z9 := zx sD.out) | (refine gB Tryz.func158 (ji.calls A2.out) ?_; intro w10 hb; replace MN := rb MN hb; replace sD := kb sD hb; replace HB := bz HB hb; clear hb; have z11 := zx sD.out))
  (try simp only [Act.put, qW, qX, l_c])
  go_cut [4, 5] (fun v4 v5 wc => ∃ (kq : Nat) (alz : ByteArray) (Vh : Int), v4 = .string alz ∧ v5 = .int .i64 Vh ∧ ah (fZ.j0 kq abz alz Vh = some r) ∧ ah (kq ≤ k) ∧ ah (Kd.R Kd.string 9 wc w.heap.size (fun _ => True) aoP abz) ∧ ah (wc.heap[Rf]? = some (.cells #[.string eF, .string eP] 69 (0, 0))) ∧ ah (Below w.heap.size w wc))
  case first =>
   have H := HC5.out
   clear HC5
   replace H := sp H
   rcases H with ⟨c12, H⟩ | ⟨c12, H⟩
   ·
    have xw := beq_iff_eq.mpr c12
    have alA : (eP.toList).isEmpty = true := List.isEmpty_iff.mpr c12
    have CP := bne_eq_false_iff_eq.mpr c12
    clear c12
    (first | rw [xw] | (simp only [dU, fU]; rw [xw]) | skip)
    (first | (rw [alA]; simp only [Bool.not_true, Bool.not_false]) | skip)
    have H' := ak H; clear H
    go_wp2
    go_meet
    case rel => exact ⟨_, _, _, rs, rs, H', ⟨KR⟩, ⟨ur MN.out⟩, ⟨ub sD.out⟩, ⟨bb⟩⟩
   ·
    have xw := beq_eq_false_iff_ne.mpr c12
    have alA : (eP.toList).isEmpty = false := List.isEmpty_eq_false_iff.mpr c12
    have CP := bne_iff_ne.mpr c12
    (first | rw [xw] | (simp only [dU, fU]; rw [xw]) | skip)
    (first | (rw [alA]; simp only [Bool.not_true, Bool.not_false]) | skip)
    replace H := nn H; obtain ⟨c13, H⟩ := H
    have vS := eq_true c13
    have zB := decide_eq_true c13
    try have aoQ : (9223372036854775807 < eF.size + 1 + 1) = False := by have h_ := (eq_false (Nat.not_lt.2 c13) : (9223372036854775807 < (eF ++ (⟨#[58]⟩ : ByteArray)).size + 1) = False); simp only [ByteArray.size_append] at h_; exact h_
    try have aiv : (9223372036854775807 < (eF ++ (⟨#[58]⟩ : ByteArray)).size + 1) = False := eq_false (Nat.not_lt.2 c13)
    replace H := nn H; obtain ⟨c14, H⟩ := H
    have tu := eq_true c14
    have xA := decide_eq_true c14
    try have aAm : (9223372036854775807 < eF.size + 1 + 1 + eP.size) = False := by have h_ := (eq_false (Nat.not_lt.2 c14) : (9223372036854775807 < ((eF ++ (⟨#[58]⟩ : ByteArray)) ++ (⟨#[32]⟩ : ByteArray)).size + eP.size) = False); simp only [ByteArray.size_append] at h_; exact h_
    try have aoR : (9223372036854775807 < ((eF ++ (⟨#[58]⟩ : ByteArray)) ++ (⟨#[32]⟩ : ByteArray)).size + eP.size) = False := eq_false (Nat.not_lt.2 c14)
    have H' := ak H; clear H
    have z15 := zx sD.out
    go_wp2
    go_meet
    case rel => exact ⟨_, _, _, rs, rs, H', ⟨KR⟩, ⟨ur MN.out⟩, ⟨ub sD.out⟩, ⟨bb⟩⟩
  case rest =>
   clear HC5
   try clear c4
   try clear rX
   try clear Xb
   try clear aoN
   obtain ⟨kq, alz, Vh, rfl, rfl, HA, HJ4, oU, sD, HB⟩ := hcut
   cases kq with
   | zero => exact zz HA.out
   | succ kj4 =>
    obtain ⟨H⟩ := HA
    simp only [fZ.j0] at H
    have H' := ak H; clear H
    go_wp2
    go_loopg [3, 4, 5] kj4 (fun kq v3 v4 v5 w' => ∃ (lF : List ByteArray) (oK : ByteArray) (sV : Int), v4 = .string oK ∧ v5 = .int .i64 sV ∧ ah (fZ.l0 kq lF oK sV = some r) ∧ ah (kq ≤ kj4) ∧ ah (Kd.R Kd.string 9 w' w.heap.size (fun _ => True) v3 lF) ∧ ah (w'.heap[Rf]? = some (.cells #[.string eF, .string eP] 69 (0, 0))) ∧ ah (Below w.heap.size w w'))
    case atStart => exact ⟨_, _, _, rs, rs, H', ⟨Nat.le_refl _⟩, ⟨ur oU.out⟩, ⟨ub sD.out⟩, ⟨bb⟩⟩
    case round =>
     clear H'
     try clear c4
     try clear rX
     try clear Xb
     try clear aoN
     obtain ⟨lF, oK, sV, rfl, rfl, HA, HK2, oU, sD, HB⟩ := hrel
     cases gk with
     | zero => exact zz HA.out
     | succ k2 =>
      obtain ⟨H⟩ := HA
      simp only [fZ.l0] at H
      replace H := sp H
      rcases H with ⟨c16, H⟩ | ⟨c16, H⟩
      ·
       have zD : decide (40 < (oK.size : Int)) = true := decide_eq_true c16
       have Jd : decide (40 < oK.size) = true := decide_eq_true (by omega)
       clear c16
       replace H := bd H; obtain ⟨OU, A17, H⟩ := H; replace H := sd H
       rcases H with ⟨zC, H⟩ | ⟨zC, H⟩
       ·
        replace H := nl H; obtain ⟨ac3, H⟩ := H
        obtain ⟨aDe, aiw⟩ := nm (lF ++ [oK])
        rw [← aiw.out] at H
        obtain rfl := s1 H
        go_wp2_with (first | (refine gA Tryz.func176 (eG.calls A17.out) ?_; intro nd) | ((with_reducible refine dZ (b := .append) (xs := #[.tmp 44, .tmp 46]) rfl ?_); at_builtin; refine Kd.pY Kd.string (w0 := w) w.heap.size rfl (.tmp 44) (.tmp 46) 23 9 (.string ⟨#[]⟩) 16 rfl Tryz.underlying23 info9 rfl (by decide) (by omega) u3 lF oK [.string oK] (fun _ => True) (fun _ => False) rfl rfl ?aP (fun _ hk => hk.elim) ?aF ?aO ?aB ?aS ?aL ?_; (case aP => exact rfl); (case aB => exact bb); (case aF => exact (fun _ _ => trivial)); (case aO => exact (ur oU.out)); (case aS => exact (aj bb)); (case aL => have := ac3.out; omega); intro aDf w20 ho hb hg hat; rw [← aiw.out] at ho; have aoS := ak (ho); replace sD := ak (dw (g := Rf) (o := .cells #[.string eF, .string eP] 69 (0, 0)) (ub sD.out) hg (Kd.oQ oU.out sD.out (by decide))); replace HB := ak (hb); clear ho hb hg hat oU))
        go_ret
        exact ⟨_, er, ur aoS.out, bb⟩
       ·
        replace H := zK H; obtain ⟨Bo, YR, H⟩ := H; replace H := zK H; obtain ⟨EW, YS, H⟩ := H; replace H := nl H; obtain ⟨ac4, H⟩ := H
        obtain ⟨aDg, aix⟩ := nm (lF ++ [oK.extract 0 (OU : Int).toNat])
        rw [← aix.out] at H
        have OV := eq_true (of_decide_eq_true (by assumption) : 0 ≤ OU)
        have OW := eq_true (of_decide_eq_true (by assumption) : OU ≤ (oK.size : Int))
        have H' := ak H; clear H
        go_wp2_with (first | (refine gA Tryz.func176 (eG.calls A17.out) ?_; intro nd) | ((with_reducible refine dZ (b := .append) (xs := #[.tmp 35, .tmp 39]) rfl ?_); at_builtin; refine Kd.pY Kd.string (w0 := w) w.heap.size rfl (.tmp 35) (.tmp 39) 23 9 (.string ⟨#[]⟩) 16 rfl Tryz.underlying23 info9 rfl (by decide) (by omega) u3 lF (oK.extract 0 (OU : Int).toNat) [.string (oK.extract 0 (OU : Int).toNat)] (fun _ => True) (fun _ => False) rfl rfl ?aP (fun _ hk => hk.elim) ?aF ?aO ?aB ?aS ?aL ?_; (case aP => exact rfl); (case aB => exact bb); (case aF => exact (fun _ _ => trivial)); (case aO => exact (ur oU.out)); (case aS => exact (aj bb)); (case aL => have := ac4.out; omega); intro aDh w26 ho hb hg hat; rw [← aix.out] at ho; have aoT := ak (ho); replace sD := ak (dw (g := Rf) (o := .cells #[.string eF, .string eP] 69 (0, 0)) (ub sD.out) hg (Kd.oQ oU.out sD.out (by decide))); replace HB := ak (hb); clear ho hb hg hat oU))
        go_roundg k2
        case measure => exact kl
        case rel => exact ⟨_, _, _, rs, rs, H', ⟨kl⟩, ⟨ur aoT.out⟩, ⟨ub sD.out⟩, ⟨bb⟩⟩
      ·
       have zD : decide (40 < (oK.size : Int)) = false := decide_eq_false c16
       have Jd : decide (40 < oK.size) = false := decide_eq_false (by omega)
       clear c16
       replace H := nl H; obtain ⟨ac5, H⟩ := H
       obtain ⟨aDi, aiy⟩ := nm (lF ++ [oK])
       rw [← aiy.out] at H
       obtain rfl := s1 H
       go_wp2_with ((with_reducible refine dZ (b := .append) (xs := #[.tmp 44, .tmp 46]) rfl ?_); at_builtin; refine Kd.pY Kd.string (w0 := w) w.heap.size rfl (.tmp 44) (.tmp 46) 23 9 (.string ⟨#[]⟩) 16 rfl Tryz.underlying23 info9 rfl (by decide) (by omega) u3 lF oK [.string oK] (fun _ => True) (fun _ => False) rfl rfl ?aP (fun _ hk => hk.elim) ?aF ?aO ?aB ?aS ?aL ?_; (case aP => exact rfl); (case aB => exact bb); (case aF => exact (fun _ _ => trivial)); (case aO => exact (ur oU.out)); (case aS => exact (aj bb)); (case aL => have := ac5.out; omega); intro aDj w28 ho hb hg hat; rw [← aiy.out] at ho; have aoU := ak (ho); replace sD := ak (dw (g := Rf) (o := .cells #[.string eF, .string eP] 69 (0, 0)) (ub sD.out) hg (Kd.oQ oU.out sD.out (by decide))); replace HB := ak (hb); clear ho hb hg hat oU)
       go_ret
       exact ⟨_, er, ur aoU.out, bb⟩
 ·
  obtain rfl := s1 H
  go_enter Tryz.func153, Tryz.ntmps153
  go_wp2_with (first | (refine bX HB 1 #[.string eF, .string eP] 69 ?_; intro Rf w29 sD aoO hb; replace HB := bs HB hb; clear hb) | (refine GN 7 Kd.string 9 aiu ?_; intro aoP w30 aoV hb; have MN := ak (Kd.aA aoV (aj bb)); replace sD := kb sD hb; replace HB := bz HB hb; clear hb aoV; have z32 := zx sD.out) | (refine gB Tryz.func158 (ji.calls A2.out) ?_; intro w33 hb; replace MN := rb MN hb; replace sD := kb sD hb; replace HB := bz HB hb; clear hb))
  go_ret
  exact ⟨_, er, ur MN.out, bb⟩
def iR.l0 : Nat → List (gY) → List ByteArray → Int → Option (List ByteArray × Bool)
 | 0, _, _, _ => none
 | k + 1, x0, x4, x5 => if x5 < (x0.length : Int) then (if 0 ≤ x5 then ((fZ.f k ((fD x0 x5).f0) ((fD x0 x5).f1)).bind fun abA => (if x4.length + abA.length < 8796093022208 then (iR.l0 k x0 (x4 ++ abA) (wrap64 (x5 + 1))) else (none))) else (none)) else (some (x4, true))
def iR.f (k : Nat) (l0 : List (gY)) : Option (List ByteArray × Bool) := (some (([] : List ByteArray) : List ByteArray)).bind fun alB => ((gu.f k l0).bind fun aoW => (if aoW = true then (iR.l0 k l0 alB 0) else (some (alB, false))))
theorem iR.calls {k c0 : Nat} {A0 : Option Addr} {l0 : List (gY)} {r1 : List ByteArray} {r2 : Bool} {w : World} (hr0 : Kd.C qJ w A0 l0.length l0) (hc0 : l0.length ≤ c0) (h : iR.f k l0 = some (r1, r2)) :
  Calls Tryz.prog 107 #[.slice A0 l0.length c0] w fun e w' => ∃ qj : Value, e = .returned (.tuple #[qj, .bool r2]) ∧ Kd.R Kd.string 9 w' w.heap.size (fun _ => True) qj r1 ∧ Below w.heap.size w w' := by
 have Dt := Tryz.underlying69
 have HR0 := ak hr0
 have xq := ak hc0
 clear hr0 hc0
 have HB := ak (Below.refl w.heap.size w)
 unfold iR.f at h; have H := h
 clear h
 replace H := ny H
 obtain ⟨alB, aiz, H⟩ := H
 replace H := bd H; obtain ⟨aoW, A2, H⟩ := H; replace H := sb H
 rcases H with ⟨rfl, H⟩ | ⟨rfl, H⟩
 ·
  have H' := ak H; clear H
  go_enter Tryz.func107, Tryz.ntmps107
  go_wp2_with (first | (refine GN 6 Kd.string 9 aiz ?_; intro aw4 w4 ho5 hb; have OX := ak (Kd.aA ho5 (aj (ul HB.out))); replace HB := bs HB hb; clear hb ho5) | (refine gB Tryz.func113 (gu.calls (cu (Kd.aW HR0.out HB.out)) xq.out A2.out) ?_; intro w6 hb; replace OX := rb OX hb; replace HB := bs HB hb; clear hb))
  go_loopg [4, 5] k (fun kq v4 v5 w' => ∃ (dW : List ByteArray) (eH : Int), v5 = .int .i64 eH ∧ ah (iR.l0 kq l0 dW eH = some (r1, r2)) ∧ ah (kq ≤ k) ∧ ah (Kd.R Kd.string 9 w' w.heap.size (fun _ => True) v4 dW) ∧ ah (Below w.heap.size w w'))
  case atStart => exact ⟨_, _, rs, H', ⟨Nat.le_refl _⟩, ⟨ur OX.out⟩, ⟨ul HB.out⟩⟩
  case round =>
   clear H'
   obtain ⟨dW, eH, rfl, HA, xu, iP, HB⟩ := hrel
   cases gk with
   | zero => exact zz HA.out
   | succ k1 =>
    obtain ⟨H⟩ := HA
    simp only [iR.l0] at H
    replace H := sd H
    rcases H with ⟨rY, H⟩ | ⟨rY, H⟩
    ·
     replace H := oM H; obtain ⟨sH, H⟩ := H; replace H := bd H; obtain ⟨abA, A9, H⟩ := H; replace H := nl H; obtain ⟨U9, H⟩ := H
     obtain ⟨aDk, aiA⟩ := nm (dW ++ abA)
     rw [← aiA.out] at H
     have H' := ak H; clear H
     have alC := zi eH
     have alD := zj eH l0.length
     obtain ⟨aAn, aw5, YT, YU⟩ := qV HR0.out eH alC alD
     cases aw5
     replace YT := cl HB.out YT
     replace YU := cl HB.out YU
     replace alC := eq_true alC
     replace alD := eq_true alD
     go_wp2_with (first | (refine gV Tryz.func153 (fZ.calls A9.out) ?_; rintro aDl SN ⟨ho0, hb⟩; have Vj := ak (Kd.aA (Kd.gU ho0 (Kd.kX (ur iP.out))) (aj (ul HB.out))); replace iP := ak (Kd.fV (ur iP.out) (Kd.fQ ho0) hb); replace HB := bs HB hb; clear hb; (try clear ho0); obtain ⟨NH, CO, OL⟩ := Kd.aN Vj.out; subst OL) | ((with_reducible refine dZ (b := .append) (xs := #[.tmp 17, .tmp 22]) rfl ?_); at_builtin; refine Kd.qA Kd.string (w0 := w) w.heap.size rfl (.tmp 17) (.tmp 22) 23 9 (.string ⟨#[]⟩) 16 rfl Tryz.underlying23 info9 rfl (by decide) (by omega) u4 dW abA _ _ _ (fun k_ => some k_ ≠ (.slice NH abA.length CO : Value).ownBlock) (fun _ => False) rfl rfl ?aO ?aR (fun _ _ h => h) (fun _ h => h.elim) ?aF ?aB ?aS ?aL ?_; (case aR => repeat (first | exact (Kd.au Vj.out).2.2 | (with_reducible refine Kd.ql ?_ _) | (with_reducible refine Kd.qm ?_ _) | (with_reducible refine Kd.tJ ?_))); (case aB => exact (ul HB.out)); (case aF => exact (fun k_ hk => Kd.fresh' (Kd.kX (ur Vj.out)) k_ hk)); (case aO => exact (ur (Kd.aZ iP.out (fun _ hk => hk.2)))); (case aS => exact (aj (ul HB.out))); (case aL => have := U9.out; omega); intro aDm w12 ho hb hg hat; rw [← aiA.out] at ho; have aoX := ak (ho); replace Vj := ak (Kd.zJ (ok := (fun _ => True)) (ur Vj.out) hg hat); replace HB := ak (hb); clear ho hb hg hat iP))
     go_roundg k1
     case measure => exact kl
     case rel => exact ⟨_, _, rs, H', ⟨kl⟩, ⟨ur (Kd.aZ aoX.out (fun _ hk => trivial))⟩, ⟨ul HB.out⟩⟩
    ·
     obtain ⟨rfl, rfl⟩ := s2 H
     go_wp2
     go_ret2
     exact ⟨_, er, ur iP.out, ul HB.out⟩
 ·
  obtain ⟨rfl, rfl⟩ := s2 H
  go_enter Tryz.func107, Tryz.ntmps107
  go_wp2_with (first | (refine GN 6 Kd.string 9 aiz ?_; intro aw4 Q8 NC hb; have OX := ak (Kd.aA NC (aj (ul HB.out))); replace HB := bs HB hb; clear hb NC) | (refine gB Tryz.func113 (gu.calls (cu (Kd.aW HR0.out HB.out)) xq.out A2.out) ?_; intro w16 hb; replace OX := rb OX hb; replace HB := bs HB hb; clear hb))
  go_ret2
  exact ⟨_, er, ur OX.out, ul HB.out⟩
def iD.f (a0 : ByteArray) : Option (ByteArray) := if a0.size ≤ 140737488355328 then some (strOfNums ((bytesOf a0).map QG)) else none
set_option maxHeartbeats 1000000 in
set_option maxRecDepth 100000 in
theorem iD.calls {a0 r : ByteArray} {w : World} (h : iD.f a0 = some r) :
  Calls Tryz.prog 180 #[.string a0] w fun e w' => e = .returned (.string r) ∧ Below w.heap.size w w' := by
 unfold iD.f at h
 split at h
 ·
  rename_i hb
  injection h with h
  subst h
  have kb := fun W => MO (P := Tryz.prog) 9 22 5 Tryz.underlying9 Tryz.underlying22 Tryz.underlying5 a0 W
  go_enter Tryz.func180, Tryz.ntmps180
  go_wp2
  go_loopw [4] (fun i W => ∃ k : Nat, k ≤ a0.size ∧ i = .int .i64 k ∧ Ld w w.heap.size (Ez (bytesOf a0) k) W) (fun i _ => a0.size - (intOf i).toNat)
  case atStart => exact ⟨0, Nat.zero_le _, rfl, by simpa [Ez] using Je w 5 a0⟩
  case round =>
   obtain ⟨k, hk, rfl, hR⟩ := hrel
   have HR := ak hR
   by_cases hlt : k < a0.size
   ·
    have hc := hR.cell k (by rw [mM, bytesOf_length]; exact hlt)
    have hf := hR.free k (by rw [mM, bytesOf_length]; exact hlt)
    rw [Tn _ _ (by rw [bytesOf_length]; exact hlt)] at hc
    clear hR
    have hr := GR a0 k
    have hs := ak (Rh (bytesOf a0) k (by rw [bytesOf_length]; exact hlt))
    have hu := ak (Le (bytesOf a0) k (by rw [bytesOf_length]; exact hlt))
    generalize (bytesOf a0).getD k 0 = c at hc hr hs hu
    go_wp2
    ·
     go_roundw
     case rel => exact ⟨k + 1, by omega, by go_num, by
      rw [hu.out, QG, if_pos ⟨by omega, by omega⟩]
      exact HR.out.store (Nat.le_refl _) k (by rw [mM, bytesOf_length]; exact hlt) _⟩
     case measure => simp [intOf]; omega
    ·
     go_roundw
     case rel => exact ⟨k + 1, by omega, by go_num, by rw [hs.out (by omega)]; exact HR.out⟩
     case measure => simp [intOf]; omega
    ·
     go_roundw
     case rel => exact ⟨k + 1, by omega, by go_num, by rw [hs.out (by omega)]; exact HR.out⟩
     case measure => simp [intOf]; omega
   ·
    clear hR
    have kd := run_convert_bytes_arg (P := Tryz.prog) wr 22 5 Tryz.underlying22 Tryz.underlying5 w.heap.size 0 a0.size (grownCap w a0.size 0 5) (Ez (bytesOf a0) k) (by rw [mM, bytesOf_length]) (fun i hi => by
     rw [Nat.zero_add]; exact HR.out.cell i (by rw [mM, bytesOf_length]; exact hi)) 9 Tryz.underlying9
    go_wp2
    go_ret
    have hk2 : k = a0.size := by omega
    exact ⟨by rw [hk2, Vk (bytesOf a0) a0.size (bytesOf_length a0)]; rfl, HR.out.below⟩
 ·
  cases h
def qE.f (a0 : ByteArray) (a1 : ByteArray) : Option (Bool) := (iD.f a0).bind fun aoY => ((iD.f a1).bind fun aoZ => (some (aoY.toList == aoZ.toList)))
theorem qE.calls {a0 a1 : ByteArray} {r : Bool} {w : World} (h : qE.f a0 a1 = some r) :
  Calls Tryz.prog 197 #[.string a0, .string a1] w fun e w' => e = .returned (.bool r) ∧ Below w.heap.size w w' := by
 have HB := ak (Below.refl w.heap.size w)
 unfold qE.f at h; have H := h
 clear h
 replace H := bd H; obtain ⟨aoY, A3, H⟩ := H; replace H := bd H; obtain ⟨aoZ, A4, H⟩ := H
 obtain rfl := s1 H
 go_enter Tryz.func197, Tryz.ntmps197
 go_wp2_with (first | (refine gB Tryz.func180 (iD.calls A3.out) ?_; intro w5 hb; replace HB := bs HB hb; clear hb) | (refine gB Tryz.func180 (iD.calls A4.out) ?_; intro w6 hb; replace HB := bs HB hb; clear hb))
 go_ret
 exact ⟨er, ul HB.out⟩
end Go.Proofs.YtncdadcmghglkaaGreatDoor.PFnCountParts
