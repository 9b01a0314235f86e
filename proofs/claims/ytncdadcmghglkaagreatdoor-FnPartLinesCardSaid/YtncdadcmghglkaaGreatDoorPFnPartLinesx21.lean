/- Printed walks; conditions: those in each statement. -/
import Derived.Test.YtncdadcmghglkaaGreatDoorVFnPartLinesQt
import Derived.Test.YtncdadcmghglkaaGreatDoorVFnPartLinesYt
import Derived.Test.YtncdadcmghglkaaGreatDoorPFnPartLinesx0
import Derived.Test.YtncdadcmghglkaaGreatDoorPFnPartLinesx2
-- fixed
-- short
-- dense
-- sq
-- sq2
namespace Go.Proofs.YtncdadcmghglkaaGreatDoor.PFnPartLines
open Go.RowKit Go.Proofs.YtncdadcmghglkaaGreatDoor.X Go.Proofs.YtncdadcmghglkaaGreatDoorW.bI Go.Proofs.YtncdadcmghglkaaGreatDoorW.iy Go.Proofs.YtncdadcmghglkaaGreatDoorW.iZ
attribute [local go_sem] kZ lg nK nM jW jX lq lu   -- for this text's walks alone
set_option linter.unusedVariables false
set_option maxHeartbeats 8000000
set_option maxRecDepth 100000
set_option linter.unusedSimpArgs false
mutual
def gu.l0 : Nat → List (gX) → Int → Option (Bool)
 | 0, _, _ => none
 | k + 1, x0, x3 => if x3 < (x0.length : Int) then (gu.j1 k x0 x3 (decide (x3 ≤ 20))) else (gu.j1 k x0 x3 false)
def gu.j1 : Nat → List (gX) → Int → Bool → Option (Bool)
 | 0, _, _, _ => none
 | k + 1, x0, x3, x11 => if x11 = true then (if 0 ≤ x3 then (if x3 < (x0.length : Int) then ((je.f k ((fC x0 x3).f0) ((fC x0 x3).f1)).bind fun arO => (if arO = true then (gu.l0 k x0 (wrap64 (x3 + 1))) else (some false))) else (none)) else (none)) else (some (decide ((x0.length : Int) ≤ 20)))
end
def gu.f (k : Nat) (l0 : List (gX)) : Option (Bool) := gu.l0 k l0 0
theorem gu.calls {k c0 : Nat} {A0 : Option Addr} {l0 : List (gX)} {r : Bool} {w : World} (hr0 : Kd.C qI w A0 l0.length l0) (hc0 : l0.length ≤ c0) (h : gu.f k l0 = some r) :
  Calls Tryz.prog 113 #[.slice A0 l0.length c0] w fun e w' => e = .returned (.bool r) ∧ Below w.heap.size w w' := by
 have Dn := Tryz.underlying69
 have HR0 := ak hr0
 have xE := ak hc0
 clear hr0 hc0
 have HB := ak (Below.refl w.heap.size w)
 unfold gu.f at h; have H := h
 clear h
 have H' := ak H; clear H
 go_enter Tryz.func113, Tryz.ntmps113
 go_wp2
 go_loopg [3] k (fun kq v3 w' => ∃ (dW : Int), v3 = .int .i64 dW ∧ ah (gu.l0 kq l0 dW = some r) ∧ ah (kq ≤ k) ∧ ah (Below w.heap.size w w'))
 case atStart => exact ⟨_, rs, H', ⟨Nat.le_refl _⟩, ⟨ul HB.out⟩⟩
 case round =>
  clear H'
  obtain ⟨dW, rfl, HA, xI, HB⟩ := hrel
  cases gk with
  | zero => exact zz HA.out
  | succ k1 =>
   obtain ⟨H⟩ := HA
   simp only [gu.l0] at H
   have HC2 := ak H
   clear H
   go_upto_region 2 with (fail)
   go_cut [11] (fun v11 wc => ∃ (kq : Nat) (uq : Bool), v11 = .bool uq ∧ ah (gu.j1 kq l0 dW uq = some r) ∧ ah (kq ≤ k1) ∧ ah (Below w.heap.size w wc))
   case first =>
    have H := HC2.out
    clear HC2
    replace H := sd H
    rcases H with ⟨iO, H⟩ | ⟨iO, H⟩
    ·
     (first | rw [iO] | (simp only [iK, jI]; rw [iO]) | skip)
     have H' := ak H; clear H
     go_wp2
     go_meet
     case rel => exact ⟨_, _, rs, H', ⟨kl⟩, ⟨ul HB.out⟩⟩
    ·
     (first | rw [iO] | (simp only [iK, jI]; rw [iO]) | skip)
     have H' := ak H; clear H
     go_wp2
     go_meet
     case rel => exact ⟨_, _, rs, H', ⟨kl⟩, ⟨ul HB.out⟩⟩
   case rest =>
    clear HC2
    obtain ⟨kq, uq, rfl, HA, HJ1, HB⟩ := hcut
    cases kq with
    | zero => exact zz HA.out
    | succ NK =>
     obtain ⟨H⟩ := HA
     simp only [gu.j1] at H
     replace H := sb H
     rcases H with ⟨rfl, H⟩ | ⟨rfl, H⟩
     ·
      replace H := oq H; obtain ⟨mW, H⟩ := H; replace H := oq H; obtain ⟨nN, H⟩ := H; replace H := bd H; obtain ⟨arO, A7, H⟩ := H; replace H := sb H
      rcases H with ⟨rfl, H⟩ | ⟨rfl, H⟩
      ·
       have H' := ak H; clear H
       have XD := zi dW
       have XE := zj dW l0.length
       obtain ⟨arP, amm, Ju, Jv⟩ := qL HR0.out dW XD XE
       cases amm
       replace Ju := cl HB.out Ju
       replace Jv := cl HB.out Jv
       replace XD := eq_true XD
       replace XE := eq_true XE
       go_wp2_with (refine gB Tryz.func158 (je.calls A7.out) ?_; intro w9 hb; replace HB := bs HB hb; clear hb)
       go_roundg NK
       case measure => exact kl
       case rel => exact ⟨_, rs, H', ⟨kl⟩, ⟨ul HB.out⟩⟩
      ·
       obtain rfl := s1 H
       have XD := zi dW
       have XE := zj dW l0.length
       obtain ⟨arP, amm, Ju, Jv⟩ := qL HR0.out dW XD XE
       cases amm
       replace Ju := cl HB.out Ju
       replace Jv := cl HB.out Jv
       replace XD := eq_true XD
       replace XE := eq_true XE
       go_wp2_with (refine gB Tryz.func158 (je.calls A7.out) ?_; intro w10 hb; replace HB := bs HB hb; clear hb)
       go_ret
       exact ⟨er, ul HB.out⟩
     ·
      obtain rfl := s1 H
      go_wp2
      go_ret
      exact ⟨er, ul HB.out⟩
mutual
def eH.l0 : Nat → ByteArray → Int → Int → Option (Int)
 | 0, _, _, _ => none
 | k + 1, x0, x5, x6 => if (wrap64 (x6 + 1)) < (x0.size : Int) then (if 0 ≤ x6 then (if x6 < (x0.size : Int) then (if (bt x0 x6) = 32 then (if 0 ≤ (wrap64 (x6 - 1)) then (if (wrap64 (x6 - 1)) < (x0.size : Int) then (if (bt x0 (wrap64 (x6 - 1))) = 32 then (eH.j1 k x0 x5 x6 true) else (if 0 ≤ (wrap64 (x6 + 1)) then (eH.j1 k x0 x5 x6 ((bt x0 (wrap64 (x6 + 1))) == 32)) else (none))) else (none)) else (none)) else (eH.j1 k x0 x5 x6 true)) else (none)) else (none)) else (some x5)
def eH.j1 : Nat → ByteArray → Int → Int → Bool → Option (Int)
 | 0, _, _, _, _ => none
 | k + 1, x0, x5, x6, x33 => if x33 = true then (eH.l0 k x0 x5 (wrap64 (x6 + 1))) else (if x6 ≤ 40 then (eH.l0 k x0 x6 (wrap64 (x6 + 1))) else (if x5 < 0 then (eH.l0 k x0 x6 (wrap64 (x6 + 1))) else (eH.l0 k x0 x5 (wrap64 (x6 + 1)))))
end
def eH.f (k : Nat) (a0 : ByteArray) (a1 : Int) : Option (Int) := eH.l0 k a0 (-1) (wrap64 (a1 + 1))
theorem eH.calls {k : Nat} {a0 : ByteArray} {a1 r : Int} {w : World} (h : eH.f k a0 a1 = some r) :
  Calls Tryz.prog 176 #[.string a0, .int .i64 a1] w fun e w' => e = .returned (.int .i64 r) ∧ dP w w' := by
 unfold eH.f at h; have H := h
 clear h
 have H' := ak H; clear H
 go_enter Tryz.func176, Tryz.ntmps176
 go_wp2
 go_loopg [5, 6] k (fun kq v5 v6 w' => ∃ (dM : Int) (jy : Int), v5 = .int .i64 dM ∧ v6 = .int .i64 jy ∧ ah (eH.l0 kq a0 dM jy = some r) ∧ ah (kq ≤ k) ∧ dP w w')
 case atStart => exact ⟨_, _, rs, rs, H', ⟨Nat.le_refl _⟩, dn⟩
 case round =>
  clear H'
  obtain ⟨dM, jy, rfl, rfl, HA, xI, ⟨m1, rfl⟩⟩ := hrel
  cases gk with
  | zero => exact zz HA.out
  | succ k1 =>
   obtain ⟨H⟩ := HA
   simp only [eH.l0] at H
   replace H := sp H
   rcases H with ⟨c3, H⟩ | ⟨c3, H⟩
   ·
    have iO := decide_eq_true c3
    (try (have yK : decide ((jy + 1) < (a0.size : Int)) = true := decide_eq_true (by have h_ := c3; unfold wrap64 at h_; omega)))
    clear c3
    have HC4 := ak H
    clear H
    go_upto_region 5 with (fail)
    go_cut [33] (fun v33 wc => ∃ (kq : Nat) (ad5 : Bool), v33 = .bool ad5 ∧ ah (eH.j1 kq a0 dM jy ad5 = some r) ∧ ah (kq ≤ k1) ∧ dP w wc)
    case first =>
     have H := HC4.out
     clear HC4
     replace H := oq H; obtain ⟨mW, H⟩ := H
     (first | rw [mW] | (simp only [iK, jI]; rw [mW]) | skip)
     replace H := oq H; obtain ⟨nN, H⟩ := H; replace H := sq H
     rcases H with ⟨tX, Eu, H⟩ | ⟨c8, tX, Eu, H⟩
     ·
      obtain ⟨OV, H8⟩ : ∃ j_ : Int, (wrap64 (jy - 1)) = j_ := ⟨_, rfl⟩
      replace H : (if 0 ≤ (OV) then (if (OV) < (a0.size : Int) then (if (bt a0 (OV)) = 32 then (eH.j1 k1 a0 dM jy true) else (if 0 ≤ (wrap64 (jy + 1)) then (eH.j1 k1 a0 dM jy ((bt a0 (wrap64 (jy + 1))) == 32)) else (none))) else (none)) else (none)) = some r := by first | (rw [H8] at H; exact H) | (simp only [H8] at H ⊢; exact H)
      have ahU : (IntKind.i64.wrap (jy - 1)) = OV := (iK _).trans H8
      replace H := oq H; obtain ⟨nY, H⟩ := H; replace H := oq H; obtain ⟨t_, H⟩ := H; replace H := sq H
      rcases H with ⟨vw, zy, H⟩ | ⟨c13, vw, zy, H⟩
      ·
       have H' := ak H; clear H
       obtain ⟨p7, q7, hx7⟩ := bx a0 jy
       obtain ⟨p12, q12, amg⟩ := bx a0 (OV)
       go_wp2
       go_meet
       case rel => exact ⟨_, _, rs, H', ⟨kl⟩, dn⟩
      ·
       obtain ⟨IW, IX⟩ : ∃ j_ : Int, (wrap64 (jy + 1)) = j_ := ⟨_, rfl⟩
       replace H : (if 0 ≤ (IW) then (eH.j1 k1 a0 dM jy ((bt a0 (IW)) == 32)) else (none)) = some r := by first | (rw [IX] at H; exact H) | (simp only [IX] at H ⊢; exact H)
       (try rw [IX] at iO)
       have ayV : (IntKind.i64.wrap (jy + 1)) = IW := (iK _).trans IX
       replace H := oq H; obtain ⟨vC, H⟩ := H
       have H' := ak H; clear H
       obtain ⟨p7, q7, hx7⟩ := bx a0 jy
       obtain ⟨p12, q12, amg⟩ := bx a0 (OV)
       obtain ⟨p16, q16, hx16⟩ := bx a0 (IW)
       go_wp2
       go_meet
       case rel => exact ⟨_, _, (by first | rfl | (simp; done) | (simp only [← IX] <;> (first | rfl | simp)) | (simp [*]; done)), H', ⟨kl⟩, dn⟩
     ·
      have H' := ak H; clear H
      obtain ⟨p7, q7, hx7⟩ := bx a0 jy
      go_wp2
      go_meet
      case rel => exact ⟨_, _, rs, H', ⟨kl⟩, dn⟩
    case rest =>
     clear HC4
     try clear c3
     try clear iO
     try clear yK
     obtain ⟨kq, ad5, rfl, HA, HJ3, ⟨mc3, rfl⟩⟩ := hcut
     cases kq with
     | zero => exact zz HA.out
     | succ kj3 =>
      obtain ⟨H⟩ := HA
      simp only [eH.j1] at H
      replace H := sb H
      rcases H with ⟨rfl, H⟩ | ⟨rfl, H⟩
      ·
       have H' := ak H; clear H
       go_wp2
       go_roundg kj3
       case measure => exact kl
       case rel => exact ⟨_, _, rs, rs, H', ⟨kl⟩, dn⟩
      ·
       replace H := sd H
       rcases H with ⟨vF, H⟩ | ⟨vF, H⟩
       ·
        have H' := ak H; clear H
        go_wp2
        go_roundg kj3
        case measure => exact kl
        case rel => exact ⟨_, _, rs, rs, H', ⟨kl⟩, dn⟩
       ·
        replace H := sd H
        rcases H with ⟨z_, H⟩ | ⟨z_, H⟩
        ·
         have H' := ak H; clear H
         go_wp2
         go_roundg kj3
         case measure => exact kl
         case rel => exact ⟨_, _, rs, rs, H', ⟨kl⟩, dn⟩
        ·
         have H' := ak H; clear H
         go_wp2
         go_roundg kj3
         case measure => exact kl
         case rel => exact ⟨_, _, rs, rs, H', ⟨kl⟩, dn⟩
   ·
    have iO := decide_eq_false c3
    (try (have yK : decide ((jy + 1) < (a0.size : Int)) = false := decide_eq_false (by have h_ := c3; unfold wrap64 at h_; omega)))
    clear c3
    obtain rfl := s1 H
    go_wp2
    go_ret
    exact ⟨rs, dn⟩
mutual
def fU.j0 : Nat → List ByteArray → ByteArray → Int → Option (List ByteArray)
 | 0, _, _, _ => none
 | k + 1, x3, x4, x5 => fU.l0 k x3 x4 x5
def fU.l0 : Nat → List ByteArray → ByteArray → Int → Option (List ByteArray)
 | 0, _, _, _ => none
 | k + 1, x3, x4, x5 => if (x4.size : Int) > 40 then ((eH.f k x4 x5).bind fun Px => (if Px < 0 then (if x3.length < 8796093022208 then (some (x3 ++ [x4])) else (none)) else (if 0 ≤ Px then (if Px ≤ (x4.size : Int) then (if x3.length < 8796093022208 then (fU.l0 k (x3 ++ [x4.extract 0 (Px : Int).toNat]) (x4.extract (Px : Int).toNat x4.size) 1) else (none)) else (none)) else (none)))) else (if x3.length < 8796093022208 then (some (x3 ++ [x4])) else (none))
end
def fU.f (k : Nat) (eG : ByteArray) (eU : ByteArray) : Option (List ByteArray) := (some (([] : List ByteArray) : List ByteArray)).bind fun abA => ((je.f k eG eU).bind fun arQ => (if arQ = true then (if eG.size + 1 ≤ 9223372036854775807 then (if eU.toList = ([] : List UInt8) then (fU.j0 k abA (eG ++ (⟨#[58]⟩ : ByteArray)) ((eG ++ (⟨#[58]⟩ : ByteArray)).size : Int)) else (if (eG ++ (⟨#[58]⟩ : ByteArray)).size + 1 ≤ 9223372036854775807 then (if ((eG ++ (⟨#[58]⟩ : ByteArray)) ++ (⟨#[32]⟩ : ByteArray)).size + eU.size ≤ 9223372036854775807 then (fU.j0 k abA (((eG ++ (⟨#[58]⟩ : ByteArray)) ++ (⟨#[32]⟩ : ByteArray)) ++ eU) (wrap64 (((eG ++ (⟨#[58]⟩ : ByteArray)).size : Int) + 1))) else (none)) else (none))) else (none)) else (some abA)))
theorem fU.calls {k : Nat} {eG eU : ByteArray} {r : List ByteArray} {w : World} (h : fU.f k eG eU = some r) :
  Calls Tryz.prog 153 #[.agg #[.string eG, .string eU]] w fun e w' => ∃ oV : Value, e = .returned (oV) ∧ Kd.R Kd.string 9 w' w.heap.size (fun _ => True) oV r ∧ Below w.heap.size w w' := by
 have Dn := Tryz.underlying69
 have HB := ak (Below.refl w.heap.size w)
 unfold fU.f at h; have H := h
 clear h
 replace H := ny H
 obtain ⟨abA, ajh, H⟩ := H
 replace H := bd H; obtain ⟨arQ, A2, H⟩ := H; replace H := sb H
 rcases H with ⟨rfl, H⟩ | ⟨rfl, H⟩
 ·
  replace H := nn H; obtain ⟨c4, H⟩ := H
  have qR := eq_true c4
  have Xk := decide_eq_true c4
  try have arR : (9223372036854775807 < eG.size + 1) = False := eq_false (Nat.not_lt.2 c4)
  have HC5 := ak H
  clear H
  go_enter Tryz.func153, Tryz.ntmps153
  go_upto_if 19 with (first | (refine bX HB 1 #[.string eG, .string eU] 69 ?_; intro Ru w6 rM arS hb; replace HB := bs HB hb; clear hb) | (refine Gu 7 Kd.string 9 ajh ?_; intro arT w7 ho8 hb; have Nh := ak (Kd.aC ho8 (aj bb)); replace rM := kb rM hb; replace HB := bz HB hb; clear hb ho8; have z9 := zC rM.out) | (refine gB Tryz.func158 (je.calls A2.out) ?_; intro w10 hb; replace Nh := rb Nh hb; replace rM := kb rM hb; replace HB := bz HB hb; clear hb; have z11 := zC rM.out))
  (try simp only [Act.put, yT, yU, l_c])
  go_cut [4, 5] (fun v4 v5 wc => ∃ (kq : Nat) (amn : ByteArray) (VF : Int), v4 = .string amn ∧ v5 = .int .i64 VF ∧ ah (fU.j0 kq abA amn VF = some r) ∧ ah (kq ≤ k) ∧ ah (Kd.R Kd.string 9 wc w.heap.size (fun _ => True) arT abA) ∧ ah (wc.heap[Ru]? = some (.cells #[.string eG, .string eU] 69 (0, 0))) ∧ ah (Below w.heap.size w wc))
  case first =>
   have H := HC5.out
   clear HC5
   replace H := sp H
   rcases H with ⟨c12, H⟩ | ⟨c12, H⟩
   ·
    have wU := beq_iff_eq.mpr c12
    have amo : (eU.toList).isEmpty = true := List.isEmpty_iff.mpr c12
    have CP := bne_eq_false_iff_eq.mpr c12
    clear c12
    (first | rw [wU] | (simp only [iK, jI]; rw [wU]) | skip)
    (first | (rw [amo]; simp only [Bool.not_true, Bool.not_false]) | skip)
    have H' := ak H; clear H
    go_wp2
    go_meet
    case rel => exact ⟨_, _, _, rs, rs, H', ⟨IL⟩, ⟨ur Nh.out⟩, ⟨ub rM.out⟩, ⟨bb⟩⟩
   ·
    have wU := beq_eq_false_iff_ne.mpr c12
    have amo : (eU.toList).isEmpty = false := List.isEmpty_eq_false_iff.mpr c12
    have CP := bne_iff_ne.mpr c12
    (first | rw [wU] | (simp only [iK, jI]; rw [wU]) | skip)
    (first | (rw [amo]; simp only [Bool.not_true, Bool.not_false]) | skip)
    replace H := nn H; obtain ⟨c13, H⟩ := H
    have vw := eq_true c13
    have zy := decide_eq_true c13
    try have aqi : (9223372036854775807 < eG.size + 1 + 1) = False := by have h_ := (eq_false (Nat.not_lt.2 c13) : (9223372036854775807 < (eG ++ (⟨#[58]⟩ : ByteArray)).size + 1) = False); simp only [ByteArray.size_append] at h_; exact h_
    try have ahV : (9223372036854775807 < (eG ++ (⟨#[58]⟩ : ByteArray)).size + 1) = False := eq_false (Nat.not_lt.2 c13)
    replace H := nn H; obtain ⟨c14, H⟩ := H
    have sH := eq_true c14
    have wS := decide_eq_true c14
    try have aBD : (9223372036854775807 < eG.size + 1 + 1 + eU.size) = False := by have h_ := (eq_false (Nat.not_lt.2 c14) : (9223372036854775807 < ((eG ++ (⟨#[58]⟩ : ByteArray)) ++ (⟨#[32]⟩ : ByteArray)).size + eU.size) = False); simp only [ByteArray.size_append] at h_; exact h_
    try have arU : (9223372036854775807 < ((eG ++ (⟨#[58]⟩ : ByteArray)) ++ (⟨#[32]⟩ : ByteArray)).size + eU.size) = False := eq_false (Nat.not_lt.2 c14)
    have H' := ak H; clear H
    have z15 := zC rM.out
    go_wp2
    go_meet
    case rel => exact ⟨_, _, _, rs, rs, H', ⟨IL⟩, ⟨ur Nh.out⟩, ⟨ub rM.out⟩, ⟨bb⟩⟩
  case rest =>
   clear HC5
   try clear c4
   try clear qR
   try clear Xk
   try clear arR
   obtain ⟨kq, amn, VF, rfl, rfl, HA, HJ4, oH, rM, HB⟩ := hcut
   cases kq with
   | zero => exact zz HA.out
   | succ kj4 =>
    obtain ⟨H⟩ := HA
    simp only [fU.j0] at H
    have H' := ak H; clear H
    go_wp2
    go_loopg [3, 4, 5] kj4 (fun kq v3 v4 v5 w' => ∃ (kV : List ByteArray) (oh : ByteArray) (sG : Int), v4 = .string oh ∧ v5 = .int .i64 sG ∧ ah (fU.l0 kq kV oh sG = some r) ∧ ah (kq ≤ kj4) ∧ ah (Kd.R Kd.string 9 w' w.heap.size (fun _ => True) v3 kV) ∧ ah (w'.heap[Ru]? = some (.cells #[.string eG, .string eU] 69 (0, 0))) ∧ ah (Below w.heap.size w w'))
    case atStart => exact ⟨_, _, _, rs, rs, H', ⟨Nat.le_refl _⟩, ⟨ur oH.out⟩, ⟨ub rM.out⟩, ⟨bb⟩⟩
    case round =>
     clear H'
     try clear c4
     try clear qR
     try clear Xk
     try clear arR
     obtain ⟨kV, oh, sG, rfl, rfl, HA, MJ, oH, rM, HB⟩ := hrel
     cases gk with
     | zero => exact zz HA.out
     | succ k2 =>
      obtain ⟨H⟩ := HA
      simp only [fU.l0] at H
      replace H := sp H
      rcases H with ⟨c16, H⟩ | ⟨c16, H⟩
      ·
       have zA : decide (40 < (oh.size : Int)) = true := decide_eq_true c16
       have Jw : decide (40 < oh.size) = true := decide_eq_true (by omega)
       clear c16
       replace H := bd H; obtain ⟨Px, A17, H⟩ := H; replace H := sd H
       rcases H with ⟨vF, H⟩ | ⟨vF, H⟩
       ·
        replace H := nl H; obtain ⟨adt, H⟩ := H
        obtain ⟨aFs, aji⟩ := nm (kV ++ [oh])
        rw [← aji.out] at H
        obtain rfl := s1 H
        go_wp2_with (first | (refine gA Tryz.func176 (eH.calls A17.out) ?_; intro nd) | ((with_reducible refine eu (b := .append) (xs := #[.tmp 44, .tmp 46]) rfl ?_); at_builtin; refine Kd.pV Kd.string (w0 := w) w.heap.size rfl (.tmp 44) (.tmp 46) 23 9 (.string ⟨#[]⟩) 16 rfl Tryz.underlying23 info9 rfl (by decide) (by omega) u3 kV oh [.string oh] (fun _ => True) (fun _ => False) rfl rfl ?aP (fun _ hk => hk.elim) ?aF ?aO ?aB ?aS ?aL ?_; (case aP => exact rfl); (case aB => exact bb); (case aF => exact (fun _ _ => trivial)); (case aO => exact (ur oH.out)); (case aS => exact (aj bb)); (case aL => have := adt.out; omega); intro aFt w20 ho hb hg hat; rw [← aji.out] at ho; have arV := ak (ho); replace rM := ak (cZ (g := Ru) (o := .cells #[.string eG, .string eU] 69 (0, 0)) (ub rM.out) hg (Kd.oG oH.out rM.out (by decide))); replace HB := ak (hb); clear ho hb hg hat oH))
        go_ret
        exact ⟨_, er, ur arV.out, bb⟩
       ·
        replace H := yL H; obtain ⟨D_, aiD, H⟩ := H; replace H := yL H; obtain ⟨ES, Za, H⟩ := H; replace H := nl H; obtain ⟨ad6, H⟩ := H
        obtain ⟨aFu, ajj⟩ := nm (kV ++ [oh.extract 0 (Px : Int).toNat])
        rw [← ajj.out] at H
        have Pm := eq_true (of_decide_eq_true (by assumption) : 0 ≤ Px)
        have Pg := eq_true (of_decide_eq_true (by assumption) : Px ≤ (oh.size : Int))
        have H' := ak H; clear H
        go_wp2_with (first | (refine gA Tryz.func176 (eH.calls A17.out) ?_; intro nd) | ((with_reducible refine eu (b := .append) (xs := #[.tmp 35, .tmp 39]) rfl ?_); at_builtin; refine Kd.pV Kd.string (w0 := w) w.heap.size rfl (.tmp 35) (.tmp 39) 23 9 (.string ⟨#[]⟩) 16 rfl Tryz.underlying23 info9 rfl (by decide) (by omega) u3 kV (oh.extract 0 (Px : Int).toNat) [.string (oh.extract 0 (Px : Int).toNat)] (fun _ => True) (fun _ => False) rfl rfl ?aP (fun _ hk => hk.elim) ?aF ?aO ?aB ?aS ?aL ?_; (case aP => exact rfl); (case aB => exact bb); (case aF => exact (fun _ _ => trivial)); (case aO => exact (ur oH.out)); (case aS => exact (aj bb)); (case aL => have := ad6.out; omega); intro aFv w26 ho hb hg hat; rw [← ajj.out] at ho; have arW := ak (ho); replace rM := ak (cZ (g := Ru) (o := .cells #[.string eG, .string eU] 69 (0, 0)) (ub rM.out) hg (Kd.oG oH.out rM.out (by decide))); replace HB := ak (hb); clear ho hb hg hat oH))
        go_roundg k2
        case measure => exact kl
        case rel => exact ⟨_, _, _, rs, rs, H', ⟨kl⟩, ⟨ur arW.out⟩, ⟨ub rM.out⟩, ⟨bb⟩⟩
      ·
       have zA : decide (40 < (oh.size : Int)) = false := decide_eq_false c16
       have Jw : decide (40 < oh.size) = false := decide_eq_false (by omega)
       clear c16
       replace H := nl H; obtain ⟨adU, H⟩ := H
       obtain ⟨aFw, ajk⟩ := nm (kV ++ [oh])
       rw [← ajk.out] at H
       obtain rfl := s1 H
       go_wp2_with ((with_reducible refine eu (b := .append) (xs := #[.tmp 44, .tmp 46]) rfl ?_); at_builtin; refine Kd.pV Kd.string (w0 := w) w.heap.size rfl (.tmp 44) (.tmp 46) 23 9 (.string ⟨#[]⟩) 16 rfl Tryz.underlying23 info9 rfl (by decide) (by omega) u3 kV oh [.string oh] (fun _ => True) (fun _ => False) rfl rfl ?aP (fun _ hk => hk.elim) ?aF ?aO ?aB ?aS ?aL ?_; (case aP => exact rfl); (case aB => exact bb); (case aF => exact (fun _ _ => trivial)); (case aO => exact (ur oH.out)); (case aS => exact (aj bb)); (case aL => have := adU.out; omega); intro aFx w28 ho hb hg hat; rw [← ajk.out] at ho; have arX := ak (ho); replace rM := ak (cZ (g := Ru) (o := .cells #[.string eG, .string eU] 69 (0, 0)) (ub rM.out) hg (Kd.oG oH.out rM.out (by decide))); replace HB := ak (hb); clear ho hb hg hat oH)
       go_ret
       exact ⟨_, er, ur arX.out, bb⟩
 ·
  obtain rfl := s1 H
  go_enter Tryz.func153, Tryz.ntmps153
  go_wp2_with (first | (refine bX HB 1 #[.string eG, .string eU] 69 ?_; intro Ru w29 rM arS hb; replace HB := bs HB hb; clear hb) | (refine Gu 7 Kd.string 9 ajh ?_; intro arT w30 arY hb; have Nh := ak (Kd.aC arY (aj bb)); replace rM := kb rM hb; replace HB := bz HB hb; clear hb arY; have z32 := zC rM.out) | (refine gB Tryz.func158 (je.calls A2.out) ?_; intro w33 hb; replace Nh := rb Nh hb; replace rM := kb rM hb; replace HB := bz HB hb; clear hb))
  go_ret
  exact ⟨_, er, ur Nh.out, bb⟩
def iR.l0 : Nat → List (gX) → List ByteArray → Int → Option (List ByteArray × Bool)
 | 0, _, _, _ => none
 | k + 1, x0, x4, x5 => if x5 < (x0.length : Int) then (if 0 ≤ x5 then ((fU.f k ((fC x0 x5).f0) ((fC x0 x5).f1)).bind fun abB => (if x4.length + abB.length < 8796093022208 then (iR.l0 k x0 (x4 ++ abB) (wrap64 (x5 + 1))) else (none))) else (none)) else (some (x4, true))
def iR.f (k : Nat) (l0 : List (gX)) : Option (List ByteArray × Bool) := (some (([] : List ByteArray) : List ByteArray)).bind fun amq => ((gu.f k l0).bind fun arZ => (if arZ = true then (iR.l0 k l0 amq 0) else (some (amq, false))))
theorem iR.calls {k c0 : Nat} {A0 : Option Addr} {l0 : List (gX)} {r1 : List ByteArray} {r2 : Bool} {w : World} (hr0 : Kd.C qI w A0 l0.length l0) (hc0 : l0.length ≤ c0) (h : iR.f k l0 = some (r1, r2)) :
  Calls Tryz.prog 107 #[.slice A0 l0.length c0] w fun e w' => ∃ oV : Value, e = .returned (.tuple #[oV, .bool r2]) ∧ Kd.R Kd.string 9 w' w.heap.size (fun _ => True) oV r1 ∧ Below w.heap.size w w' := by
 have Dn := Tryz.underlying69
 have HR0 := ak hr0
 have xE := ak hc0
 clear hr0 hc0
 have HB := ak (Below.refl w.heap.size w)
 unfold iR.f at h; have H := h
 clear h
 replace H := ny H
 obtain ⟨amq, ajl, H⟩ := H
 replace H := bd H; obtain ⟨arZ, A2, H⟩ := H; replace H := sb H
 rcases H with ⟨rfl, H⟩ | ⟨rfl, H⟩
 ·
  have H' := ak H; clear H
  go_enter Tryz.func107, Tryz.ntmps107
  go_wp2_with (first | (refine Gu 6 Kd.string 9 ajl ?_; intro ayW w4 ho5 hb; have Py := ak (Kd.aC ho5 (aj (ul HB.out))); replace HB := bs HB hb; clear hb ho5) | (refine gB Tryz.func113 (gu.calls (cu (Kd.bf HR0.out HB.out)) xE.out A2.out) ?_; intro w6 hb; replace Py := rb Py hb; replace HB := bs HB hb; clear hb))
  go_loopg [4, 5] k (fun kq v4 v5 w' => ∃ (eP : List ByteArray) (dM : Int), v5 = .int .i64 dM ∧ ah (iR.l0 kq l0 eP dM = some (r1, r2)) ∧ ah (kq ≤ k) ∧ ah (Kd.R Kd.string 9 w' w.heap.size (fun _ => True) v4 eP) ∧ ah (Below w.heap.size w w'))
  case atStart => exact ⟨_, _, rs, H', ⟨Nat.le_refl _⟩, ⟨ur Py.out⟩, ⟨ul HB.out⟩⟩
  case round =>
   clear H'
   obtain ⟨eP, dM, rfl, HA, xI, dO, HB⟩ := hrel
   cases gk with
   | zero => exact zz HA.out
   | succ k1 =>
    obtain ⟨H⟩ := HA
    simp only [iR.l0] at H
    replace H := sd H
    rcases H with ⟨rF, H⟩ | ⟨rF, H⟩
    ·
     replace H := oq H; obtain ⟨tX, H⟩ := H; replace H := bd H; obtain ⟨abB, A9, H⟩ := H; replace H := nl H; obtain ⟨Vx, H⟩ := H
     obtain ⟨aFy, ajm⟩ := nm (eP ++ abB)
     rw [← ajm.out] at H
     have H' := ak H; clear H
     have amr := zi dM
     have ams := zj dM l0.length
     obtain ⟨aBE, ayX, Zy, Zz⟩ := qL HR0.out dM amr ams
     cases ayX
     replace Zy := cl HB.out Zy
     replace Zz := cl HB.out Zz
     replace amr := eq_true amr
     replace ams := eq_true ams
     go_wp2_with (first | (refine gV Tryz.func153 (fU.calls A9.out) ?_; rintro aFz U3 ⟨ho0, hb⟩; have VG := ak (Kd.aC (Kd.dR ho0 (Kd.jh (ur dO.out))) (aj (ul HB.out))); replace dO := ak (Kd.bH (ur dO.out) (Kd.bZ ho0) hb); replace HB := bs HB hb; clear hb; (try clear ho0); obtain ⟨W9, IU, SY⟩ := Kd.aI VG.out; subst SY) | ((with_reducible refine eu (b := .append) (xs := #[.tmp 17, .tmp 22]) rfl ?_); at_builtin; refine Kd.ql Kd.string (w0 := w) w.heap.size rfl (.tmp 17) (.tmp 22) 23 9 (.string ⟨#[]⟩) 16 rfl Tryz.underlying23 info9 rfl (by decide) (by omega) u4 eP abB _ _ _ (fun k_ => some k_ ≠ (.slice W9 abB.length IU : Value).ownBlock) (fun _ => False) rfl rfl ?aO ?aR (fun _ _ h => h) (fun _ h => h.elim) ?aF ?aB ?aS ?aL ?_; (case aR => repeat (first | exact (Kd.ay VG.out).2.2 | (with_reducible refine Kd.ni ?_ _) | (with_reducible refine Kd.nC ?_ _) | (with_reducible refine Kd.pY ?_))); (case aB => exact (ul HB.out)); (case aF => exact (fun k_ hk => Kd.fresh' (Kd.jh (ur VG.out)) k_ hk)); (case aO => exact (ur (Kd.aY dO.out (fun _ hk => hk.2)))); (case aS => exact (aj (ul HB.out))); (case aL => have := Vx.out; omega); intro aFA w12 ho hb hg hat; rw [← ajm.out] at ho; have ar0 := ak (ho); replace VG := ak (Kd.zI (ok := (fun _ => True)) (ur VG.out) hg hat); replace HB := ak (hb); clear ho hb hg hat dO))
     go_roundg k1
     case measure => exact kl
     case rel => exact ⟨_, _, rs, H', ⟨kl⟩, ⟨ur (Kd.aY ar0.out (fun _ hk => trivial))⟩, ⟨ul HB.out⟩⟩
    ·
     obtain ⟨rfl, rfl⟩ := s2 H
     go_wp2
     go_ret2
     exact ⟨_, er, ur dO.out, ul HB.out⟩
 ·
  obtain ⟨rfl, rfl⟩ := s2 H
  go_enter Tryz.func107, Tryz.ntmps107
  go_wp2_with (first | (refine Gu 6 Kd.string 9 ajl ?_; intro ayW SS NJ hb; have Py := ak (Kd.aC NJ (aj (ul HB.out))); replace HB := bs HB hb; clear hb NJ) | (refine gB Tryz.func113 (gu.calls (cu (Kd.bf HR0.out HB.out)) xE.out A2.out) ?_; intro w16 hb; replace Py := rb Py hb; replace HB := bs HB hb; clear hb))
  go_ret2
  exact ⟨_, er, ur Py.out, ul HB.out⟩
def iF.f (a0 : ByteArray) : Option (ByteArray) := if a0.size ≤ 140737488355328 then some (strOfNums ((bytesOf a0).map QL)) else none
set_option maxHeartbeats 1000000 in
set_option maxRecDepth 100000 in
theorem iF.calls {a0 r : ByteArray} {w : World} (h : iF.f a0 = some r) :
  Calls Tryz.prog 180 #[.string a0] w fun e w' => e = .returned (.string r) ∧ Below w.heap.size w w' := by
 unfold iF.f at h
 split at h
 ·
  rename_i hb
  injection h with h
  subst h
  have kb := fun W => MS (P := Tryz.prog) 9 22 5 Tryz.underlying9 Tryz.underlying22 Tryz.underlying5 a0 W
  go_enter Tryz.func180, Tryz.ntmps180
  go_wp2
  go_loopw [4] (fun i W => ∃ k : Nat, k ≤ a0.size ∧ i = .int .i64 k ∧ Lc w w.heap.size (Ew (bytesOf a0) k) W) (fun i _ => a0.size - (intOf i).toNat)
  case atStart => exact ⟨0, Nat.zero_le _, rfl, by simpa [Ew] using I_ w 5 a0⟩
  case round =>
   obtain ⟨k, hk, rfl, hR⟩ := hrel
   have HR := ak hR
   by_cases hlt : k < a0.size
   ·
    have hc := hR.cell k (by rw [lX, bytesOf_length]; exact hlt)
    have hf := hR.free k (by rw [lX, bytesOf_length]; exact hlt)
    rw [TJ _ _ (by rw [bytesOf_length]; exact hlt)] at hc
    clear hR
    have hr := G6 a0 k
    have hs := ak (Rn (bytesOf a0) k (by rw [bytesOf_length]; exact hlt))
    have hu := ak (Ld (bytesOf a0) k (by rw [bytesOf_length]; exact hlt))
    generalize (bytesOf a0).getD k 0 = c at hc hr hs hu
    go_wp2
    ·
     go_roundw
     case rel => exact ⟨k + 1, by omega, by go_num, by
      rw [hu.out, QL, if_pos ⟨by omega, by omega⟩]
      exact HR.out.store (Nat.le_refl _) k (by rw [lX, bytesOf_length]; exact hlt) _⟩
     case measure => simp [intOf]; omega
    ·
     go_roundw
     case rel => exact ⟨k + 1, by omega, by go_num, by rw [hs.out (by omega)]; exact HR.out⟩
     case measure => simp [intOf]; omega
    ·
     go_roundw
     case rel => exact ⟨k + 1, by omega, by go_num, by rw [hs.out (by omega)]; exact HR.out⟩
     case measure => simp [intOf]; omega
   ·
    clear hR
    have kd := run_convert_bytes_arg (P := Tryz.prog) wr 22 5 Tryz.underlying22 Tryz.underlying5 w.heap.size 0 a0.size (grownCap w a0.size 0 5) (Ew (bytesOf a0) k) (by rw [lX, bytesOf_length]) (fun i hi => by
     rw [Nat.zero_add]; exact HR.out.cell i (by rw [lX, bytesOf_length]; exact hi)) 9 Tryz.underlying9
    go_wp2
    go_ret
    have hk2 : k = a0.size := by omega
    exact ⟨by rw [hk2, Vg (bytesOf a0) a0.size (bytesOf_length a0)]; rfl, HR.out.below⟩
 ·
  cases h
def qx.f (a0 : ByteArray) (a1 : ByteArray) : Option (Bool) := (iF.f a0).bind fun ar1 => ((iF.f a1).bind fun ar2 => (some (ar1.toList == ar2.toList)))
theorem qx.calls {a0 a1 : ByteArray} {r : Bool} {w : World} (h : qx.f a0 a1 = some r) :
  Calls Tryz.prog 197 #[.string a0, .string a1] w fun e w' => e = .returned (.bool r) ∧ Below w.heap.size w w' := by
 have HB := ak (Below.refl w.heap.size w)
 unfold qx.f at h; have H := h
 clear h
 replace H := bd H; obtain ⟨ar1, A3, H⟩ := H; replace H := bd H; obtain ⟨ar2, A4, H⟩ := H
 obtain rfl := s1 H
 go_enter Tryz.func197, Tryz.ntmps197
 go_wp2_with (first | (refine gB Tryz.func180 (iF.calls A3.out) ?_; intro w5 hb; replace HB := bs HB hb; clear hb) | (refine gB Tryz.func180 (iF.calls A4.out) ?_; intro w6 hb; replace HB := bs HB hb; clear hb))
 go_ret
 exact ⟨er, ul HB.out⟩
end Go.Proofs.YtncdadcmghglkaaGreatDoor.PFnPartLines
