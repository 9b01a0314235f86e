/- Printed walks; conditions: those in each statement. -/
import Derived.Test.YtncdadcmghglkaaGreatDoorVFnPartValidQt
import Derived.Test.YtncdadcmghglkaaGreatDoorVFnPartValidYt
import Derived.Test.YtncdadcmghglkaaGreatDoorPFnPartValidx0
-- fixed
-- short
-- dense
-- sq
-- sq2
namespace Go.Proofs.YtncdadcmghglkaaGreatDoor.PFnPartValid
open Go.RowKit Go.Proofs.YtncdadcmghglkaaGreatDoor.X Go.Proofs.YtncdadcmghglkaaGreatDoorW.bK Go.Proofs.YtncdadcmghglkaaGreatDoorW.gY Go.Proofs.YtncdadcmghglkaaGreatDoorW.iU
attribute [local go_sem] lu lC ng ni jO jP lD lF   -- for this text's walks alone
set_option linter.unusedVariables false
set_option maxHeartbeats 8000000
set_option maxRecDepth 100000
set_option linter.unusedSimpArgs false
mutual
def gW.l0 : Nat → List (gK) → Int → Option (Bool)
 | 0, _, _ => none
 | k + 1, x0, x3 => if x3 < (x0.length : Int) then (gW.j1 k x0 x3 (decide (x3 ≤ 20))) else (gW.j1 k x0 x3 false)
def gW.j1 : Nat → List (gK) → Int → Bool → Option (Bool)
 | 0, _, _, _ => none
 | k + 1, x0, x3, x11 => if x11 = true then (if 0 ≤ x3 then (if x3 < (x0.length : Int) then ((jv.f k ((dY x0 x3).f0) ((dY x0 x3).f1)).bind fun aqD => (if aqD = true then (gW.l0 k x0 (wrap64 (x3 + 1))) else (some false))) else (none)) else (none)) else (some (decide ((x0.length : Int) ≤ 20)))
end
def gW.f (k : Nat) (l0 : List (gK)) : Option (Bool) := gW.l0 k l0 0
theorem gW.calls {k c0 : Nat} {A0 : Option Addr} {l0 : List (gK)} {r : Bool} {w : World} (hr0 : Kd.C pU w A0 l0.length l0) (hc0 : l0.length ≤ c0) (h : gW.f k l0 = some r) :
  Calls Tryz.prog 113 #[.slice A0 l0.length c0] w fun e w' => e = .returned (.bool r) ∧ Below w.heap.size w w' := by
 have DK := Tryz.underlying69
 have HR0 := ak hr0
 have zq := ak hc0
 clear hr0 hc0
 have HB := ak (Below.refl w.heap.size w)
 unfold gW.f at h; have H := h
 clear h
 have H' := ak H; clear H
 go_enter Tryz.func113, Tryz.ntmps113
 go_wp2
 go_loopg [3] k (fun kq v3 w' => ∃ (dZ : Int), v3 = .int .i64 dZ ∧ ah (gW.l0 kq l0 dZ = some r) ∧ ah (kq ≤ k) ∧ ah (Below w.heap.size w w'))
 case atStart => exact ⟨_, rs, H', ⟨Nat.le_refl _⟩, ⟨ul HB.out⟩⟩
 case round =>
  clear H'
  obtain ⟨dZ, rfl, HA, yB, HB⟩ := hrel
  cases gk with
  | zero => exact zz HA.out
  | succ k1 =>
   obtain ⟨H⟩ := HA
   simp only [gW.l0] at H
   have HC2 := ak H
   clear H
   go_upto_region 2 with (fail)
   go_cut [11] (fun v11 wc => ∃ (kq : Nat) (wG : Bool), v11 = .bool wG ∧ ah (gW.j1 kq l0 dZ wG = some r) ∧ ah (kq ≤ k1) ∧ ah (Below w.heap.size w wc))
   case first =>
    have H := HC2.out
    clear HC2
    replace H := sd H
    rcases H with ⟨iP, H⟩ | ⟨iP, H⟩
    ·
     (first | rw [iP] | (simp only [eu, f_]; rw [iP]) | skip)
     have H' := ak H; clear H
     go_wp2
     go_meet
     case rel => exact ⟨_, _, rs, H', ⟨kl⟩, ⟨ul HB.out⟩⟩
    ·
     (first | rw [iP] | (simp only [eu, f_]; rw [iP]) | skip)
     have H' := ak H; clear H
     go_wp2
     go_meet
     case rel => exact ⟨_, _, rs, H', ⟨kl⟩, ⟨ul HB.out⟩⟩
   case rest =>
    clear HC2
    obtain ⟨kq, wG, rfl, HA, HJ1, HB⟩ := hcut
    cases kq with
    | zero => exact zz HA.out
    | succ Py =>
     obtain ⟨H⟩ := HA
     simp only [gW.j1] at H
     replace H := sb H
     rcases H with ⟨rfl, H⟩ | ⟨rfl, H⟩
     ·
      replace H := oN H; obtain ⟨nR, H⟩ := H; replace H := oN H; obtain ⟨oJ, H⟩ := H; replace H := bd H; obtain ⟨aqD, A7, H⟩ := H; replace H := sb H
      rcases H with ⟨rfl, H⟩ | ⟨rfl, H⟩
      ·
       have H' := ak H; clear H
       have Y4 := zi dZ
       have Y5 := zj dZ l0.length
       obtain ⟨aqE, am4, J7, J8⟩ := qC HR0.out dZ Y4 Y5
       cases am4
       replace J7 := cl HB.out J7
       replace J8 := cl HB.out J8
       replace Y4 := eq_true Y4
       replace Y5 := eq_true Y5
       go_wp2_with (refine gB Tryz.func158 (jv.calls A7.out) ?_; intro w9 hb; replace HB := bs HB hb; clear hb)
       go_roundg Py
       case measure => exact kl
       case rel => exact ⟨_, rs, H', ⟨kl⟩, ⟨ul HB.out⟩⟩
      ·
       obtain rfl := s1 H
       have Y4 := zi dZ
       have Y5 := zj dZ l0.length
       obtain ⟨aqE, am4, J7, J8⟩ := qC HR0.out dZ Y4 Y5
       cases am4
       replace J7 := cl HB.out J7
       replace J8 := cl HB.out J8
       replace Y4 := eq_true Y4
       replace Y5 := eq_true Y5
       go_wp2_with (refine gB Tryz.func158 (jv.calls A7.out) ?_; intro w10 hb; replace HB := bs HB hb; clear hb)
       go_ret
       exact ⟨er, ul HB.out⟩
     ·
      obtain rfl := s1 H
      go_wp2
      go_ret
      exact ⟨er, ul HB.out⟩
mutual
def fD.l0 : Nat → ByteArray → Int → Int → Option (Int)
 | 0, _, _, _ => none
 | k + 1, x0, x5, x6 => if (wrap64 (x6 + 1)) < (x0.size : Int) then (if 0 ≤ x6 then (if x6 < (x0.size : Int) then (if (bt x0 x6) = 32 then (if 0 ≤ (wrap64 (x6 - 1)) then (if (wrap64 (x6 - 1)) < (x0.size : Int) then (if (bt x0 (wrap64 (x6 - 1))) = 32 then (fD.j1 k x0 x5 x6 true) else (if 0 ≤ (wrap64 (x6 + 1)) then (fD.j1 k x0 x5 x6 ((bt x0 (wrap64 (x6 + 1))) == 32)) else (none))) else (none)) else (none)) else (fD.j1 k x0 x5 x6 true)) else (none)) else (none)) else (some x5)
def fD.j1 : Nat → ByteArray → Int → Int → Bool → Option (Int)
 | 0, _, _, _, _ => none
 | k + 1, x0, x5, x6, x33 => if x33 = true then (fD.l0 k x0 x5 (wrap64 (x6 + 1))) else (if x6 ≤ 40 then (fD.l0 k x0 x6 (wrap64 (x6 + 1))) else (if x5 < 0 then (fD.l0 k x0 x6 (wrap64 (x6 + 1))) else (fD.l0 k x0 x5 (wrap64 (x6 + 1)))))
end
def fD.f (k : Nat) (a0 : ByteArray) (a1 : Int) : Option (Int) := fD.l0 k a0 (-1) (wrap64 (a1 + 1))
theorem fD.calls {k : Nat} {a0 : ByteArray} {a1 r : Int} {w : World} (h : fD.f k a0 a1 = some r) :
  Calls Tryz.prog 176 #[.string a0, .int .i64 a1] w fun e w' => e = .returned (.int .i64 r) ∧ dW w w' := by
 unfold fD.f at h; have H := h
 clear h
 have H' := ak H; clear H
 go_enter Tryz.func176, Tryz.ntmps176
 go_wp2
 go_loopg [5, 6] k (fun kq v5 v6 w' => ∃ (fF : Int) (jW : Int), v5 = .int .i64 fF ∧ v6 = .int .i64 jW ∧ ah (fD.l0 kq a0 fF jW = some r) ∧ ah (kq ≤ k) ∧ dW w w')
 case atStart => exact ⟨_, _, rs, rs, H', ⟨Nat.le_refl _⟩, dn⟩
 case round =>
  clear H'
  obtain ⟨fF, jW, rfl, rfl, HA, yB, ⟨m1, rfl⟩⟩ := hrel
  cases gk with
  | zero => exact zz HA.out
  | succ k1 =>
   obtain ⟨H⟩ := HA
   simp only [fD.l0] at H
   replace H := sp H
   rcases H with ⟨c3, H⟩ | ⟨c3, H⟩
   ·
    have iP := decide_eq_true c3
    (try (have yU : decide ((jW + 1) < (a0.size : Int)) = true := decide_eq_true (by have h_ := c3; unfold wrap64 at h_; omega)))
    clear c3
    have HC4 := ak H
    clear H
    go_upto_region 5 with (fail)
    go_cut [33] (fun v33 wc => ∃ (kq : Nat) (aeD : Bool), v33 = .bool aeD ∧ ah (fD.j1 kq a0 fF jW aeD = some r) ∧ ah (kq ≤ k1) ∧ dW w wc)
    case first =>
     have H := HC4.out
     clear HC4
     replace H := oN H; obtain ⟨nR, H⟩ := H
     (first | rw [nR] | (simp only [eu, f_]; rw [nR]) | skip)
     replace H := oN H; obtain ⟨oJ, H⟩ := H; replace H := sq H
     rcases H with ⟨uj, DU, H⟩ | ⟨c8, uj, DU, H⟩
     ·
      obtain ⟨QH, Jb⟩ : ∃ j_ : Int, (wrap64 (jW - 1)) = j_ := ⟨_, rfl⟩
      replace H : (if 0 ≤ (QH) then (if (QH) < (a0.size : Int) then (if (bt a0 (QH)) = 32 then (fD.j1 k1 a0 fF jW true) else (if 0 ≤ (wrap64 (jW + 1)) then (fD.j1 k1 a0 fF jW ((bt a0 (wrap64 (jW + 1))) == 32)) else (none))) else (none)) else (none)) = some r := by first | (rw [Jb] at H; exact H) | (simp only [Jb] at H ⊢; exact H)
      have ajY : (IntKind.i64.wrap (jW - 1)) = QH := (eu _).trans Jb
      replace H := oN H; obtain ⟨pF, H⟩ := H; replace H := oN H; obtain ⟨vV, H⟩ := H; replace H := sq H
      rcases H with ⟨xk, AV, H⟩ | ⟨c13, xk, AV, H⟩
      ·
       have H' := ak H; clear H
       obtain ⟨p7, q7, hx7⟩ := bx a0 jW
       obtain ⟨p12, q12, am3⟩ := bx a0 (QH)
       go_wp2
       go_meet
       case rel => exact ⟨_, _, rs, H', ⟨kl⟩, dn⟩
      ·
       obtain ⟨J9, J_⟩ : ∃ j_ : Int, (wrap64 (jW + 1)) = j_ := ⟨_, rfl⟩
       replace H : (if 0 ≤ (J9) then (fD.j1 k1 a0 fF jW ((bt a0 (J9)) == 32)) else (none)) = some r := by first | (rw [J_] at H; exact H) | (simp only [J_] at H ⊢; exact H)
       (try rw [J_] at iP)
       have ayN : (IntKind.i64.wrap (jW + 1)) = J9 := (eu _).trans J_
       replace H := oN H; obtain ⟨xq, H⟩ := H
       have H' := ak H; clear H
       obtain ⟨p7, q7, hx7⟩ := bx a0 jW
       obtain ⟨p12, q12, am3⟩ := bx a0 (QH)
       obtain ⟨p16, q16, hx16⟩ := bx a0 (J9)
       go_wp2
       go_meet
       case rel => exact ⟨_, _, (by first | rfl | (simp; done) | (simp only [← J_] <;> (first | rfl | simp)) | (simp [*]; done)), H', ⟨kl⟩, dn⟩
     ·
      have H' := ak H; clear H
      obtain ⟨p7, q7, hx7⟩ := bx a0 jW
      go_wp2
      go_meet
      case rel => exact ⟨_, _, rs, H', ⟨kl⟩, dn⟩
    case rest =>
     clear HC4
     try clear c3
     try clear iP
     try clear yU
     obtain ⟨kq, aeD, rfl, HA, HJ3, ⟨mc3, rfl⟩⟩ := hcut
     cases kq with
     | zero => exact zz HA.out
     | succ kj3 =>
      obtain ⟨H⟩ := HA
      simp only [fD.j1] at H
      replace H := sb H
      rcases H with ⟨rfl, H⟩ | ⟨rfl, H⟩
      ·
       have H' := ak H; clear H
       go_wp2
       go_roundg kj3
       case measure => exact kl
       case rel => exact ⟨_, _, rs, rs, H', ⟨kl⟩, dn⟩
      ·
       replace H := sd H
       rcases H with ⟨AQ, H⟩ | ⟨AQ, H⟩
       ·
        have H' := ak H; clear H
        go_wp2
        go_roundg kj3
        case measure => exact kl
        case rel => exact ⟨_, _, rs, rs, H', ⟨kl⟩, dn⟩
       ·
        replace H := sd H
        rcases H with ⟨BD, H⟩ | ⟨BD, H⟩
        ·
         have H' := ak H; clear H
         go_wp2
         go_roundg kj3
         case measure => exact kl
         case rel => exact ⟨_, _, rs, rs, H', ⟨kl⟩, dn⟩
        ·
         have H' := ak H; clear H
         go_wp2
         go_roundg kj3
         case measure => exact kl
         case rel => exact ⟨_, _, rs, rs, H', ⟨kl⟩, dn⟩
   ·
    have iP := decide_eq_false c3
    (try (have yU : decide ((jW + 1) < (a0.size : Int)) = false := decide_eq_false (by have h_ := c3; unfold wrap64 at h_; omega)))
    clear c3
    obtain rfl := s1 H
    go_wp2
    go_ret
    exact ⟨rs, dn⟩
mutual
def gI.j0 : Nat → List ByteArray → ByteArray → Int → Option (List ByteArray)
 | 0, _, _, _ => none
 | k + 1, x3, x4, x5 => gI.l0 k x3 x4 x5
def gI.l0 : Nat → List ByteArray → ByteArray → Int → Option (List ByteArray)
 | 0, _, _, _ => none
 | k + 1, x3, x4, x5 => if (x4.size : Int) > 40 then ((fD.f k x4 x5).bind fun QJ => (if QJ < 0 then (if x3.length < 8796093022208 then (some (x3 ++ [x4])) else (none)) else (if 0 ≤ QJ then (if QJ ≤ (x4.size : Int) then (if x3.length < 8796093022208 then (gI.l0 k (x3 ++ [x4.extract 0 (QJ : Int).toNat]) (x4.extract (QJ : Int).toNat x4.size) 1) else (none)) else (none)) else (none)))) else (if x3.length < 8796093022208 then (some (x3 ++ [x4])) else (none))
end
def gI.f (k : Nat) (fC : ByteArray) (fH : ByteArray) : Option (List ByteArray) := (some (([] : List ByteArray) : List ByteArray)).bind fun ac8 => ((jv.f k fC fH).bind fun aqF => (if aqF = true then (if fC.size + 1 ≤ 9223372036854775807 then (if fH.toList = ([] : List UInt8) then (gI.j0 k ac8 (fC ++ (⟨#[58]⟩ : ByteArray)) ((fC ++ (⟨#[58]⟩ : ByteArray)).size : Int)) else (if (fC ++ (⟨#[58]⟩ : ByteArray)).size + 1 ≤ 9223372036854775807 then (if ((fC ++ (⟨#[58]⟩ : ByteArray)) ++ (⟨#[32]⟩ : ByteArray)).size + fH.size ≤ 9223372036854775807 then (gI.j0 k ac8 (((fC ++ (⟨#[58]⟩ : ByteArray)) ++ (⟨#[32]⟩ : ByteArray)) ++ fH) (wrap64 (((fC ++ (⟨#[58]⟩ : ByteArray)).size : Int) + 1))) else (none)) else (none))) else (none)) else (some ac8)))
theorem gI.calls {k : Nat} {fC fH : ByteArray} {r : List ByteArray} {w : World} (h : gI.f k fC fH = some r) :
  Calls Tryz.prog 153 #[.agg #[.string fC, .string fH]] w fun e w' => ∃ rY : Value, e = .returned (rY) ∧ Kd.R Kd.string 9 w' w.heap.size (fun _ => True) rY r ∧ Below w.heap.size w w' := by
 have DK := Tryz.underlying69
 have HB := ak (Below.refl w.heap.size w)
 unfold gI.f at h; have H := h
 clear h
 replace H := ny H
 obtain ⟨ac8, ajZ, H⟩ := H
 replace H := bd H; obtain ⟨aqF, A2, H⟩ := H; replace H := sb H
 rcases H with ⟨rfl, H⟩ | ⟨rfl, H⟩
 ·
  replace H := nn H; obtain ⟨c4, H⟩ := H
  have rC := eq_true c4
  have Td := decide_eq_true c4
  try have aeE : (9223372036854775807 < fC.size + 1) = False := eq_false (Nat.not_lt.2 c4)
  have HC5 := ak H
  clear H
  go_enter Tryz.func153, Tryz.ntmps153
  go_upto_if 19 with (first | (refine bX HB 1 #[.string fC, .string fH] 69 ?_; intro TQ w6 uz aqG hb; replace HB := bs HB hb; clear hb) | (refine F8 7 Kd.string 9 ajZ ?_; intro aqH w7 ho8 hb; have OU := ak (Kd.aG ho8 (aj bb)); replace uz := kb uz hb; replace HB := bz HB hb; clear hb ho8; have z9 := AX uz.out) | (refine gB Tryz.func158 (jv.calls A2.out) ?_; intro w10 hb; replace OU := rb OU hb; replace uz := kb uz hb; replace HB := bz HB hb; clear hb; have z11 := AX uz.out))
  (try simp only [Act.put, sK, sN, l_c])
  go_cut [4, 5] (fun v4 v5 wc => ∃ (kq : Nat) (am5 : ByteArray) (Xt : Int), v4 = .string am5 ∧ v5 = .int .i64 Xt ∧ ah (gI.j0 kq ac8 am5 Xt = some r) ∧ ah (kq ≤ k) ∧ ah (Kd.R Kd.string 9 wc w.heap.size (fun _ => True) aqH ac8) ∧ ah (wc.heap[TQ]? = some (.cells #[.string fC, .string fH] 69 (0, 0))) ∧ ah (Below w.heap.size w wc))
  case first =>
   have H := HC5.out
   clear HC5
   replace H := sp H
   rcases H with ⟨c12, H⟩ | ⟨c12, H⟩
   ·
    have yV := beq_iff_eq.mpr c12
    have am6 : (fH.toList).isEmpty = true := List.isEmpty_iff.mpr c12
    have DV := bne_eq_false_iff_eq.mpr c12
    clear c12
    (first | rw [yV] | (simp only [eu, f_]; rw [yV]) | skip)
    (first | (rw [am6]; simp only [Bool.not_true, Bool.not_false]) | skip)
    have H' := ak H; clear H
    go_wp2
    go_meet
    case rel => exact ⟨_, _, _, rs, rs, H', ⟨JF⟩, ⟨ur OU.out⟩, ⟨ub uz.out⟩, ⟨bb⟩⟩
   ·
    have yV := beq_eq_false_iff_ne.mpr c12
    have am6 : (fH.toList).isEmpty = false := List.isEmpty_eq_false_iff.mpr c12
    have DV := bne_iff_ne.mpr c12
    (first | rw [yV] | (simp only [eu, f_]; rw [yV]) | skip)
    (first | (rw [am6]; simp only [Bool.not_true, Bool.not_false]) | skip)
    replace H := nn H; obtain ⟨c13, H⟩ := H
    have xk := eq_true c13
    have AV := decide_eq_true c13
    try have aqI : (9223372036854775807 < fC.size + 1 + 1) = False := by have h_ := (eq_false (Nat.not_lt.2 c13) : (9223372036854775807 < (fC ++ (⟨#[58]⟩ : ByteArray)).size + 1) = False); simp only [ByteArray.size_append] at h_; exact h_
    try have aj0 : (9223372036854775807 < (fC ++ (⟨#[58]⟩ : ByteArray)).size + 1) = False := eq_false (Nat.not_lt.2 c13)
    replace H := nn H; obtain ⟨c14, H⟩ := H
    have rQ := eq_true c14
    have xO := decide_eq_true c14
    try have aqJ : (9223372036854775807 < fC.size + 1 + 1 + fH.size) = False := by have h_ := (eq_false (Nat.not_lt.2 c14) : (9223372036854775807 < ((fC ++ (⟨#[58]⟩ : ByteArray)) ++ (⟨#[32]⟩ : ByteArray)).size + fH.size) = False); simp only [ByteArray.size_append] at h_; exact h_
    try have aeF : (9223372036854775807 < ((fC ++ (⟨#[58]⟩ : ByteArray)) ++ (⟨#[32]⟩ : ByteArray)).size + fH.size) = False := eq_false (Nat.not_lt.2 c14)
    have H' := ak H; clear H
    have OH := AX uz.out
    go_wp2
    go_meet
    case rel => exact ⟨_, _, _, rs, rs, H', ⟨JF⟩, ⟨ur OU.out⟩, ⟨ub uz.out⟩, ⟨bb⟩⟩
  case rest =>
   clear HC5
   try clear c4
   try clear rC
   try clear Td
   try clear aeE
   obtain ⟨kq, am5, Xt, rfl, rfl, HA, HJ4, qm, uz, HB⟩ := hcut
   cases kq with
   | zero => exact zz HA.out
   | succ kj4 =>
    obtain ⟨H⟩ := HA
    simp only [gI.j0] at H
    have H' := ak H; clear H
    go_wp2
    go_loopg [3, 4, 5] kj4 (fun kq v3 v4 v5 w' => ∃ (lV : List ByteArray) (pO : ByteArray) (uO : Int), v4 = .string pO ∧ v5 = .int .i64 uO ∧ ah (gI.l0 kq lV pO uO = some r) ∧ ah (kq ≤ kj4) ∧ ah (Kd.R Kd.string 9 w' w.heap.size (fun _ => True) v3 lV) ∧ ah (w'.heap[TQ]? = some (.cells #[.string fC, .string fH] 69 (0, 0))) ∧ ah (Below w.heap.size w w'))
    case atStart => exact ⟨_, _, _, rs, rs, H', ⟨Nat.le_refl _⟩, ⟨ur qm.out⟩, ⟨ub uz.out⟩, ⟨bb⟩⟩
    case round =>
     clear H'
     try clear c4
     try clear rC
     try clear Td
     try clear aeE
     obtain ⟨lV, pO, uO, rfl, rfl, HA, HK2, qm, uz, HB⟩ := hrel
     cases gk with
     | zero => exact zz HA.out
     | succ k2 =>
      obtain ⟨H⟩ := HA
      simp only [gI.l0] at H
      replace H := sp H
      rcases H with ⟨c16, H⟩ | ⟨c16, H⟩
      ·
       have AP : decide (40 < (pO.size : Int)) = true := decide_eq_true c16
       have Ko : decide (40 < pO.size) = true := decide_eq_true (by omega)
       clear c16
       replace H := bd H; obtain ⟨QJ, A17, H⟩ := H; replace H := sd H
       rcases H with ⟨AQ, H⟩ | ⟨AQ, H⟩
       ·
        replace H := nl H; obtain ⟨aeG, H⟩ := H
        obtain ⟨aES, aj1⟩ := nm (lV ++ [pO])
        rw [← aj1.out] at H
        obtain rfl := s1 H
        go_wp2_with (first | (refine gA Tryz.func176 (fD.calls A17.out) ?_; intro nd) | ((with_reducible refine dN (b := .append) (xs := #[.tmp 44, .tmp 46]) rfl ?_); at_builtin; refine Kd.oP Kd.string (w0 := w) w.heap.size rfl (.tmp 44) (.tmp 46) 23 9 (.string ⟨#[]⟩) 16 rfl Tryz.underlying23 info9 rfl (by decide) (by omega) u3 lV pO [.string pO] (fun _ => True) (fun _ => False) rfl rfl ?aP (fun _ hk => hk.elim) ?aF ?aO ?aB ?aS ?aL ?_; (case aP => exact rfl); (case aB => exact bb); (case aF => exact (fun _ _ => trivial)); (case aO => exact (ur qm.out)); (case aS => exact (aj bb)); (case aL => have := aeG.out; omega); intro aET w20 ho hb hg hat; rw [← aj1.out] at ho; have aqK := ak (ho); replace uz := ak (bM (g := TQ) (o := .cells #[.string fC, .string fH] 69 (0, 0)) (ub uz.out) hg (Kd.nO qm.out uz.out (by decide))); replace HB := ak (hb); clear ho hb hg hat qm))
        go_ret
        exact ⟨_, er, ur aqK.out, bb⟩
       ·
        replace H := Ba H; obtain ⟨Fg, aj2, H⟩ := H; replace H := Ba H; obtain ⟨Gm, aaP, H⟩ := H; replace H := nl H; obtain ⟨aeH, H⟩ := H
        obtain ⟨aEU, aj3⟩ := nm (lV ++ [pO.extract 0 (QJ : Int).toNat])
        rw [← aj3.out] at H
        have QK := eq_true (of_decide_eq_true (by assumption) : 0 ≤ QJ)
        have QE := eq_true (of_decide_eq_true (by assumption) : QJ ≤ (pO.size : Int))
        have H' := ak H; clear H
        go_wp2_with (first | (refine gA Tryz.func176 (fD.calls A17.out) ?_; intro nd) | ((with_reducible refine dN (b := .append) (xs := #[.tmp 35, .tmp 39]) rfl ?_); at_builtin; refine Kd.oP Kd.string (w0 := w) w.heap.size rfl (.tmp 35) (.tmp 39) 23 9 (.string ⟨#[]⟩) 16 rfl Tryz.underlying23 info9 rfl (by decide) (by omega) u3 lV (pO.extract 0 (QJ : Int).toNat) [.string (pO.extract 0 (QJ : Int).toNat)] (fun _ => True) (fun _ => False) rfl rfl ?aP (fun _ hk => hk.elim) ?aF ?aO ?aB ?aS ?aL ?_; (case aP => exact rfl); (case aB => exact bb); (case aF => exact (fun _ _ => trivial)); (case aO => exact (ur qm.out)); (case aS => exact (aj bb)); (case aL => have := aeH.out; omega); intro aEV w26 ho hb hg hat; rw [← aj3.out] at ho; have aqL := ak (ho); replace uz := ak (bM (g := TQ) (o := .cells #[.string fC, .string fH] 69 (0, 0)) (ub uz.out) hg (Kd.nO qm.out uz.out (by decide))); replace HB := ak (hb); clear ho hb hg hat qm))
        go_roundg k2
        case measure => exact kl
        case rel => exact ⟨_, _, _, rs, rs, H', ⟨kl⟩, ⟨ur aqL.out⟩, ⟨ub uz.out⟩, ⟨bb⟩⟩
      ·
       have AP : decide (40 < (pO.size : Int)) = false := decide_eq_false c16
       have Ko : decide (40 < pO.size) = false := decide_eq_false (by omega)
       clear c16
       replace H := nl H; obtain ⟨QF, H⟩ := H
       obtain ⟨aEW, aj6⟩ := nm (lV ++ [pO])
       rw [← aj6.out] at H
       obtain rfl := s1 H
       go_wp2_with ((with_reducible refine dN (b := .append) (xs := #[.tmp 44, .tmp 46]) rfl ?_); at_builtin; refine Kd.oP Kd.string (w0 := w) w.heap.size rfl (.tmp 44) (.tmp 46) 23 9 (.string ⟨#[]⟩) 16 rfl Tryz.underlying23 info9 rfl (by decide) (by omega) u3 lV pO [.string pO] (fun _ => True) (fun _ => False) rfl rfl ?aP (fun _ hk => hk.elim) ?aF ?aO ?aB ?aS ?aL ?_; (case aP => exact rfl); (case aB => exact bb); (case aF => exact (fun _ _ => trivial)); (case aO => exact (ur qm.out)); (case aS => exact (aj bb)); (case aL => have := QF.out; omega); intro aEX w28 ho hb hg hat; rw [← aj6.out] at ho; have aqM := ak (ho); replace uz := ak (bM (g := TQ) (o := .cells #[.string fC, .string fH] 69 (0, 0)) (ub uz.out) hg (Kd.nO qm.out uz.out (by decide))); replace HB := ak (hb); clear ho hb hg hat qm)
       go_ret
       exact ⟨_, er, ur aqM.out, bb⟩
 ·
  obtain rfl := s1 H
  go_enter Tryz.func153, Tryz.ntmps153
  go_wp2_with (first | (refine bX HB 1 #[.string fC, .string fH] 69 ?_; intro TQ w29 uz aqG hb; replace HB := bs HB hb; clear hb) | (refine F8 7 Kd.string 9 ajZ ?_; intro aqH w30 aqN hb; have OU := ak (Kd.aG aqN (aj bb)); replace uz := kb uz hb; replace HB := bz HB hb; clear hb aqN; have z32 := AX uz.out) | (refine gB Tryz.func158 (jv.calls A2.out) ?_; intro w33 hb; replace OU := rb OU hb; replace uz := kb uz hb; replace HB := bz HB hb; clear hb))
  go_ret
  exact ⟨_, er, ur OU.out, bb⟩
def jd.l0 : Nat → List (gK) → List ByteArray → Int → Option (List ByteArray × Bool)
 | 0, _, _, _ => none
 | k + 1, x0, x4, x5 => if x5 < (x0.length : Int) then (if 0 ≤ x5 then ((gI.f k ((dY x0 x5).f0) ((dY x0 x5).f1)).bind fun ac9 => (if x4.length + ac9.length < 8796093022208 then (jd.l0 k x0 (x4 ++ ac9) (wrap64 (x5 + 1))) else (none))) else (none)) else (some (x4, true))
def jd.f (k : Nat) (l0 : List (gK)) : Option (List ByteArray × Bool) := (some (([] : List ByteArray) : List ByteArray)).bind fun am7 => ((gW.f k l0).bind fun aqO => (if aqO = true then (jd.l0 k l0 am7 0) else (some (am7, false))))
theorem jd.calls {k c0 : Nat} {A0 : Option Addr} {l0 : List (gK)} {r1 : List ByteArray} {r2 : Bool} {w : World} (hr0 : Kd.C pU w A0 l0.length l0) (hc0 : l0.length ≤ c0) (h : jd.f k l0 = some (r1, r2)) :
  Calls Tryz.prog 107 #[.slice A0 l0.length c0] w fun e w' => ∃ rY : Value, e = .returned (.tuple #[rY, .bool r2]) ∧ Kd.R Kd.string 9 w' w.heap.size (fun _ => True) rY r1 ∧ Below w.heap.size w w' := by
 have DK := Tryz.underlying69
 have HR0 := ak hr0
 have zq := ak hc0
 clear hr0 hc0
 have HB := ak (Below.refl w.heap.size w)
 unfold jd.f at h; have H := h
 clear h
 replace H := ny H
 obtain ⟨am7, aj7, H⟩ := H
 replace H := bd H; obtain ⟨aqO, A2, H⟩ := H; replace H := sb H
 rcases H with ⟨rfl, H⟩ | ⟨rfl, H⟩
 ·
  have H' := ak H; clear H
  go_enter Tryz.func107, Tryz.ntmps107
  go_wp2_with (first | (refine F8 6 Kd.string 9 aj7 ?_; intro ayO w4 ho5 hb; have QL := ak (Kd.aG ho5 (aj (ul HB.out))); replace HB := bs HB hb; clear hb ho5) | (refine gB Tryz.func113 (gW.calls (cu (Kd.aW HR0.out HB.out)) zq.out A2.out) ?_; intro w6 hb; replace QL := rb QL hb; replace HB := bs HB hb; clear hb))
  go_loopg [4, 5] k (fun kq v4 v5 w' => ∃ (fG : List ByteArray) (fF : Int), v5 = .int .i64 fF ∧ ah (jd.l0 kq l0 fG fF = some (r1, r2)) ∧ ah (kq ≤ k) ∧ ah (Kd.R Kd.string 9 w' w.heap.size (fun _ => True) v4 fG) ∧ ah (Below w.heap.size w w'))
  case atStart => exact ⟨_, _, rs, H', ⟨Nat.le_refl _⟩, ⟨ur QL.out⟩, ⟨ul HB.out⟩⟩
  case round =>
   clear H'
   obtain ⟨fG, fF, rfl, HA, yB, iY, HB⟩ := hrel
   cases gk with
   | zero => exact zz HA.out
   | succ k1 =>
    obtain ⟨H⟩ := HA
    simp only [jd.l0] at H
    replace H := sd H
    rcases H with ⟨sH, H⟩ | ⟨sH, H⟩
    ·
     replace H := oN H; obtain ⟨uj, H⟩ := H; replace H := bd H; obtain ⟨ac9, A9, H⟩ := H; replace H := nl H; obtain ⟨Xk, H⟩ := H
     obtain ⟨aEY, aj8⟩ := nm (fG ++ ac9)
     rw [← aj8.out] at H
     have H' := ak H; clear H
     have am8 := zi fF
     have am9 := zj fF l0.length
     obtain ⟨aBN, ayP, aaQ, aaR⟩ := qC HR0.out fF am8 am9
     cases ayP
     replace aaQ := cl HB.out aaQ
     replace aaR := cl HB.out aaR
     replace am8 := eq_true am8
     replace am9 := eq_true am9
     go_wp2_with (first | (refine gV Tryz.func153 (gI.calls A9.out) ?_; rintro aEZ U2 ⟨ho0, hb⟩; have Xu := ak (Kd.aG (Kd.fK ho0 (Kd.jH (ur iY.out))) (aj (ul HB.out))); replace iY := ak (Kd.fA (ur iY.out) (Kd.eH ho0) hb); replace HB := bs HB hb; clear hb; (try clear ho0); obtain ⟨U4, Ii, QB⟩ := Kd.aX Xu.out; subst QB) | ((with_reducible refine dN (b := .append) (xs := #[.tmp 17, .tmp 22]) rfl ?_); at_builtin; refine Kd.nP Kd.string (w0 := w) w.heap.size rfl (.tmp 17) (.tmp 22) 23 9 (.string ⟨#[]⟩) 16 rfl Tryz.underlying23 info9 rfl (by decide) (by omega) u4 fG ac9 _ _ _ (fun k_ => some k_ ≠ (.slice U4 ac9.length Ii : Value).ownBlock) (fun _ => False) rfl rfl ?aO ?aR (fun _ _ h => h) (fun _ h => h.elim) ?aF ?aB ?aS ?aL ?_; (case aR => repeat (first | exact (Kd.au Xu.out).2.2 | (with_reducible refine Kd.pV ?_ _) | (with_reducible refine Kd.pW ?_ _) | (with_reducible refine Kd.sU ?_))); (case aB => exact (ul HB.out)); (case aF => exact (fun k_ hk => Kd.fresh' (Kd.jH (ur Xu.out)) k_ hk)); (case aO => exact (ur (Kd.aY iY.out (fun _ hk => hk.2)))); (case aS => exact (aj (ul HB.out))); (case aL => have := Xk.out; omega); intro aE0 w12 ho hb hg hat; rw [← aj8.out] at ho; have aqP := ak (ho); replace Xu := ak (Kd.qo (ok := (fun _ => True)) (ur Xu.out) hg hat); replace HB := ak (hb); clear ho hb hg hat iY))
     go_roundg k1
     case measure => exact kl
     case rel => exact ⟨_, _, rs, H', ⟨kl⟩, ⟨ur (Kd.aY aqP.out (fun _ hk => trivial))⟩, ⟨ul HB.out⟩⟩
    ·
     obtain ⟨rfl, rfl⟩ := s2 H
     go_wp2
     go_ret2
     exact ⟨_, er, ur iY.out, ul HB.out⟩
 ·
  obtain ⟨rfl, rfl⟩ := s2 H
  go_enter Tryz.func107, Tryz.ntmps107
  go_wp2_with (first | (refine F8 6 Kd.string 9 aj7 ?_; intro ayO Tc Px hb; have QL := ak (Kd.aG Px (aj (ul HB.out))); replace HB := bs HB hb; clear hb Px) | (refine gB Tryz.func113 (gW.calls (cu (Kd.aW HR0.out HB.out)) zq.out A2.out) ?_; intro w16 hb; replace QL := rb QL hb; replace HB := bs HB hb; clear hb))
  go_ret2
  exact ⟨_, er, ur QL.out, ul HB.out⟩
def iK.f (a0 : ByteArray) : Option (ByteArray) := if a0.size ≤ 140737488355328 then some (strOfNums ((bytesOf a0).map Tf)) else none
set_option maxHeartbeats 1000000 in
set_option maxRecDepth 100000 in
theorem iK.calls {a0 r : ByteArray} {w : World} (h : iK.f a0 = some r) :
  Calls Tryz.prog 180 #[.string a0] w fun e w' => e = .returned (.string r) ∧ Below w.heap.size w w' := by
 unfold iK.f at h
 split at h
 ·
  rename_i hb
  injection h with h
  subst h
  have kb := fun W => OV (P := Tryz.prog) 9 22 5 Tryz.underlying9 Tryz.underlying22 Tryz.underlying5 a0 W
  go_enter Tryz.func180, Tryz.ntmps180
  go_wp2
  go_loopw [4] (fun i W => ∃ k : Nat, k ≤ a0.size ∧ i = .int .i64 k ∧ NM w w.heap.size (FV (bytesOf a0) k) W) (fun i _ => a0.size - (intOf i).toNat)
  case atStart => exact ⟨0, Nat.zero_le _, rfl, by simpa [FV] using Kq w 5 a0⟩
  case round =>
   obtain ⟨k, hk, rfl, hR⟩ := hrel
   have HR := ak hR
   by_cases hlt : k < a0.size
   ·
    have hc := hR.cell k (by rw [nD, bytesOf_length]; exact hlt)
    have hf := hR.free k (by rw [nD, bytesOf_length]; exact hlt)
    rw [Vj _ _ (by rw [bytesOf_length]; exact hlt)] at hc
    clear hR
    have hr := Iz a0 k
    have hs := ak (TR (bytesOf a0) k (by rw [bytesOf_length]; exact hlt))
    have hu := ak (NP (bytesOf a0) k (by rw [bytesOf_length]; exact hlt))
    generalize (bytesOf a0).getD k 0 = c at hc hr hs hu
    go_wp2
    ·
     go_roundw
     case rel => exact ⟨k + 1, by omega, by go_num, by
      rw [hu.out, Tf, if_pos ⟨by omega, by omega⟩]
      exact HR.out.store (Nat.le_refl _) k (by rw [nD, bytesOf_length]; exact hlt) _⟩
     case measure => simp [intOf]; omega
    ·
     go_roundw
     case rel => exact ⟨k + 1, by omega, by go_num, by rw [hs.out (by omega)]; exact HR.out⟩
     case measure => simp [intOf]; omega
    ·
     go_roundw
     case rel => exact ⟨k + 1, by omega, by go_num, by rw [hs.out (by omega)]; exact HR.out⟩
     case measure => simp [intOf]; omega
   ·
    clear hR
    have kd := run_convert_bytes_arg (P := Tryz.prog) wr 22 5 Tryz.underlying22 Tryz.underlying5 w.heap.size 0 a0.size (grownCap w a0.size 0 5) (FV (bytesOf a0) k) (by rw [nD, bytesOf_length]) (fun i hi => by
     rw [Nat.zero_add]; exact HR.out.cell i (by rw [nD, bytesOf_length]; exact hi)) 9 Tryz.underlying9
    go_wp2
    go_ret
    have hk2 : k = a0.size := by omega
    exact ⟨by rw [hk2, Xv (bytesOf a0) a0.size (bytesOf_length a0)]; rfl, HR.out.below⟩
 ·
  cases h
def rU.f (a0 : ByteArray) (a1 : ByteArray) : Option (Bool) := (iK.f a0).bind fun aqQ => ((iK.f a1).bind fun aqR => (some (aqQ.toList == aqR.toList)))
theorem rU.calls {a0 a1 : ByteArray} {r : Bool} {w : World} (h : rU.f a0 a1 = some r) :
  Calls Tryz.prog 197 #[.string a0, .string a1] w fun e w' => e = .returned (.bool r) ∧ Below w.heap.size w w' := by
 have HB := ak (Below.refl w.heap.size w)
 unfold rU.f at h; have H := h
 clear h
 replace H := bd H; obtain ⟨aqQ, A3, H⟩ := H; replace H := bd H; obtain ⟨aqR, A4, H⟩ := H
 obtain rfl := s1 H
 go_enter Tryz.func197, Tryz.ntmps197
 go_wp2_with (first | (refine gB Tryz.func180 (iK.calls A3.out) ?_; intro w5 hb; replace HB := bs HB hb; clear hb) | (refine gB Tryz.func180 (iK.calls A4.out) ?_; intro w6 hb; replace HB := bs HB hb; clear hb))
 go_ret
 exact ⟨er, ul HB.out⟩
def kG.l0 : Nat → List (gK) → ByteArray → Int → Option (Int)
 | 0, _, _, _ => none
 | k + 1, x0, x1, x5 => if x5 < (x0.length : Int) then (if 0 ≤ x5 then ((rU.f ((dY x0 x5).f0) x1).bind fun aqS => (if aqS = true then (some x5) else (kG.l0 k x0 x1 (wrap64 (x5 + 1))))) else (none)) else (some (-1))
def kG.f (k : Nat) (l0 : List (gK)) (a1 : ByteArray) : Option (Int) := kG.l0 k l0 a1 0
theorem kG.calls {k c0 : Nat} {A0 : Option Addr} {l0 : List (gK)} {a1 : ByteArray} {r : Int} {w : World} (hr0 : Kd.C pU w A0 l0.length l0) (hc0 : l0.length ≤ c0) (h : kG.f k l0 a1 = some r) :
  Calls Tryz.prog 177 #[.slice A0 l0.length c0, .string a1] w fun e w' => e = .returned (.int .i64 r) ∧ Below w.heap.size w w' := by
 have HR0 := ak hr0
 have zq := ak hc0
 clear hr0 hc0
 have HB := ak (Below.refl w.heap.size w)
 unfold kG.f at h; have H := h
 clear h
 have H' := ak H; clear H
 go_enter Tryz.func177, Tryz.ntmps177
 go_wp2
 go_loopg [5] k (fun kq v5 w' => ∃ (fF : Int), v5 = .int .i64 fF ∧ ah (kG.l0 kq l0 a1 fF = some r) ∧ ah (kq ≤ k) ∧ ah (Below w.heap.size w w'))
 case atStart => exact ⟨_, rs, H', ⟨Nat.le_refl _⟩, ⟨ul HB.out⟩⟩
 case round =>
  clear H'
  obtain ⟨fF, rfl, HA, yB, HB⟩ := hrel
  cases gk with
  | zero => exact zz HA.out
  | succ k1 =>
   obtain ⟨H⟩ := HA
   simp only [kG.l0] at H
   replace H := sd H
   rcases H with ⟨iP, H⟩ | ⟨iP, H⟩
   ·
    replace H := oN H; obtain ⟨rC, H⟩ := H; replace H := bd H; obtain ⟨aqS, A5, H⟩ := H; replace H := sb H
    rcases H with ⟨rfl, H⟩ | ⟨rfl, H⟩
    ·
     obtain rfl := s1 H
     have Y6 := zi fF
     have Y7 := zj fF l0.length
     obtain ⟨aqT, am_, Kr, Kt⟩ := qC HR0.out fF Y6 Y7
     cases am_
     replace Kr := cl HB.out Kr
     replace Kt := cl HB.out Kt
     replace Y6 := eq_true Y6
     replace Y7 := eq_true Y7
     go_wp2_with (refine gB Tryz.func197 (rU.calls A5.out) ?_; intro w7 hb; replace HB := bs HB hb; clear hb)
     go_ret
     exact ⟨er, ul HB.out⟩
    ·
     have H' := ak H; clear H
     have Y6 := zi fF
     have Y7 := zj fF l0.length
     obtain ⟨aqT, am_, Kr, Kt⟩ := qC HR0.out fF Y6 Y7
     cases am_
     replace Kr := cl HB.out Kr
     replace Kt := cl HB.out Kt
     replace Y6 := eq_true Y6
     replace Y7 := eq_true Y7
     go_wp2_with (refine gB Tryz.func197 (rU.calls A5.out) ?_; intro w8 hb; replace HB := bs HB hb; clear hb)
     go_roundg k1
     case measure => exact kl
     case rel => exact ⟨_, rs, H', ⟨kl⟩, ⟨ul HB.out⟩⟩
   ·
    obtain rfl := s1 H
    go_wp2
    go_ret
    exact ⟨er, ul HB.out⟩
def kM.f (k : Nat) (l0 : List (gK)) (a1 : ByteArray) : Option (ByteArray × Bool) := (kG.f k l0 a1).bind fun Xw => (if Xw < 0 then (some ((⟨#[]⟩ : ByteArray), false)) else (if 0 ≤ Xw then (if Xw < (l0.length : Int) then (some ((dY l0 Xw).f1, true)) else (none)) else (none)))
theorem kM.calls {k c0 : Nat} {A0 : Option Addr} {l0 : List (gK)} {a1 r1 : ByteArray} {r2 : Bool} {w : World} (hr0 : Kd.C pU w A0 l0.length l0) (hc0 : l0.length ≤ c0) (h : kM.f k l0 a1 = some (r1, r2)) :
  Calls Tryz.prog 154 #[.slice A0 l0.length c0, .string a1] w fun e w' => e = .returned (.tuple #[.string r1, .bool r2]) ∧ Below w.heap.size w w' := by
 have HR0 := ak hr0
 have zq := ak hc0
 clear hr0 hc0
 have HB := ak (Below.refl w.heap.size w)
 unfold kM.f at h; have H := h
 clear h
 replace H := bd H; obtain ⟨Xw, A3, H⟩ := H; replace H := sd H
 rcases H with ⟨rC, H⟩ | ⟨rC, H⟩
 ·
  obtain ⟨rfl, rfl⟩ := s2 H
  go_enter Tryz.func154, Tryz.ntmps154
  go_wp2_with (refine gB Tryz.func177 (kG.calls (cu HR0.out) zq.out A3.out) ?_; intro w5 hb; replace HB := bs HB hb; clear hb)
  go_ret2
  exact ⟨er, ul HB.out⟩
 ·
  replace H := oN H; obtain ⟨oJ, H⟩ := H; replace H := oN H; obtain ⟨sH, H⟩ := H
  obtain ⟨rfl, rfl⟩ := s2 H
  go_enter Tryz.func154, Tryz.ntmps154
  go_wp2_with (refine gB Tryz.func177 (kG.calls (cu HR0.out) zq.out A3.out) ?_; intro w8 hb; replace HB := bs HB hb; clear hb; have ana : 0 ≤ (Xw : Int) := of_decide_eq_true (by assumption); have anb : Xw < (l0.length : Int) := of_decide_eq_true (by assumption); obtain ⟨aBO, ayQ, Vk, Vl⟩ := qC HR0.out Xw ana anb; cases ayQ; replace Vk := (HB.out.cell (World.block_lt_of_cell? w _ Vk)).trans Vk; replace Vl := (HB.out.cell (World.block_lt_of_cell? w _ Vl)).trans Vl; replace ana := eq_true ana; replace anb := eq_true anb)
  go_ret2
  exact ⟨er, ul HB.out⟩
def gX.l0 : Nat → ByteArray → ByteArray → Int → Option (ByteArray × Int)
 | 0, _, _, _ => none
 | k + 1, x0, x6, x7 => if x7 < (x0.size : Int) then (if 0 ≤ x7 then (if (bt x0 x7) = 34 then (some (x6, wrap64 (x7 + 1))) else (if (bt x0 x7) = 92 then (if (wrap64 (x7 + 1)) = (x0.size : Int) then (some ((⟨#[]⟩ : ByteArray), (-1))) else (if 0 ≤ (wrap64 (x7 + 1)) then (if (wrap64 (x7 + 1)) ≤ (wrap64 ((wrap64 (x7 + 1)) + 1)) then (if (wrap64 ((wrap64 (x7 + 1)) + 1)) ≤ (x0.size : Int) then (if x6.size + (x0.extract ((wrap64 (x7 + 1)) : Int).toNat ((wrap64 ((wrap64 (x7 + 1)) + 1)) : Int).toNat).size ≤ 9223372036854775807 then (gX.l0 k x0 (x6 ++ (x0.extract ((wrap64 (x7 + 1)) : Int).toNat ((wrap64 ((wrap64 (x7 + 1)) + 1)) : Int).toNat)) (wrap64 ((wrap64 (x7 + 1)) + 1))) else (none)) else (none)) else (none)) else (none))) else (if x7 ≤ (wrap64 (x7 + 1)) then (if (wrap64 (x7 + 1)) ≤ (x0.size : Int) then (if x6.size + (x0.extract (x7 : Int).toNat ((wrap64 (x7 + 1)) : Int).toNat).size ≤ 9223372036854775807 then (gX.l0 k x0 (x6 ++ (x0.extract (x7 : Int).toNat ((wrap64 (x7 + 1)) : Int).toNat)) (wrap64 (x7 + 1))) else (none)) else (none)) else (none)))) else (none)) else (some ((⟨#[]⟩ : ByteArray), (-1)))
def gX.f (k : Nat) (a0 : ByteArray) (a1 : Int) : Option (ByteArray × Int) := gX.l0 k a0 (⟨#[]⟩ : ByteArray) (wrap64 (a1 + 1))
theorem gX.calls {k : Nat} {a0 r1 : ByteArray} {a1 r2 : Int} {w : World} (h : gX.f k a0 a1 = some (r1, r2)) :
  Calls Tryz.prog 198 #[.string a0, .int .i64 a1] w fun e w' => e = .returned (.tuple #[.string r1, .int .i64 r2]) ∧ dW w w' := by
 unfold gX.f at h; have H := h
 clear h
 have H' := ak H; clear H
 go_enter Tryz.func198, Tryz.ntmps198
 go_wp2
 go_loopg [6, 7] k (fun kq v6 v7 w' => ∃ (jW : ByteArray) (tV : Int), v6 = .string jW ∧ v7 = .int .i64 tV ∧ ah (gX.l0 kq a0 jW tV = some (r1, r2)) ∧ ah (kq ≤ k) ∧ dW w w')
 case atStart => exact ⟨_, _, rs, rs, H', ⟨Nat.le_refl _⟩, dn⟩
 case round =>
  clear H'
  obtain ⟨jW, tV, rfl, rfl, HA, yB, ⟨m1, rfl⟩⟩ := hrel
  cases gk with
  | zero => exact zz HA.out
  | succ k1 =>
   obtain ⟨H⟩ := HA
   simp only [gX.l0] at H
   replace H := sd H
   rcases H with ⟨iP, H⟩ | ⟨iP, H⟩
   ·
    replace H := oN H; obtain ⟨rC, H⟩ := H; replace H := sq H
    rcases H with ⟨oJ, yT, H⟩ | ⟨c6, oJ, yT, H⟩
    ·
     obtain ⟨rfl, rfl⟩ := s2 H
     obtain ⟨p5, q5, hx5⟩ := bx a0 tV
     go_wp2
     go_ret2
     exact ⟨rs, dn⟩
    ·
     replace H := sq H
     rcases H with ⟨uj, DU, H⟩ | ⟨c8, uj, DU, H⟩
     ·
      replace H := sq H
      rcases H with ⟨zu, Gn, H⟩ | ⟨c9, zu, Gn, H⟩
      ·
       obtain ⟨rfl, rfl⟩ := s2 H
       obtain ⟨p5, q5, hx5⟩ := bx a0 tV
       obtain ⟨p7, q7, hx7⟩ := bx a0 tV
       go_wp2
       go_ret2
       exact ⟨rs, dn⟩
      ·
       obtain ⟨Ku, QM⟩ : ∃ j_ : Int, (wrap64 (tV + 1)) = j_ := ⟨_, rfl⟩
       replace H : (if 0 ≤ (Ku) then (if (Ku) ≤ (wrap64 ((Ku) + 1)) then (if (wrap64 ((Ku) + 1)) ≤ (a0.size : Int) then (if jW.size + (a0.extract ((Ku) : Int).toNat ((wrap64 ((Ku) + 1)) : Int).toNat).size ≤ 9223372036854775807 then (gX.l0 k1 a0 (jW ++ (a0.extract ((Ku) : Int).toNat ((wrap64 ((Ku) + 1)) : Int).toNat)) (wrap64 ((Ku) + 1))) else (none)) else (none)) else (none)) else (none)) = some (r1, r2) := by first | (rw [QM] at H; exact H) | (simp only [QM] at H ⊢; exact H)
       (try rw [QM] at zu)
       (try rw [QM] at Gn)
       have ayR : (IntKind.i64.wrap (tV + 1)) = Ku := (eu _).trans QM
       replace H := Ba H; obtain ⟨vV, Fh, H⟩ := H; replace H := nn H; obtain ⟨c12, H⟩ := H
       have yV := eq_true c12
       have DV := decide_eq_true c12
       replace H := nn H; obtain ⟨c13, H⟩ := H
       have xk := eq_true c13
       have AV := decide_eq_true c13
       replace H := nn H; obtain ⟨c14, H⟩ := H
       have rQ := eq_true c14
       have xO := decide_eq_true c14
       try have aBP : (9223372036854775807 < jW.size + ((a0.extract ((Ku) : Int).toNat ((wrap64 ((Ku) + 1)) : Int).toNat).size)) = False := by have h_ := c14; simp only [ByteArray.size_append, ByteArray.size_extract] at h_; refine eq_false ?_; simp only [decide_eq_true_eq] at *; omega
       try have aeF : (9223372036854775807 < jW.size + (a0.extract ((Ku) : Int).toNat ((wrap64 ((Ku) + 1)) : Int).toNat).size) = False := eq_false (Nat.not_lt.2 c14)
       have H' := ak H; clear H
       obtain ⟨p5, q5, hx5⟩ := bx a0 tV
       obtain ⟨p7, q7, hx7⟩ := bx a0 tV
       go_wp2
       go_roundg k1
       case measure => exact kl
       case rel => exact ⟨_, _, (by first | rfl | (simp; done) | (simp only [← QM] <;> (first | rfl | simp)) | (simp [*]; done)), (by first | rfl | (simp; done) | (simp only [← QM] <;> (first | rfl | simp)) | (simp [*]; done)), H', ⟨kl⟩, dn⟩
     ·
      have xq := eq_true (of_decide_eq_true (by assumption) : 0 ≤ tV)
      replace H := nn H; obtain ⟨c16, H⟩ := H
      have AP := eq_true c16
      have Ko := decide_eq_true c16
      replace H := nn H; obtain ⟨c17, H⟩ := H
      have uQ := eq_true c17
      have OQ := decide_eq_true c17
      replace H := nn H; obtain ⟨c18, H⟩ := H
      have AQ := eq_true c18
      have QI := decide_eq_true c18
      try have aBQ : (9223372036854775807 < jW.size + ((a0.extract (tV : Int).toNat ((wrap64 (tV + 1)) : Int).toNat).size)) = False := by have h_ := c18; simp only [ByteArray.size_append, ByteArray.size_extract] at h_; refine eq_false ?_; simp only [decide_eq_true_eq] at *; omega
      try have aj9 : (9223372036854775807 < jW.size + (a0.extract (tV : Int).toNat ((wrap64 (tV + 1)) : Int).toNat).size) = False := eq_false (Nat.not_lt.2 c18)
      have H' := ak H; clear H
      obtain ⟨p5, q5, hx5⟩ := bx a0 tV
      obtain ⟨p7, q7, hx7⟩ := bx a0 tV
      go_wp2
      go_roundg k1
      case measure => exact kl
      case rel => exact ⟨_, _, rs, rs, H', ⟨kl⟩, dn⟩
   ·
    obtain ⟨rfl, rfl⟩ := s2 H
    go_wp2
    go_ret2
    exact ⟨rs, dn⟩
def jC.l0 : Nat → ByteArray → Int → Int → Option (ByteArray × ByteArray × Bool)
 | 0, _, _, _ => none
 | k + 1, x0, x1, x7 => if x7 < (x0.size : Int) then (if 0 ≤ x7 then (if (bt x0 x7) = 34 then ((gX.f k x0 x7).bind fun aj_ => (if aj_.2 < 0 then (some (x0, (⟨#[]⟩ : ByteArray), false)) else (jC.l0 k x0 x1 aj_.2))) else (if (bt x0 x7) = x1 then (if x7 ≤ (x0.size : Int) then (if 0 ≤ (wrap64 (x7 + 1)) then (if (wrap64 (x7 + 1)) ≤ (x0.size : Int) then (some (x0.extract 0 (x7 : Int).toNat, x0.extract ((wrap64 (x7 + 1)) : Int).toNat x0.size, true)) else (none)) else (none)) else (none)) else (jC.l0 k x0 x1 (wrap64 (x7 + 1))))) else (none)) else (some (x0, (⟨#[]⟩ : ByteArray), false))
def jC.f (k : Nat) (a0 : ByteArray) (a1 : Int) : Option (ByteArray × ByteArray × Bool) := jC.l0 k a0 a1 0
theorem jC.calls {k : Nat} {a0 r1 r2 : ByteArray} {a1 : Int} {r3 : Bool} {w : World} (h : jC.f k a0 a1 = some (r1, r2, r3)) :
  Calls Tryz.prog 178 #[.string a0, .int .u8 a1] w fun e w' => e = .returned (.tuple #[.string r1, .string r2, .bool r3]) ∧ dW w w' := by
 unfold jC.f at h; have H := h
 clear h
 have H' := ak H; clear H
 go_enter Tryz.func178, Tryz.ntmps178
 go_wp2
 repeat (go_quiet (fail); try go_wp2)
 go_loopg [7] k (fun kq v7 w' => ∃ (tV : Int), v7 = .int .i64 tV ∧ ah (jC.l0 kq a0 a1 tV = some (r1, r2, r3)) ∧ ah (kq ≤ k) ∧ dW w w')
 case atStart => exact ⟨_, rs, H', ⟨Nat.le_refl _⟩, dn⟩
 case round =>
  clear H'
  obtain ⟨tV, rfl, HA, yB, ⟨m1, rfl⟩⟩ := hrel
  cases gk with
  | zero => exact zz HA.out
  | succ k1 =>
   obtain ⟨H⟩ := HA
   simp only [jC.l0] at H
   replace H := sd H
   rcases H with ⟨iP, H⟩ | ⟨iP, H⟩
   ·
    replace H := oN H; obtain ⟨rC, H⟩ := H; replace H := sq H
    rcases H with ⟨oJ, yT, H⟩ | ⟨c6, oJ, yT, H⟩
    ·
     replace H := bd H
     obtain ⟨⟨aE1, aE2⟩, A7, H⟩ := H
     (try dsimp only at H)
     replace H := sd H
     rcases H with ⟨uj, H⟩ | ⟨uj, H⟩
     ·
      obtain ⟨rfl, rfl, rfl⟩ := s3 H
      obtain ⟨p5, q5, hx5⟩ := bx a0 tV
      go_wp2_with (go_at_call 198; refine mA (gX.calls A7.out) ?_; intro nd; (try exact dq))
      repeat (go_quiet ((go_at_call 198; refine mA (gX.calls A7.out) ?_; intro nd; (try exact dq))); try go_wp2_with (go_at_call 198; refine mA (gX.calls A7.out) ?_; intro nd; (try exact dq)))
      go_ret3
      exact ⟨rs, dn⟩
     ·
      have H' := ak H; clear H
      obtain ⟨p5, q5, hx5⟩ := bx a0 tV
      go_wp2_with (go_at_call 198; refine mA (gX.calls A7.out) ?_; intro nd; (try exact dq))
      repeat (go_quiet ((go_at_call 198; refine mA (gX.calls A7.out) ?_; intro nd; (try exact dq))); try go_wp2_with (go_at_call 198; refine mA (gX.calls A7.out) ?_; intro nd; (try exact dq)))
      go_roundg k1
      case measure => exact kl
      case rel => exact ⟨_, rs, H', ⟨kl⟩, dn⟩
    ·
     replace H := sq H
     rcases H with ⟨pF, uI, H⟩ | ⟨c10, pF, uI, H⟩
     ·
      have vV := eq_true (of_decide_eq_true (by assumption) : 0 ≤ tV)
      replace H := Ba H; obtain ⟨yV, DV, H⟩ := H
      obtain ⟨Vm, IB⟩ : ∃ j_ : Int, (wrap64 (tV + 1)) = j_ := ⟨_, rfl⟩
      replace H : (if 0 ≤ (Vm) then (if (Vm) ≤ (a0.size : Int) then (some (a0.extract 0 (tV : Int).toNat, a0.extract ((Vm) : Int).toNat a0.size, true)) else (none)) else (none)) = some (r1, r2, r3) := by first | (rw [IB] at H; exact H) | (simp only [IB] at H ⊢; exact H)
      have anc : (IntKind.i64.wrap (tV + 1)) = Vm := (eu _).trans IB
      replace H := Ba H; obtain ⟨rQ, xO, H⟩ := H; replace H := Ba H; obtain ⟨xq, Gi, H⟩ := H
      obtain ⟨rfl, rfl, rfl⟩ := s3 H
      obtain ⟨p5, q5, hx5⟩ := bx a0 tV
      obtain ⟨p9, q9, YP⟩ := bx a0 tV
      go_wp2
      repeat (go_quiet (fail); try go_wp2)
      go_ret3
      exact ⟨by first | rfl | (simp; done) | (simp only [← IB] <;> (first | rfl | simp)) | (simp [*]; done), dn⟩
     ·
      have H' := ak H; clear H
      obtain ⟨p5, q5, hx5⟩ := bx a0 tV
      obtain ⟨p9, q9, YP⟩ := bx a0 tV
      go_wp2
      repeat (go_quiet (fail); try go_wp2)
      go_roundg k1
      case measure => exact kl
      case rel => exact ⟨_, rs, H', ⟨kl⟩, dn⟩
   ·
    obtain ⟨rfl, rfl, rfl⟩ := s3 H
    go_wp2
    repeat (go_quiet (fail); try go_wp2)
    go_ret3
    exact ⟨rs, dn⟩
def jD.l0 : Nat → Int → Int → Option (Bool)
 | 0, _, _ => none
 | k + 1, x0, x3 => if x3 < 19 then (if 0 ≤ x3 then (if x0 = (bt (⟨#[33, 35, 36, 37, 38, 39, 42, 43, 45, 47, 61, 63, 94, 95, 96, 123, 124, 125, 126]⟩ : ByteArray) x3) then (some true) else (jD.l0 k x0 (wrap64 (x3 + 1)))) else (none)) else ((iq.f x0).bind fun aqU => (some aqU))
def jD.f (k : Nat) (a0 : Int) : Option (Bool) := jD.l0 k a0 0
theorem jD.calls {k : Nat} {a0 : Int} {r : Bool} {w : World} (h : jD.f k a0 = some r) :
  Calls Tryz.prog 199 #[.int .u8 a0] w fun e w' => e = .returned (.bool r) ∧ dW w w' := by
 unfold jD.f at h; have H := h
 clear h
 have H' := ak H; clear H
 go_enter Tryz.func199, Tryz.ntmps199
 go_wp2
 go_loopg [3] k (fun kq v3 w' => ∃ (dZ : Int), v3 = .int .i64 dZ ∧ ah (jD.l0 kq a0 dZ = some r) ∧ ah (kq ≤ k) ∧ dW w w')
 case atStart => exact ⟨_, rs, H', ⟨Nat.le_refl _⟩, dn⟩
 case round =>
  clear H'
  obtain ⟨dZ, rfl, HA, yB, ⟨m1, rfl⟩⟩ := hrel
  cases gk with
  | zero => exact zz HA.out
  | succ k1 =>
   obtain ⟨H⟩ := HA
   simp only [jD.l0] at H
   replace H := sd H
   rcases H with ⟨o_, H⟩ | ⟨o_, H⟩
   ·
    replace H := oN H; obtain ⟨iP, H⟩ := H; replace H := sq H
    rcases H with ⟨nR, Kv, H⟩ | ⟨c5, nR, Kv, H⟩
    ·
     obtain rfl := s1 H
     have p4 := zi dZ
     have q4 := zj dZ 19
     have hx4 := xg (⟨#[33, 35, 36, 37, 38, 39, 42, 43, 45, 47, 61, 63, 94, 95, 96, 123, 124, 125, 126]⟩ : ByteArray) dZ
     replace p4 := eq_true p4
     replace q4 := eq_true q4
     go_wp2
     go_ret
     exact ⟨rs, dn⟩
    ·
     have H' := ak H; clear H
     have p4 := zi dZ
     have q4 := zj dZ 19
     have hx4 := xg (⟨#[33, 35, 36, 37, 38, 39, 42, 43, 45, 47, 61, 63, 94, 95, 96, 123, 124, 125, 126]⟩ : ByteArray) dZ
     replace p4 := eq_true p4
     replace q4 := eq_true q4
     go_wp2
     go_roundg k1
     case measure => exact kl
     case rel => exact ⟨_, rs, H', ⟨kl⟩, dn⟩
   ·
    replace H := bd H; obtain ⟨aqU, A6, H⟩ := H
    obtain rfl := s1 H
    go_wp2_with (refine gA Tryz.func183 (iq.calls A6.out) ?_; intro nd)
    go_ret
    exact ⟨rs, dn⟩
mutual
def fQ.l0 : Nat → ByteArray → List ByteArray → Int → Option (List ByteArray × Bool)
 | 0, _, _, _ => none
 | k + 1, x0, x4, x5 => if x5 < (x0.size : Int) then (if 0 ≤ x5 then (if (bt x0 x5) = 32 then (fQ.l0 k x0 x4 (wrap64 (x5 + 1))) else (if (bt x0 x5) = 34 then ((gX.f k x0 x5).bind fun Kw => (if Kw.2 < 0 then (some ((([] : List ByteArray)), false)) else (if Kw.2 = x5 then (some ((([] : List ByteArray)), false)) else (if Kw.2 < (x0.size : Int) then (if 0 ≤ Kw.2 then (if (bt x0 Kw.2) = 32 then (if x4.length < 8796093022208 then (fQ.l0 k x0 (x4 ++ [Kw.1]) Kw.2) else (none)) else (some ((([] : List ByteArray)), false))) else (none)) else (if x4.length < 8796093022208 then (fQ.l0 k x0 (x4 ++ [Kw.1]) Kw.2) else (none)))))) else (fQ.l1 k x0 x4 x5 x5))) else (none)) else (some (x4, true))
def fQ.l1 : Nat → ByteArray → List ByteArray → Int → Int → Option (List ByteArray × Bool)
 | 0, _, _, _, _ => none
 | k + 1, x0, x4, x5, x6 => if x5 < (x0.size : Int) then (if 0 ≤ x5 then ((jD.f k (bt x0 x5)).bind fun aqV => (if aqV = true then (fQ.l1 k x0 x4 (wrap64 (x5 + 1)) x6) else (if 0 ≤ x6 then (if x6 ≤ x5 then (if x5 ≤ (x0.size : Int) then (if x5 = x6 then (some ((([] : List ByteArray)), false)) else (if (bt x0 x5) = 32 then (if x4.length < 8796093022208 then (fQ.l0 k x0 (x4 ++ [x0.extract (x6 : Int).toNat (x5 : Int).toNat]) x5) else (none)) else (some ((([] : List ByteArray)), false)))) else (none)) else (none)) else (none)))) else (none)) else (if 0 ≤ x6 then (if x6 ≤ x5 then (if x5 ≤ (x0.size : Int) then (if x5 = x6 then (some ((([] : List ByteArray)), false)) else (if x4.length < 8796093022208 then (fQ.l0 k x0 (x4 ++ [x0.extract (x6 : Int).toNat (x5 : Int).toNat]) x5) else (none))) else (none)) else (none)) else (none))
end
def fQ.f (k : Nat) (a0 : ByteArray) : Option (List ByteArray × Bool) := fQ.l0 k a0 (([] : List ByteArray)) 0
theorem fQ.calls {k : Nat} {a0 : ByteArray} {r1 : List ByteArray} {r2 : Bool} {w : World} (h : fQ.f k a0 = some (r1, r2)) :
  Calls Tryz.prog 181 #[.string a0] w fun e w' => ∃ rY : Value, e = .returned (.tuple #[rY, .bool r2]) ∧ Kd.R Kd.string 9 w' w.heap.size (fun _ => True) rY r1 ∧ Below w.heap.size w w' := by
 have HB := ak (Below.refl w.heap.size w)
 unfold fQ.f at h; have H := h
 clear h
 obtain ⟨aE3, akb⟩ := nm ([] : List ByteArray)
 rw [← akb.out] at H
 have H' := ak H; clear H
 go_enter Tryz.func181, Tryz.ntmps181
 go_wp2_with (refine gG 8 ?_; refine F8 8 Kd.string 9 akb ?_; intro aE4 w2 ho3 hb; have aqW := ak (Kd.aG ho3 (aj (ul HB.out))); replace HB := bs HB hb; clear hb ho3)
 go_loopg [4, 5] k (fun kq v4 v5 w' => ∃ (fG : List ByteArray) (fF : Int), v5 = .int .i64 fF ∧ ah (fQ.l0 kq a0 fG fF = some (r1, r2)) ∧ ah (kq ≤ k) ∧ ah (Kd.R Kd.string 9 w' w.heap.size (fun _ => True) v4 fG) ∧ ah (Below w.heap.size w w'))
 case atStart => exact ⟨_, _, rs, H', ⟨Nat.le_refl _⟩, ⟨ur aqW.out⟩, ⟨ul HB.out⟩⟩
 case round =>
  clear H'
  obtain ⟨fG, fF, rfl, HA, yB, iY, HB⟩ := hrel
  cases gk with
  | zero => exact zz HA.out
  | succ k1 =>
   obtain ⟨H⟩ := HA
   simp only [fQ.l0] at H
   replace H := sd H
   rcases H with ⟨rC, H⟩ | ⟨rC, H⟩
   ·
    replace H := oN H; obtain ⟨nR, H⟩ := H; replace H := sq H
    rcases H with ⟨sH, Nw, H⟩ | ⟨c7, sH, Nw, H⟩
    ·
     have H' := ak H; clear H
     obtain ⟨p6, q6, hx6⟩ := bx a0 fF
     go_wp2
     go_roundg k1
     case measure => exact kl
     case rel => exact ⟨_, _, rs, H', ⟨kl⟩, ⟨ur iY.out⟩, ⟨ul HB.out⟩⟩
    ·
     replace H := sq H
     rcases H with ⟨zu, Gn, H⟩ | ⟨c9, zu, Gn, H⟩
     ·
      replace H := bd H
      obtain ⟨⟨aqX, ac_⟩, Xa, H⟩ := H
      (try dsimp only at H)
      replace H := sd H
      rcases H with ⟨vV, H⟩ | ⟨vV, H⟩
      ·
       obtain ⟨aE5, akc⟩ := nm ([] : List ByteArray)
       rw [← akc.out] at H
       obtain ⟨rfl, rfl⟩ := s2 H
       obtain ⟨p6, q6, hx6⟩ := bx a0 fF
       obtain ⟨p8, q8, hx8⟩ := bx a0 fF
       go_wp2_with (first | (refine gA Tryz.func198 (gX.calls Xa.out) ?_; intro nd) | (refine gG 32 ?_; refine F8 32 Kd.string 9 akc ?_; intro aE6 w12 Vo hb; have aqY := ak (Kd.aG (Kd.fK Vo (Kd.jH (ur iY.out))) (aj (ul HB.out))); replace iY := ak (Kd.fA (ur iY.out) (Kd.eH Vo) hb); replace HB := bs HB hb; clear hb Vo))
       go_ret2
       exact ⟨_, er, ur (Kd.aY aqY.out (fun _ hk => trivial)), ul HB.out⟩
      ·
       replace H := sq H
       rcases H with ⟨rQ, xO, H⟩ | ⟨c14, rQ, xO, H⟩
       ·
        obtain ⟨aE7, akd⟩ := nm ([] : List ByteArray)
        rw [← akd.out] at H
        obtain ⟨rfl, rfl⟩ := s2 H
        obtain ⟨p6, q6, hx6⟩ := bx a0 fF
        obtain ⟨p8, q8, hx8⟩ := bx a0 fF
        go_wp2_with (first | (refine gA Tryz.func198 (gX.calls Xa.out) ?_; intro nd) | (refine gG 64 ?_; refine F8 64 Kd.string 9 akd ?_; intro aE8 w15 ane hb; have aqZ := ak (Kd.aG (Kd.fK ane (Kd.jH (ur iY.out))) (aj (ul HB.out))); replace iY := ak (Kd.fA (ur iY.out) (Kd.eH ane) hb); replace HB := bs HB hb; clear hb ane))
        go_ret2
        exact ⟨_, er, ur (Kd.aY aqZ.out (fun _ hk => trivial)), ul HB.out⟩
       ·
        replace H := sd H
        rcases H with ⟨uQ, H⟩ | ⟨uQ, H⟩
        ·
         replace H := oN H; obtain ⟨AQ, H⟩ := H; replace H := sq H
         rcases H with ⟨TS, Xx, H⟩ | ⟨c20, TS, Xx, H⟩
         ·
          replace H := nl H; obtain ⟨Xj, H⟩ := H
          obtain ⟨aE9, ake⟩ := nm (fG ++ [aqX])
          rw [← ake.out] at H
          have H' := ak H; clear H
          obtain ⟨p6, q6, hx6⟩ := bx a0 fF
          obtain ⟨p8, q8, hx8⟩ := bx a0 fF
          go_wp2_with (first | (refine gA Tryz.func198 (gX.calls Xa.out) ?_; intro nd; have p19 : 0 ≤ (ac_ : Int) := of_decide_eq_true (by assumption); have q19 : ac_ < (a0.size : Int) := of_decide_eq_true (by assumption); have ayS := xg a0 ac_; replace p19 := eq_true p19; replace q19 := eq_true q19) | ((with_reducible refine dN (b := .append) (xs := #[.tmp 65, .tmp 67]) rfl ?_); (try (refine jJ (by rfl) ?_; dsimp only)); at_builtin; refine aP 65 67 Kd.string 23 9 (.string ⟨#[]⟩) 16 Tryz.underlying23 info9 HB (ur iY.out) ake (by have := Xj.out; omega) ?_; intro aE_ Y8 ho hb hg hat; have aq0 := ak (ho); replace HB := ak (hb); clear ho hb hg hat iY))
          go_roundg k1
          case measure => exact kl
          case rel => exact ⟨_, _, rs, H', ⟨kl⟩, ⟨ur aq0.out⟩, ⟨ul HB.out⟩⟩
         ·
          obtain ⟨aFa, akf⟩ := nm ([] : List ByteArray)
          rw [← akf.out] at H
          obtain ⟨rfl, rfl⟩ := s2 H
          obtain ⟨p6, q6, hx6⟩ := bx a0 fF
          obtain ⟨p8, q8, hx8⟩ := bx a0 fF
          go_wp2_with (first | (refine gA Tryz.func198 (gX.calls Xa.out) ?_; intro nd; have p19 : 0 ≤ (ac_ : Int) := of_decide_eq_true (by assumption); have q19 : ac_ < (a0.size : Int) := of_decide_eq_true (by assumption); have ayS := xg a0 ac_; replace p19 := eq_true p19; replace q19 := eq_true q19) | (refine gG 64 ?_; refine F8 64 Kd.string 9 akf ?_; intro aFb w23 U_ hb; have aq1 := ak (Kd.aG (Kd.fK U_ (Kd.jH (ur iY.out))) (aj (ul HB.out))); replace iY := ak (Kd.fA (ur iY.out) (Kd.eH U_) hb); replace HB := bs HB hb; clear hb U_))
          go_ret2
          exact ⟨_, er, ur (Kd.aY aq1.out (fun _ hk => trivial)), ul HB.out⟩
        ·
         replace H := nl H; obtain ⟨Xy, H⟩ := H
         obtain ⟨aFc, akg⟩ := nm (fG ++ [aqX])
         rw [← akg.out] at H
         have H' := ak H; clear H
         obtain ⟨p6, q6, hx6⟩ := bx a0 fF
         obtain ⟨p8, q8, hx8⟩ := bx a0 fF
         go_wp2_with (first | (refine gA Tryz.func198 (gX.calls Xa.out) ?_; intro nd) | ((with_reducible refine dN (b := .append) (xs := #[.tmp 65, .tmp 67]) rfl ?_); (try (refine jJ (by rfl) ?_; dsimp only)); at_builtin; refine aP 65 67 Kd.string 23 9 (.string ⟨#[]⟩) 16 Tryz.underlying23 info9 HB (ur iY.out) akg (by have := Xy.out; omega) ?_; intro aFd w26 ho hb hg hat; have aq2 := ak (ho); replace HB := ak (hb); clear ho hb hg hat iY))
         go_roundg k1
         case measure => exact kl
         case rel => exact ⟨_, _, rs, H', ⟨kl⟩, ⟨ur aq2.out⟩, ⟨ul HB.out⟩⟩
     ·
      have H' := ak H; clear H
      obtain ⟨p6, q6, hx6⟩ := bx a0 fF
      obtain ⟨p8, q8, hx8⟩ := bx a0 fF
      go_wp2
      go_loopg [5] k1 (fun kq v5 w' => ∃ (uO : Int), v5 = .int .i64 uO ∧ ah (fQ.l1 kq a0 fG uO fF = some (r1, r2)) ∧ ah (kq ≤ k1) ∧ ah (Kd.R Kd.string 9 w' w.heap.size (fun _ => True) u4 fG) ∧ ah (Below w.heap.size w w'))
      case atStart => exact ⟨_, rs, H', ⟨Nat.le_refl _⟩, ⟨ur iY.out⟩, ⟨ul HB.out⟩⟩
      case round =>
       clear H'
       try clear rC
       try clear nR
       try clear p6
       try clear q6
       try clear hx6
       try clear c7
       try clear sH
       try clear Nw
       try clear p8
       try clear q8
       try clear hx8
       try clear c9
       try clear zu
       try clear Gn
       try clear p6
       try clear p8
       try clear q6
       try clear q8
       obtain ⟨uO, rfl, HA, HK2, iY, HB⟩ := hrel
       cases gk with
       | zero => exact zz HA.out
       | succ k2 =>
        obtain ⟨H⟩ := HA
        simp only [fQ.l1] at H
        replace H := sd H
        rcases H with ⟨Gf, H⟩ | ⟨Gf, H⟩
        ·
         replace H := oN H; obtain ⟨Gg, H⟩ := H; replace H := bd H; obtain ⟨aqV, A30, H⟩ := H; replace H := sb H
         rcases H with ⟨rfl, H⟩ | ⟨rfl, H⟩
         ·
          have H' := ak H; clear H
          obtain ⟨p29, q29, hx29⟩ := bx a0 uO
          go_wp2_with (go_at_call 199; refine mA (jD.calls A30.out) ?_; intro nd)
          go_roundg k2
          case measure => exact kl
          case rel => exact ⟨_, rs, H', ⟨kl⟩, ⟨ur iY.out⟩, ⟨ul HB.out⟩⟩
         ·
          replace H := Ba H; obtain ⟨Xz, aeI, H⟩ := H; replace H := Ba H; obtain ⟨OW, XA, H⟩ := H; replace H := Ba H; obtain ⟨XB, XC, H⟩ := H; replace H := sq H
          rcases H with ⟨aeJ, akh, H⟩ | ⟨c35, aeJ, akh, H⟩
          ·
           obtain ⟨aFe, aki⟩ := nm ([] : List ByteArray)
           rw [← aki.out] at H
           obtain ⟨rfl, rfl⟩ := s2 H
           obtain ⟨p29, q29, hx29⟩ := bx a0 uO
           go_wp2_with (first | (go_at_call 199; refine mA (jD.calls A30.out) ?_; intro nd) | (refine gG 64 ?_; refine F8 64 Kd.string 9 aki ?_; intro aFf w36 anf hb; have aq3 := ak (Kd.aG (Kd.fK anf (Kd.jH (ur iY.out))) (aj (ul HB.out))); replace iY := ak (Kd.fA (ur iY.out) (Kd.eH anf) hb); replace HB := bs HB hb; clear hb anf))
           go_ret2
           exact ⟨_, er, ur (Kd.aY aq3.out (fun _ hk => trivial)), ul HB.out⟩
          ·
           replace H := sq H
           rcases H with ⟨aq4, aq5, H⟩ | ⟨c39, aq4, aq5, H⟩
           ·
            replace H := nl H; obtain ⟨XD, H⟩ := H
            obtain ⟨aFg, akj⟩ := nm (fG ++ [a0.extract (fF : Int).toNat (uO : Int).toNat])
            rw [← akj.out] at H
            have H' := ak H; clear H
            obtain ⟨p29, q29, hx29⟩ := bx a0 uO
            go_wp2_with (first | (go_at_call 199; refine mA (jD.calls A30.out) ?_; intro nd; have p38 : 0 ≤ (uO : Int) := of_decide_eq_true (by assumption); have q38 : uO < (a0.size : Int) := of_decide_eq_true (by assumption); have hx38 := xg a0 uO; replace p38 := eq_true p38; replace q38 := eq_true q38) | ((with_reducible refine dN (b := .append) (xs := #[.tmp 65, .tmp 67]) rfl ?_); (try (refine jJ (by rfl) ?_; dsimp only)); at_builtin; refine aP 65 67 Kd.string 23 9 (.string ⟨#[]⟩) 16 Tryz.underlying23 info9 HB (ur iY.out) akj (by have := XD.out; omega) ?_; intro aFh w41 ho hb hg hat; have aq6 := ak (ho); replace HB := ak (hb); clear ho hb hg hat iY))
            go_roundg k2
            case measure => exact kl
            case rel => exact ⟨_, _, rs, H', ⟨kl⟩, ⟨ur aq6.out⟩, ⟨ul HB.out⟩⟩
           ·
            obtain ⟨aFi, akk⟩ := nm ([] : List ByteArray)
            rw [← akk.out] at H
            obtain ⟨rfl, rfl⟩ := s2 H
            obtain ⟨p29, q29, hx29⟩ := bx a0 uO
            go_wp2_with (first | (go_at_call 199; refine mA (jD.calls A30.out) ?_; intro nd; have p38 : 0 ≤ (uO : Int) := of_decide_eq_true (by assumption); have q38 : uO < (a0.size : Int) := of_decide_eq_true (by assumption); have hx38 := xg a0 uO; replace p38 := eq_true p38; replace q38 := eq_true q38) | (refine gG 64 ?_; refine F8 64 Kd.string 9 akk ?_; intro aFj w42 Ti hb; have aq7 := ak (Kd.aG (Kd.fK Ti (Kd.jH (ur iY.out))) (aj (ul HB.out))); replace iY := ak (Kd.fA (ur iY.out) (Kd.eH Ti) hb); replace HB := bs HB hb; clear hb Ti))
            go_ret2
            exact ⟨_, er, ur (Kd.aY aq7.out (fun _ hk => trivial)), ul HB.out⟩
        ·
         replace H := Ba H; obtain ⟨aBR, aBS, H⟩ := H; replace H := Ba H; obtain ⟨aBT, aBU, H⟩ := H; replace H := Ba H; obtain ⟨aBV, aBW, H⟩ := H; replace H := sq H
         rcases H with ⟨aq8, aq9, H⟩ | ⟨c47, aq8, aq9, H⟩
         ·
          obtain ⟨aFk, akl⟩ := nm ([] : List ByteArray)
          rw [← akl.out] at H
          obtain ⟨rfl, rfl⟩ := s2 H
          go_wp2_with (refine gG 64 ?_; refine F8 64 Kd.string 9 akl ?_; intro aFl w48 ang hb; have aq_ := ak (Kd.aG (Kd.fK ang (Kd.jH (ur iY.out))) (aj (ul HB.out))); replace iY := ak (Kd.fA (ur iY.out) (Kd.eH ang) hb); replace HB := bs HB hb; clear hb ang)
          go_ret2
          exact ⟨_, er, ur (Kd.aY aq_.out (fun _ hk => trivial)), ul HB.out⟩
         ·
          replace H := nl H; obtain ⟨ara, H⟩ := H
          obtain ⟨aFm, akm⟩ := nm (fG ++ [a0.extract (fF : Int).toNat (uO : Int).toNat])
          rw [← akm.out] at H
          have H' := ak H; clear H
          go_wp2_with ((with_reducible refine dN (b := .append) (xs := #[.tmp 65, .tmp 67]) rfl ?_); (try (refine jJ (by rfl) ?_; dsimp only)); at_builtin; refine aP 65 67 Kd.string 23 9 (.string ⟨#[]⟩) 16 Tryz.underlying23 info9 HB (ur iY.out) akm (by have := ara.out; omega) ?_; intro aFo w51 ho hb hg hat; have arb := ak (ho); replace HB := ak (hb); clear ho hb hg hat iY)
          go_roundg k2
          case measure => exact kl
          case rel => exact ⟨_, _, rs, H', ⟨kl⟩, ⟨ur arb.out⟩, ⟨ul HB.out⟩⟩
   ·
    obtain ⟨rfl, rfl⟩ := s2 H
    go_wp2
    go_ret2
    exact ⟨_, er, ur iY.out, ul HB.out⟩
def lG.f (k : Nat) (a0 : ByteArray) : Option (Bool) := (b_.f k a0).bind fun ard => (if ard = true then ((iK.f a0).bind fun arf => (some (arf.toList == a0.toList))) else (some false))
theorem lG.calls {k : Nat} {a0 : ByteArray} {r : Bool} {w : World} (h : lG.f k a0 = some r) :
  Calls Tryz.prog 200 #[.string a0] w fun e w' => e = .returned (.bool r) ∧ Below w.heap.size w w' := by
 have HB := ak (Below.refl w.heap.size w)
 unfold lG.f at h; have H := h
 clear h
 replace H := bd H; obtain ⟨ard, A2, H⟩ := H; replace H := sb H
 rcases H with ⟨rfl, H⟩ | ⟨rfl, H⟩
 ·
  replace H := bd H; obtain ⟨arf, A4, H⟩ := H
  obtain rfl := s1 H
  go_enter Tryz.func200, Tryz.ntmps200
  go_wp2_with (first | (refine gA Tryz.func184 (b_.calls A2.out) ?_; intro nd) | (go_at_call 180; refine mB (iK.calls A4.out) ?_; intro w5 hb; replace HB := bs HB hb; clear hb))
  go_ret
  exact ⟨er, ul HB.out⟩
 ·
  obtain rfl := s1 H
  go_enter Tryz.func200, Tryz.ntmps200
  go_wp2_with (refine gA Tryz.func184 (b_.calls A2.out) ?_; intro nd)
  go_ret
  exact ⟨er, ul HB.out⟩
def tX.f (k : Nat) (a0 : ByteArray) : Option (Bool) := (aQ.f k a0).bind fun arh => (if arh = true then (some (decide ((a0.size : Int) ≤ 40))) else (some false))
theorem tX.calls {k : Nat} {a0 : ByteArray} {r : Bool} {w : World} (h : tX.f k a0 = some r) :
  Calls Tryz.prog 201 #[.string a0] w fun e w' => e = .returned (.bool r) ∧ dW w w' := by
 unfold tX.f at h; have H := h
 clear h
 replace H := bd H; obtain ⟨arh, A2, H⟩ := H; replace H := sb H
 rcases H with ⟨rfl, H⟩ | ⟨rfl, H⟩
 ·
  obtain rfl := s1 H
  go_enter Tryz.func201, Tryz.ntmps201
  go_wp2_with (refine gA Tryz.func159 (aQ.calls A2.out) ?_; intro nd)
  go_ret
  exact ⟨rs, dn⟩
 ·
  obtain rfl := s1 H
  go_enter Tryz.func201, Tryz.ntmps201
  go_wp2_with (refine gA Tryz.func159 (aQ.calls A2.out) ?_; intro nd)
  go_ret
  exact ⟨rs, dn⟩
mutual
def fB.l0 : Nat → ByteArray → Int → Option (Bool)
 | 0, _, _ => none
 | k + 1, x0, x3 => if x3 < (x0.size : Int) then (fB.j1 k x0 x3 (decide (x3 ≤ 40))) else (fB.j1 k x0 x3 false)
def fB.j1 : Nat → ByteArray → Int → Bool → Option (Bool)
 | 0, _, _, _ => none
 | k + 1, x0, x3, x11 => if x11 = true then (if 0 ≤ x3 then (if x3 < (x0.size : Int) then ((jD.f k (bt x0 x3)).bind fun ari => (if ari = true then (fB.l0 k x0 (wrap64 (x3 + 1))) else (some false))) else (none)) else (none)) else (if (x0.size : Int) ≥ 1 then (some (decide ((x0.size : Int) ≤ 40))) else (some false))
end
def fB.f (k : Nat) (a0 : ByteArray) : Option (Bool) := fB.l0 k a0 0
theorem fB.calls {k : Nat} {a0 : ByteArray} {r : Bool} {w : World} (h : fB.f k a0 = some r) :
  Calls Tryz.prog 214 #[.string a0] w fun e w' => e = .returned (.bool r) ∧ dW w w' := by
 unfold fB.f at h; have H := h
 clear h
 have H' := ak H; clear H
 go_enter Tryz.func214, Tryz.ntmps214
 go_wp2
 go_loopg [3] k (fun kq v3 w' => ∃ (dZ : Int), v3 = .int .i64 dZ ∧ ah (fB.l0 kq a0 dZ = some r) ∧ ah (kq ≤ k) ∧ dW w w')
 case atStart => exact ⟨_, rs, H', ⟨Nat.le_refl _⟩, dn⟩
 case round =>
  clear H'
  obtain ⟨dZ, rfl, HA, yB, ⟨m1, rfl⟩⟩ := hrel
  cases gk with
  | zero => exact zz HA.out
  | succ k1 =>
   obtain ⟨H⟩ := HA
   simp only [fB.l0] at H
   have HC2 := ak H
   clear H
   go_upto_region 2 with (fail)
   go_cut [11] (fun v11 wc => ∃ (kq : Nat) (wG : Bool), v11 = .bool wG ∧ ah (fB.j1 kq a0 dZ wG = some r) ∧ ah (kq ≤ k1) ∧ dW w wc)
   case first =>
    have H := HC2.out
    clear HC2
    replace H := sd H
    rcases H with ⟨iP, H⟩ | ⟨iP, H⟩
    ·
     (first | rw [iP] | (simp only [eu, f_]; rw [iP]) | skip)
     have H' := ak H; clear H
     go_wp2
     go_meet
     case rel => exact ⟨_, _, rs, H', ⟨kl⟩, dn⟩
    ·
     (first | rw [iP] | (simp only [eu, f_]; rw [iP]) | skip)
     have H' := ak H; clear H
     go_wp2
     go_meet
     case rel => exact ⟨_, _, rs, H', ⟨kl⟩, dn⟩
   case rest =>
    clear HC2
    obtain ⟨kq, wG, rfl, HA, HJ1, ⟨mc1, rfl⟩⟩ := hcut
    cases kq with
    | zero => exact zz HA.out
    | succ Py =>
     obtain ⟨H⟩ := HA
     simp only [fB.j1] at H
     replace H := sb H
     rcases H with ⟨rfl, H⟩ | ⟨rfl, H⟩
     ·
      replace H := oN H; obtain ⟨nR, H⟩ := H; replace H := oN H; obtain ⟨oJ, H⟩ := H; replace H := bd H; obtain ⟨ari, A8, H⟩ := H; replace H := sb H
      rcases H with ⟨rfl, H⟩ | ⟨rfl, H⟩
      ·
       have H' := ak H; clear H
       obtain ⟨p7, q7, hx7⟩ := bx a0 dZ
       go_wp2_with (refine gA Tryz.func199 (jD.calls A8.out) ?_; intro nd)
       go_roundg Py
       case measure => exact kl
       case rel => exact ⟨_, rs, H', ⟨kl⟩, dn⟩
      ·
       obtain rfl := s1 H
       obtain ⟨p7, q7, hx7⟩ := bx a0 dZ
       go_wp2_with (refine gA Tryz.func199 (jD.calls A8.out) ?_; intro nd)
       go_ret
       exact ⟨rs, dn⟩
     ·
      replace H := sp H
      rcases H with ⟨c10, H⟩ | ⟨c10, H⟩
      ·
       have pF : decide (1 ≤ (a0.size : Int)) = true := decide_eq_true c10
       have uI : decide (1 ≤ a0.size) = true := decide_eq_true (by omega)
       clear c10
       obtain rfl := s1 H
       go_wp2
       go_ret
       exact ⟨rs, dn⟩
      ·
       have pF : decide (1 ≤ (a0.size : Int)) = false := decide_eq_false c10
       have uI : decide (1 ≤ a0.size) = false := decide_eq_false (by omega)
       clear c10
       obtain rfl := s1 H
       go_wp2
       go_ret
       exact ⟨rs, dn⟩
end Go.Proofs.YtncdadcmghglkaaGreatDoor.PFnPartValid
