/- Printed walks; conditions: those in each statement. -/
import Derived.Test.YtncdadcmghglkaaGreatDoorVFnKidValidQt
import Derived.Test.YtncdadcmghglkaaGreatDoorVFnKidValidYt
import Derived.Test.YtncdadcmghglkaaGreatDoorPFnKidValidx0
import Derived.Test.YtncdadcmghglkaaGreatDoorPFnKidValidx11
-- fixed
-- short
-- dense
-- sq
-- sq2
namespace Go.Proofs.YtncdadcmghglkaaGreatDoor.PFnKidValid
open Go.RowKit Go.Proofs.YtncdadcmghglkaaGreatDoor.X Go.Proofs.YtncdadcmghglkaaGreatDoorW.bI Go.Proofs.YtncdadcmghglkaaGreatDoorW.gq Go.Proofs.YtncdadcmghglkaaGreatDoorW.iJ
attribute [local go_sem] kJ kK mD mF jv jw kL kM   -- for this text's walks alone
set_option linter.unusedVariables false
set_option maxHeartbeats 8000000
set_option maxRecDepth 100000
set_option linter.unusedSimpArgs false
mutual
def fZ.l0 : Nat → List (gU) → Int → Option (Bool)
 | 0, _, _ => none
 | k + 1, x0, x3 => if x3 < (x0.length : Int) then (fZ.j1 k x0 x3 (decide (x3 ≤ 20))) else (fZ.j1 k x0 x3 false)
def fZ.j1 : Nat → List (gU) → Int → Bool → Option (Bool)
 | 0, _, _, _ => none
 | k + 1, x0, x3, x11 => if x11 = true then (if 0 ≤ x3 then (if x3 < (x0.length : Int) then ((jd.f k ((fB x0 x3).f0) ((fB x0 x3).f1)).bind fun apU => (if apU = true then (fZ.l0 k x0 (wrap64 (x3 + 1))) else (some false))) else (none)) else (none)) else (some (decide ((x0.length : Int) ≤ 20)))
end
def fZ.f (k : Nat) (l0 : List (gU)) : Option (Bool) := fZ.l0 k l0 0
theorem fZ.calls {k c0 : Nat} {A0 : Option Addr} {l0 : List (gU)} {r : Bool} {w : World} (hr0 : Kd.C qj w A0 l0.length l0) (hc0 : l0.length ≤ c0) (h : fZ.f k l0 = some r) :
  Calls Tryz.prog 113 #[.slice A0 l0.length c0] w fun e w' => e = .returned (.bool r) ∧ Below w.heap.size w w' := by
 have DU := Tryz.underlying69
 have HR0 := ak hr0
 have yu := ak hc0
 clear hr0 hc0
 have HB := ak (Below.refl w.heap.size w)
 unfold fZ.f at h; have H := h
 clear h
 have H' := ak H; clear H
 go_enter Tryz.func113, Tryz.ntmps113
 go_wp2
 go_loopg [3] k (fun kq v3 w' => ∃ (dM : Int), v3 = .int .i64 dM ∧ ah (fZ.l0 kq l0 dM = some r) ∧ ah (kq ≤ k) ∧ ah (Below w.heap.size w w'))
 case atStart => exact ⟨_, rs, H', ⟨Nat.le_refl _⟩, ⟨ul HB.out⟩⟩
 case round =>
  clear H'
  obtain ⟨dM, rfl, HA, xG, HB⟩ := hrel
  cases gk with
  | zero => exact zz HA.out
  | succ k1 =>
   obtain ⟨H⟩ := HA
   simp only [fZ.l0] at H
   have HC2 := ak H
   clear H
   go_upto_region 2 with (fail)
   go_cut [11] (fun v11 wc => ∃ (kq : Nat) (uU : Bool), v11 = .bool uU ∧ ah (fZ.j1 kq l0 dM uU = some r) ∧ ah (kq ≤ k1) ∧ ah (Below w.heap.size w wc))
   case first =>
    have H := HC2.out
    clear HC2
    replace H := sd H
    rcases H with ⟨iO, H⟩ | ⟨iO, H⟩
    ·
     (first | rw [iO] | (simp only [dP, fG]; rw [iO]) | skip)
     have H' := ak H; clear H
     go_wp2
     go_meet
     case rel => exact ⟨_, _, rs, H', ⟨kl⟩, ⟨ul HB.out⟩⟩
    ·
     (first | rw [iO] | (simp only [dP, fG]; rw [iO]) | skip)
     have H' := ak H; clear H
     go_wp2
     go_meet
     case rel => exact ⟨_, _, rs, H', ⟨kl⟩, ⟨ul HB.out⟩⟩
   case rest =>
    clear HC2
    obtain ⟨kq, uU, rfl, HA, HJ1, HB⟩ := hcut
    cases kq with
    | zero => exact zz HA.out
    | succ Ox =>
     obtain ⟨H⟩ := HA
     simp only [fZ.j1] at H
     replace H := sb H
     rcases H with ⟨rfl, H⟩ | ⟨rfl, H⟩
     ·
      replace H := oL H; obtain ⟨nO, H⟩ := H; replace H := oL H; obtain ⟨oz, H⟩ := H; replace H := bd H; obtain ⟨apU, A7, H⟩ := H; replace H := sb H
      rcases H with ⟨rfl, H⟩ | ⟨rfl, H⟩
      ·
       have H' := ak H; clear H
       have X6 := zi dM
       have X7 := zj dM l0.length
       obtain ⟨apV, amy, JD, JE⟩ := qX HR0.out dM X6 X7
       cases amy
       replace JD := cl HB.out JD
       replace JE := cl HB.out JE
       replace X6 := eq_true X6
       replace X7 := eq_true X7
       go_wp2_with (refine gB Tryz.func158 (jd.calls A7.out) ?_; intro w9 hb; replace HB := bs HB hb; clear hb)
       go_roundg Ox
       case measure => exact kl
       case rel => exact ⟨_, rs, H', ⟨kl⟩, ⟨ul HB.out⟩⟩
      ·
       obtain rfl := s1 H
       have X6 := zi dM
       have X7 := zj dM l0.length
       obtain ⟨apV, amy, JD, JE⟩ := qX HR0.out dM X6 X7
       cases amy
       replace JD := cl HB.out JD
       replace JE := cl HB.out JE
       replace X6 := eq_true X6
       replace X7 := eq_true X7
       go_wp2_with (refine gB Tryz.func158 (jd.calls A7.out) ?_; intro w10 hb; replace HB := bs HB hb; clear hb)
       go_ret
       exact ⟨er, ul HB.out⟩
     ·
      obtain rfl := s1 H
      go_wp2
      go_ret
      exact ⟨er, ul HB.out⟩
mutual
def eH.l0 : Nat → ByteArray → Int → Int → Option (Int)
 | 0, _, _, _ => none
 | k + 1, x0, x5, x6 => if (wrap64 (x6 + 1)) < (x0.size : Int) then (if 0 ≤ x6 then (if x6 < (x0.size : Int) then (if (bt x0 x6) = 32 then (if 0 ≤ (wrap64 (x6 - 1)) then (if (wrap64 (x6 - 1)) < (x0.size : Int) then (if (bt x0 (wrap64 (x6 - 1))) = 32 then (eH.j1 k x0 x5 x6 true) else (if 0 ≤ (wrap64 (x6 + 1)) then (eH.j1 k x0 x5 x6 ((bt x0 (wrap64 (x6 + 1))) == 32)) else (none))) else (none)) else (none)) else (eH.j1 k x0 x5 x6 true)) else (none)) else (none)) else (some x5)
def eH.j1 : Nat → ByteArray → Int → Int → Bool → Option (Int)
 | 0, _, _, _, _ => none
 | k + 1, x0, x5, x6, x33 => if x33 = true then (eH.l0 k x0 x5 (wrap64 (x6 + 1))) else (if x6 ≤ 40 then (eH.l0 k x0 x6 (wrap64 (x6 + 1))) else (if x5 < 0 then (eH.l0 k x0 x6 (wrap64 (x6 + 1))) else (eH.l0 k x0 x5 (wrap64 (x6 + 1)))))
end
def eH.f (k : Nat) (a0 : ByteArray) (a1 : Int) : Option (Int) := eH.l0 k a0 (-1) (wrap64 (a1 + 1))
theorem eH.calls {k : Nat} {a0 : ByteArray} {a1 r : Int} {w : World} (h : eH.f k a0 a1 = some r) :
  Calls Tryz.prog 176 #[.string a0, .int .i64 a1] w fun e w' => e = .returned (.int .i64 r) ∧ dS w w' := by
 unfold eH.f at h; have H := h
 clear h
 have H' := ak H; clear H
 go_enter Tryz.func176, Tryz.ntmps176
 go_wp2
 go_loopg [5, 6] k (fun kq v5 v6 w' => ∃ (eP : Int) (jD : Int), v5 = .int .i64 eP ∧ v6 = .int .i64 jD ∧ ah (eH.l0 kq a0 eP jD = some r) ∧ ah (kq ≤ k) ∧ dS w w')
 case atStart => exact ⟨_, _, rs, rs, H', ⟨Nat.le_refl _⟩, dn⟩
 case round =>
  clear H'
  obtain ⟨eP, jD, rfl, rfl, HA, xG, ⟨m1, rfl⟩⟩ := hrel
  cases gk with
  | zero => exact zz HA.out
  | succ k1 =>
   obtain ⟨H⟩ := HA
   simp only [eH.l0] at H
   replace H := sp H
   rcases H with ⟨c3, H⟩ | ⟨c3, H⟩
   ·
    have iO := decide_eq_true c3
    (try (have Au : decide ((jD + 1) < (a0.size : Int)) = true := decide_eq_true (by have h_ := c3; unfold wrap64 at h_; omega)))
    clear c3
    have HC4 := ak H
    clear H
    go_upto_region 5 with (fail)
    go_cut [33] (fun v33 wc => ∃ (kq : Nat) (adJ : Bool), v33 = .bool adJ ∧ ah (eH.j1 kq a0 eP jD adJ = some r) ∧ ah (kq ≤ k1) ∧ dS w wc)
    case first =>
     have H := HC4.out
     clear HC4
     replace H := oL H; obtain ⟨nO, H⟩ := H
     (first | rw [nO] | (simp only [dP, fG]; rw [nO]) | skip)
     replace H := oL H; obtain ⟨oz, H⟩ := H; replace H := sq H
     rcases H with ⟨tu, Dl, H⟩ | ⟨c8, tu, Dl, H⟩
     ·
      obtain ⟨PN, IG⟩ : ∃ j_ : Int, (wrap64 (jD - 1)) = j_ := ⟨_, rfl⟩
      replace H : (if 0 ≤ (PN) then (if (PN) < (a0.size : Int) then (if (bt a0 (PN)) = 32 then (eH.j1 k1 a0 eP jD true) else (if 0 ≤ (wrap64 (jD + 1)) then (eH.j1 k1 a0 eP jD ((bt a0 (wrap64 (jD + 1))) == 32)) else (none))) else (none)) else (none)) = some r := by first | (rw [IG] at H; exact H) | (simp only [IG] at H ⊢; exact H)
      have ajn : (IntKind.i64.wrap (jD - 1)) = PN := (dP _).trans IG
      replace H := oL H; obtain ⟨oC, H⟩ := H; replace H := oL H; obtain ⟨uH, H⟩ := H; replace H := sq H
      rcases H with ⟨wo, zU, H⟩ | ⟨c13, wo, zU, H⟩
      ·
       have H' := ak H; clear H
       obtain ⟨p7, q7, hx7⟩ := bx a0 jD
       obtain ⟨p12, q12, amx⟩ := bx a0 (PN)
       go_wp2
       go_meet
       case rel => exact ⟨_, _, rs, H', ⟨kl⟩, dn⟩
      ·
       obtain ⟨JF, JG⟩ : ∃ j_ : Int, (wrap64 (jD + 1)) = j_ := ⟨_, rfl⟩
       replace H : (if 0 ≤ (JF) then (eH.j1 k1 a0 eP jD ((bt a0 (JF)) == 32)) else (none)) = some r := by first | (rw [JG] at H; exact H) | (simp only [JG] at H ⊢; exact H)
       (try rw [JG] at iO)
       have ayu : (IntKind.i64.wrap (jD + 1)) = JF := (dP _).trans JG
       replace H := oL H; obtain ⟨wu, H⟩ := H
       have H' := ak H; clear H
       obtain ⟨p7, q7, hx7⟩ := bx a0 jD
       obtain ⟨p12, q12, amx⟩ := bx a0 (PN)
       obtain ⟨p16, q16, hx16⟩ := bx a0 (JF)
       go_wp2
       go_meet
       case rel => exact ⟨_, _, (by first | rfl | (simp; done) | (simp only [← JG] <;> (first | rfl | simp)) | (simp [*]; done)), H', ⟨kl⟩, dn⟩
     ·
      have H' := ak H; clear H
      obtain ⟨p7, q7, hx7⟩ := bx a0 jD
      go_wp2
      go_meet
      case rel => exact ⟨_, _, rs, H', ⟨kl⟩, dn⟩
    case rest =>
     clear HC4
     try clear c3
     try clear iO
     try clear Au
     obtain ⟨kq, adJ, rfl, HA, HJ3, ⟨mc3, rfl⟩⟩ := hcut
     cases kq with
     | zero => exact zz HA.out
     | succ kj3 =>
      obtain ⟨H⟩ := HA
      simp only [eH.j1] at H
      replace H := sb H
      rcases H with ⟨rfl, H⟩ | ⟨rfl, H⟩
      ·
       have H' := ak H; clear H
       go_wp2
       go_roundg kj3
       case measure => exact kl
       case rel => exact ⟨_, _, rs, rs, H', ⟨kl⟩, dn⟩
      ·
       replace H := sd H
       rcases H with ⟨zV, H⟩ | ⟨zV, H⟩
       ·
        have H' := ak H; clear H
        go_wp2
        go_roundg kj3
        case measure => exact kl
        case rel => exact ⟨_, _, rs, rs, H', ⟨kl⟩, dn⟩
       ·
        replace H := sd H
        rcases H with ⟨Aw, H⟩ | ⟨Aw, H⟩
        ·
         have H' := ak H; clear H
         go_wp2
         go_roundg kj3
         case measure => exact kl
         case rel => exact ⟨_, _, rs, rs, H', ⟨kl⟩, dn⟩
        ·
         have H' := ak H; clear H
         go_wp2
         go_roundg kj3
         case measure => exact kl
         case rel => exact ⟨_, _, rs, rs, H', ⟨kl⟩, dn⟩
   ·
    have iO := decide_eq_false c3
    (try (have Au : decide ((jD + 1) < (a0.size : Int)) = false := decide_eq_false (by have h_ := c3; unfold wrap64 at h_; omega)))
    clear c3
    obtain rfl := s1 H
    go_wp2
    go_ret
    exact ⟨rs, dn⟩
mutual
def fQ.j0 : Nat → List ByteArray → ByteArray → Int → Option (List ByteArray)
 | 0, _, _, _ => none
 | k + 1, x3, x4, x5 => fQ.l0 k x3 x4 x5
def fQ.l0 : Nat → List ByteArray → ByteArray → Int → Option (List ByteArray)
 | 0, _, _, _ => none
 | k + 1, x3, x4, x5 => if (x4.size : Int) > 40 then ((eH.f k x4 x5).bind fun PS => (if PS < 0 then (if x3.length < 8796093022208 then (some (x3 ++ [x4])) else (none)) else (if 0 ≤ PS then (if PS ≤ (x4.size : Int) then (if x3.length < 8796093022208 then (fQ.l0 k (x3 ++ [x4.extract 0 (PS : Int).toNat]) (x4.extract (PS : Int).toNat x4.size) 1) else (none)) else (none)) else (none)))) else (if x3.length < 8796093022208 then (some (x3 ++ [x4])) else (none))
end
def fQ.f (k : Nat) (eG : ByteArray) (eU : ByteArray) : Option (List ByteArray) := (some (([] : List ByteArray) : List ByteArray)).bind fun acj => ((jd.f k eG eU).bind fun apW => (if apW = true then (if eG.size + 1 ≤ 9223372036854775807 then (if eU.toList = ([] : List UInt8) then (fQ.j0 k acj (eG ++ (⟨#[58]⟩ : ByteArray)) ((eG ++ (⟨#[58]⟩ : ByteArray)).size : Int)) else (if (eG ++ (⟨#[58]⟩ : ByteArray)).size + 1 ≤ 9223372036854775807 then (if ((eG ++ (⟨#[58]⟩ : ByteArray)) ++ (⟨#[32]⟩ : ByteArray)).size + eU.size ≤ 9223372036854775807 then (fQ.j0 k acj (((eG ++ (⟨#[58]⟩ : ByteArray)) ++ (⟨#[32]⟩ : ByteArray)) ++ eU) (wrap64 (((eG ++ (⟨#[58]⟩ : ByteArray)).size : Int) + 1))) else (none)) else (none))) else (none)) else (some acj)))
theorem fQ.calls {k : Nat} {eG eU : ByteArray} {r : List ByteArray} {w : World} (h : fQ.f k eG eU = some r) :
  Calls Tryz.prog 153 #[.agg #[.string eG, .string eU]] w fun e w' => ∃ ql : Value, e = .returned (ql) ∧ Kd.R Kd.string 9 w' w.heap.size (fun _ => True) ql r ∧ Below w.heap.size w w' := by
 have DU := Tryz.underlying69
 have HB := ak (Below.refl w.heap.size w)
 unfold fQ.f at h; have H := h
 clear h
 replace H := ny H
 obtain ⟨acj, ajo, H⟩ := H
 replace H := bd H; obtain ⟨apW, A2, H⟩ := H; replace H := sb H
 rcases H with ⟨rfl, H⟩ | ⟨rfl, H⟩
 ·
  replace H := nn H; obtain ⟨c4, H⟩ := H
  have su := eq_true c4
  have XW := decide_eq_true c4
  try have apX : (9223372036854775807 < eG.size + 1) = False := eq_false (Nat.not_lt.2 c4)
  have HC5 := ak H
  clear H
  go_enter Tryz.func153, Tryz.ntmps153
  go_upto_if 19 with (first | (refine bX HB 1 #[.string eG, .string eU] 69 ?_; intro SE w6 sJ apY hb; replace HB := bs HB hb; clear hb) | (refine H7 7 Kd.string 9 ajo ?_; intro apZ w7 ho8 hb; have NR := ak (Kd.aC ho8 (aj bb)); replace sJ := kb sJ hb; replace HB := bz HB hb; clear hb ho8; have z9 := zQ sJ.out) | (refine gB Tryz.func158 (jd.calls A2.out) ?_; intro w10 hb; replace NR := rb NR hb; replace sJ := kb sJ hb; replace HB := bz HB hb; clear hb; have z11 := zQ sJ.out))
  (try simp only [Act.put, qQ, qR, l_c])
  go_cut [4, 5] (fun v4 v5 wc => ∃ (kq : Nat) (amA : ByteArray) (V3 : Int), v4 = .string amA ∧ v5 = .int .i64 V3 ∧ ah (fQ.j0 kq acj amA V3 = some r) ∧ ah (kq ≤ k) ∧ ah (Kd.R Kd.string 9 wc w.heap.size (fun _ => True) apZ acj) ∧ ah (wc.heap[SE]? = some (.cells #[.string eG, .string eU] 69 (0, 0))) ∧ ah (Below w.heap.size w wc))
  case first =>
   have H := HC5.out
   clear HC5
   replace H := sp H
   rcases H with ⟨c12, H⟩ | ⟨c12, H⟩
   ·
    have xI := beq_iff_eq.mpr c12
    have amB : (eU.toList).isEmpty = true := List.isEmpty_iff.mpr c12
    have Dn := bne_eq_false_iff_eq.mpr c12
    clear c12
    (first | rw [xI] | (simp only [dP, fG]; rw [xI]) | skip)
    (first | (rw [amB]; simp only [Bool.not_true, Bool.not_false]) | skip)
    have H' := ak H; clear H
    go_wp2
    go_meet
    case rel => exact ⟨_, _, _, rs, rs, H', ⟨Jq⟩, ⟨ur NR.out⟩, ⟨ub sJ.out⟩, ⟨bb⟩⟩
   ·
    have xI := beq_eq_false_iff_ne.mpr c12
    have amB : (eU.toList).isEmpty = false := List.isEmpty_eq_false_iff.mpr c12
    have Dn := bne_iff_ne.mpr c12
    (first | rw [xI] | (simp only [dP, fG]; rw [xI]) | skip)
    (first | (rw [amB]; simp only [Bool.not_true, Bool.not_false]) | skip)
    replace H := nn H; obtain ⟨c13, H⟩ := H
    have wo := eq_true c13
    have zU := decide_eq_true c13
    try have ap0 : (9223372036854775807 < eG.size + 1 + 1) = False := by have h_ := (eq_false (Nat.not_lt.2 c13) : (9223372036854775807 < (eG ++ (⟨#[58]⟩ : ByteArray)).size + 1) = False); simp only [ByteArray.size_append] at h_; exact h_
    try have ajp : (9223372036854775807 < (eG ++ (⟨#[58]⟩ : ByteArray)).size + 1) = False := eq_false (Nat.not_lt.2 c13)
    replace H := nn H; obtain ⟨c14, H⟩ := H
    have qC := eq_true c14
    have wI := decide_eq_true c14
    try have aBO : (9223372036854775807 < eG.size + 1 + 1 + eU.size) = False := by have h_ := (eq_false (Nat.not_lt.2 c14) : (9223372036854775807 < ((eG ++ (⟨#[58]⟩ : ByteArray)) ++ (⟨#[32]⟩ : ByteArray)).size + eU.size) = False); simp only [ByteArray.size_append] at h_; exact h_
    try have ap1 : (9223372036854775807 < ((eG ++ (⟨#[58]⟩ : ByteArray)) ++ (⟨#[32]⟩ : ByteArray)).size + eU.size) = False := eq_false (Nat.not_lt.2 c14)
    have H' := ak H; clear H
    have z15 := zQ sJ.out
    go_wp2
    go_meet
    case rel => exact ⟨_, _, _, rs, rs, H', ⟨Jq⟩, ⟨ur NR.out⟩, ⟨ub sJ.out⟩, ⟨bb⟩⟩
  case rest =>
   clear HC5
   try clear c4
   try clear su
   try clear XW
   try clear apX
   obtain ⟨kq, amA, V3, rfl, rfl, HA, HJ4, oV, sJ, HB⟩ := hcut
   cases kq with
   | zero => exact zz HA.out
   | succ kj4 =>
    obtain ⟨H⟩ := HA
    simp only [fQ.j0] at H
    have H' := ak H; clear H
    go_wp2
    go_loopg [3, 4, 5] kj4 (fun kq v3 v4 v5 w' => ∃ (kZ : List ByteArray) (oJ : ByteArray) (rH : Int), v4 = .string oJ ∧ v5 = .int .i64 rH ∧ ah (fQ.l0 kq kZ oJ rH = some r) ∧ ah (kq ≤ kj4) ∧ ah (Kd.R Kd.string 9 w' w.heap.size (fun _ => True) v3 kZ) ∧ ah (w'.heap[SE]? = some (.cells #[.string eG, .string eU] 69 (0, 0))) ∧ ah (Below w.heap.size w w'))
    case atStart => exact ⟨_, _, _, rs, rs, H', ⟨Nat.le_refl _⟩, ⟨ur oV.out⟩, ⟨ub sJ.out⟩, ⟨bb⟩⟩
    case round =>
     clear H'
     try clear c4
     try clear su
     try clear XW
     try clear apX
     obtain ⟨kZ, oJ, rH, rfl, rfl, HA, Zw, oV, sJ, HB⟩ := hrel
     cases gk with
     | zero => exact zz HA.out
     | succ k2 =>
      obtain ⟨H⟩ := HA
      simp only [fQ.l0] at H
      replace H := sp H
      rcases H with ⟨c16, H⟩ | ⟨c16, H⟩
      ·
       have zW : decide (40 < (oJ.size : Int)) = true := decide_eq_true c16
       have JH : decide (40 < oJ.size) = true := decide_eq_true (by omega)
       clear c16
       replace H := bd H; obtain ⟨PS, A17, H⟩ := H; replace H := sd H
       rcases H with ⟨zV, H⟩ | ⟨zV, H⟩
       ·
        replace H := nl H; obtain ⟨adK, H⟩ := H
        obtain ⟨aEH, ajq⟩ := nm (kZ ++ [oJ])
        rw [← ajq.out] at H
        obtain rfl := s1 H
        go_wp2_with (first | (refine gA Tryz.func176 (eH.calls A17.out) ?_; intro nd) | ((with_reducible refine eu (b := .append) (xs := #[.tmp 44, .tmp 46]) rfl ?_); at_builtin; refine Kd.qc Kd.string (w0 := w) w.heap.size rfl (.tmp 44) (.tmp 46) 23 9 (.string ⟨#[]⟩) 16 rfl Tryz.underlying23 info9 rfl (by decide) (by omega) u3 kZ oJ [.string oJ] (fun _ => True) (fun _ => False) rfl rfl ?aP (fun _ hk => hk.elim) ?aF ?aO ?aB ?aS ?aL ?_; (case aP => exact rfl); (case aB => exact bb); (case aF => exact (fun _ _ => trivial)); (case aO => exact (ur oV.out)); (case aS => exact (aj bb)); (case aL => have := adK.out; omega); intro aEI w20 ho hb hg hat; rw [← ajq.out] at ho; have ap2 := ak (ho); replace sJ := ak (dw (g := SE) (o := .cells #[.string eG, .string eU] 69 (0, 0)) (ub sJ.out) hg (Kd.oU oV.out sJ.out (by decide))); replace HB := ak (hb); clear ho hb hg hat oV))
        go_ret
        exact ⟨_, er, ur ap2.out, bb⟩
       ·
        replace H := Ac H; obtain ⟨Ez, ajr, H⟩ := H; replace H := Ac H; obtain ⟨Fv, Zx, H⟩ := H; replace H := nl H; obtain ⟨adL, H⟩ := H
        obtain ⟨aEJ, ajs⟩ := nm (kZ ++ [oJ.extract 0 (PS : Int).toNat])
        rw [← ajs.out] at H
        have NS := eq_true (of_decide_eq_true (by assumption) : 0 ≤ PS)
        have PU := eq_true (of_decide_eq_true (by assumption) : PS ≤ (oJ.size : Int))
        have H' := ak H; clear H
        go_wp2_with (first | (refine gA Tryz.func176 (eH.calls A17.out) ?_; intro nd) | ((with_reducible refine eu (b := .append) (xs := #[.tmp 35, .tmp 39]) rfl ?_); at_builtin; refine Kd.qc Kd.string (w0 := w) w.heap.size rfl (.tmp 35) (.tmp 39) 23 9 (.string ⟨#[]⟩) 16 rfl Tryz.underlying23 info9 rfl (by decide) (by omega) u3 kZ (oJ.extract 0 (PS : Int).toNat) [.string (oJ.extract 0 (PS : Int).toNat)] (fun _ => True) (fun _ => False) rfl rfl ?aP (fun _ hk => hk.elim) ?aF ?aO ?aB ?aS ?aL ?_; (case aP => exact rfl); (case aB => exact bb); (case aF => exact (fun _ _ => trivial)); (case aO => exact (ur oV.out)); (case aS => exact (aj bb)); (case aL => have := adL.out; omega); intro aEK w26 ho hb hg hat; rw [← ajs.out] at ho; have ap3 := ak (ho); replace sJ := ak (dw (g := SE) (o := .cells #[.string eG, .string eU] 69 (0, 0)) (ub sJ.out) hg (Kd.oU oV.out sJ.out (by decide))); replace HB := ak (hb); clear ho hb hg hat oV))
        go_roundg k2
        case measure => exact kl
        case rel => exact ⟨_, _, _, rs, rs, H', ⟨kl⟩, ⟨ur ap3.out⟩, ⟨ub sJ.out⟩, ⟨bb⟩⟩
      ·
       have zW : decide (40 < (oJ.size : Int)) = false := decide_eq_false c16
       have JH : decide (40 < oJ.size) = false := decide_eq_false (by omega)
       clear c16
       replace H := nl H; obtain ⟨adM, H⟩ := H
       obtain ⟨aEL, ajt⟩ := nm (kZ ++ [oJ])
       rw [← ajt.out] at H
       obtain rfl := s1 H
       go_wp2_with ((with_reducible refine eu (b := .append) (xs := #[.tmp 44, .tmp 46]) rfl ?_); at_builtin; refine Kd.qc Kd.string (w0 := w) w.heap.size rfl (.tmp 44) (.tmp 46) 23 9 (.string ⟨#[]⟩) 16 rfl Tryz.underlying23 info9 rfl (by decide) (by omega) u3 kZ oJ [.string oJ] (fun _ => True) (fun _ => False) rfl rfl ?aP (fun _ hk => hk.elim) ?aF ?aO ?aB ?aS ?aL ?_; (case aP => exact rfl); (case aB => exact bb); (case aF => exact (fun _ _ => trivial)); (case aO => exact (ur oV.out)); (case aS => exact (aj bb)); (case aL => have := adM.out; omega); intro aEM w28 ho hb hg hat; rw [← ajt.out] at ho; have ap4 := ak (ho); replace sJ := ak (dw (g := SE) (o := .cells #[.string eG, .string eU] 69 (0, 0)) (ub sJ.out) hg (Kd.oU oV.out sJ.out (by decide))); replace HB := ak (hb); clear ho hb hg hat oV)
       go_ret
       exact ⟨_, er, ur ap4.out, bb⟩
 ·
  obtain rfl := s1 H
  go_enter Tryz.func153, Tryz.ntmps153
  go_wp2_with (first | (refine bX HB 1 #[.string eG, .string eU] 69 ?_; intro SE w29 sJ apY hb; replace HB := bs HB hb; clear hb) | (refine H7 7 Kd.string 9 ajo ?_; intro apZ w30 ap5 hb; have NR := ak (Kd.aC ap5 (aj bb)); replace sJ := kb sJ hb; replace HB := bz HB hb; clear hb ap5; have z32 := zQ sJ.out) | (refine gB Tryz.func158 (jd.calls A2.out) ?_; intro w33 hb; replace NR := rb NR hb; replace sJ := kb sJ hb; replace HB := bz HB hb; clear hb))
  go_ret
  exact ⟨_, er, ur NR.out, bb⟩
def iP.l0 : Nat → List (gU) → List ByteArray → Int → Option (List ByteArray × Bool)
 | 0, _, _, _ => none
 | k + 1, x0, x4, x5 => if x5 < (x0.length : Int) then (if 0 ≤ x5 then ((fQ.f k ((fB x0 x5).f0) ((fB x0 x5).f1)).bind fun acn => (if x4.length + acn.length < 8796093022208 then (iP.l0 k x0 (x4 ++ acn) (wrap64 (x5 + 1))) else (none))) else (none)) else (some (x4, true))
def iP.f (k : Nat) (l0 : List (gU)) : Option (List ByteArray × Bool) := (some (([] : List ByteArray) : List ByteArray)).bind fun amC => ((fZ.f k l0).bind fun ap6 => (if ap6 = true then (iP.l0 k l0 amC 0) else (some (amC, false))))
theorem iP.calls {k c0 : Nat} {A0 : Option Addr} {l0 : List (gU)} {r1 : List ByteArray} {r2 : Bool} {w : World} (hr0 : Kd.C qj w A0 l0.length l0) (hc0 : l0.length ≤ c0) (h : iP.f k l0 = some (r1, r2)) :
  Calls Tryz.prog 107 #[.slice A0 l0.length c0] w fun e w' => ∃ ql : Value, e = .returned (.tuple #[ql, .bool r2]) ∧ Kd.R Kd.string 9 w' w.heap.size (fun _ => True) ql r1 ∧ Below w.heap.size w w' := by
 have DU := Tryz.underlying69
 have HR0 := ak hr0
 have yu := ak hc0
 clear hr0 hc0
 have HB := ak (Below.refl w.heap.size w)
 unfold iP.f at h; have H := h
 clear h
 replace H := ny H
 obtain ⟨amC, aju, H⟩ := H
 replace H := bd H; obtain ⟨ap6, A2, H⟩ := H; replace H := sb H
 rcases H with ⟨rfl, H⟩ | ⟨rfl, H⟩
 ·
  have H' := ak H; clear H
  go_enter Tryz.func107, Tryz.ntmps107
  go_wp2_with (first | (refine H7 6 Kd.string 9 aju ?_; intro ayv w4 ho5 hb; have PV := ak (Kd.aC ho5 (aj (ul HB.out))); replace HB := bs HB hb; clear hb ho5) | (refine gB Tryz.func113 (fZ.calls (cu (Kd.aN HR0.out HB.out)) yu.out A2.out) ?_; intro w6 hb; replace PV := rb PV hb; replace HB := bs HB hb; clear hb))
  go_loopg [4, 5] k (fun kq v4 v5 w' => ∃ (dV : List ByteArray) (eP : Int), v5 = .int .i64 eP ∧ ah (iP.l0 kq l0 dV eP = some (r1, r2)) ∧ ah (kq ≤ k) ∧ ah (Kd.R Kd.string 9 w' w.heap.size (fun _ => True) v4 dV) ∧ ah (Below w.heap.size w w'))
  case atStart => exact ⟨_, _, rs, H', ⟨Nat.le_refl _⟩, ⟨ur PV.out⟩, ⟨ul HB.out⟩⟩
  case round =>
   clear H'
   obtain ⟨dV, eP, rfl, HA, xG, iM, HB⟩ := hrel
   cases gk with
   | zero => exact zz HA.out
   | succ k1 =>
    obtain ⟨H⟩ := HA
    simp only [iP.l0] at H
    replace H := sd H
    rcases H with ⟨sD, H⟩ | ⟨sD, H⟩
    ·
     replace H := oL H; obtain ⟨tu, H⟩ := H; replace H := bd H; obtain ⟨acn, A9, H⟩ := H; replace H := nl H; obtain ⟨VR, H⟩ := H
     obtain ⟨aEN, ajv⟩ := nm (dV ++ acn)
     rw [← ajv.out] at H
     have H' := ak H; clear H
     have amD := zi eP
     have amE := zj eP l0.length
     obtain ⟨aBP, ayw, Zy, Zz⟩ := qX HR0.out eP amD amE
     cases ayw
     replace Zy := cl HB.out Zy
     replace Zz := cl HB.out Zz
     replace amD := eq_true amD
     replace amE := eq_true amE
     go_wp2_with (first | (refine gV Tryz.func153 (fQ.calls A9.out) ?_; rintro aEO Ub ⟨ho0, hb⟩; have V4 := ak (Kd.aC (Kd.gK ho0 (Kd.kU (ur iM.out))) (aj (ul HB.out))); replace iM := ak (Kd.fP (ur iM.out) (Kd.fO ho0) hb); replace HB := bs HB hb; clear hb; (try clear ho0); obtain ⟨XU, Jk, Ud⟩ := Kd.aV V4.out; subst Ud) | ((with_reducible refine eu (b := .append) (xs := #[.tmp 17, .tmp 22]) rfl ?_); at_builtin; refine Kd.qy Kd.string (w0 := w) w.heap.size rfl (.tmp 17) (.tmp 22) 23 9 (.string ⟨#[]⟩) 16 rfl Tryz.underlying23 info9 rfl (by decide) (by omega) u4 dV acn _ _ _ (fun k_ => some k_ ≠ (.slice XU acn.length Jk : Value).ownBlock) (fun _ => False) rfl rfl ?aO ?aR (fun _ _ h => h) (fun _ h => h.elim) ?aF ?aB ?aS ?aL ?_; (case aR => repeat (first | exact (Kd.aH V4.out).2.2 | (with_reducible refine Kd.jf ?_ _) | (with_reducible refine Kd.jg ?_ _) | (with_reducible refine Kd.kH ?_))); (case aB => exact (ul HB.out)); (case aF => exact (fun k_ hk => Kd.fresh' (Kd.kU (ur V4.out)) k_ hk)); (case aO => exact (ur (Kd.bn iM.out (fun _ hk => hk.2)))); (case aS => exact (aj (ul HB.out))); (case aL => have := VR.out; omega); intro aEP w12 ho hb hg hat; rw [← ajv.out] at ho; have ap7 := ak (ho); replace V4 := ak (Kd.Aa (ok := (fun _ => True)) (ur V4.out) hg hat); replace HB := ak (hb); clear ho hb hg hat iM))
     go_roundg k1
     case measure => exact kl
     case rel => exact ⟨_, _, rs, H', ⟨kl⟩, ⟨ur (Kd.bn ap7.out (fun _ hk => trivial))⟩, ⟨ul HB.out⟩⟩
    ·
     obtain ⟨rfl, rfl⟩ := s2 H
     go_wp2
     go_ret2
     exact ⟨_, er, ur iM.out, ul HB.out⟩
 ·
  obtain ⟨rfl, rfl⟩ := s2 H
  go_enter Tryz.func107, Tryz.ntmps107
  go_wp2_with (first | (refine H7 6 Kd.string 9 aju ?_; intro ayv SA Ot hb; have PV := ak (Kd.aC Ot (aj (ul HB.out))); replace HB := bs HB hb; clear hb Ot) | (refine gB Tryz.func113 (fZ.calls (cu (Kd.aN HR0.out HB.out)) yu.out A2.out) ?_; intro w16 hb; replace PV := rb PV hb; replace HB := bs HB hb; clear hb))
  go_ret2
  exact ⟨_, er, ur PV.out, ul HB.out⟩
def iy.f (a0 : ByteArray) : Option (ByteArray) := if a0.size ≤ 140737488355328 then some (strOfNums ((bytesOf a0).map RJ)) else none
set_option maxHeartbeats 1000000 in
set_option maxRecDepth 100000 in
theorem iy.calls {a0 r : ByteArray} {w : World} (h : iy.f a0 = some r) :
  Calls Tryz.prog 180 #[.string a0] w fun e w' => e = .returned (.string r) ∧ Below w.heap.size w w' := by
 unfold iy.f at h
 split at h
 ·
  rename_i hb
  injection h with h
  subst h
  have kb := fun W => NT (P := Tryz.prog) 9 22 5 Tryz.underlying9 Tryz.underlying22 Tryz.underlying5 a0 W
  go_enter Tryz.func180, Tryz.ntmps180
  go_wp2
  go_loopw [4] (fun i W => ∃ k : Nat, k ≤ a0.size ∧ i = .int .i64 k ∧ Md w w.heap.size (ET (bytesOf a0) k) W) (fun i _ => a0.size - (intOf i).toNat)
  case atStart => exact ⟨0, Nat.zero_le _, rfl, by simpa [ET] using JI w 5 a0⟩
  case round =>
   obtain ⟨k, hk, rfl, hR⟩ := hrel
   have HR := ak hR
   by_cases hlt : k < a0.size
   ·
    have hc := hR.cell k (by rw [mJ, bytesOf_length]; exact hlt)
    have hf := hR.free k (by rw [mJ, bytesOf_length]; exact hlt)
    rw [Uo _ _ (by rw [bytesOf_length]; exact hlt)] at hc
    clear hR
    have hr := H8 a0 k
    have hs := ak (SG (bytesOf a0) k (by rw [bytesOf_length]; exact hlt))
    have hu := ak (Me (bytesOf a0) k (by rw [bytesOf_length]; exact hlt))
    generalize (bytesOf a0).getD k 0 = c at hc hr hs hu
    go_wp2
    ·
     go_roundw
     case rel => exact ⟨k + 1, by omega, by go_num, by
      rw [hu.out, RJ, if_pos ⟨by omega, by omega⟩]
      exact HR.out.store (Nat.le_refl _) k (by rw [mJ, bytesOf_length]; exact hlt) _⟩
     case measure => simp [intOf]; omega
    ·
     go_roundw
     case rel => exact ⟨k + 1, by omega, by go_num, by rw [hs.out (by omega)]; exact HR.out⟩
     case measure => simp [intOf]; omega
    ·
     go_roundw
     case rel => exact ⟨k + 1, by omega, by go_num, by rw [hs.out (by omega)]; exact HR.out⟩
     case measure => simp [intOf]; omega
   ·
    clear hR
    have kd := run_convert_bytes_arg (P := Tryz.prog) wr 22 5 Tryz.underlying22 Tryz.underlying5 w.heap.size 0 a0.size (grownCap w a0.size 0 5) (ET (bytesOf a0) k) (by rw [mJ, bytesOf_length]) (fun i hi => by
     rw [Nat.zero_add]; exact HR.out.cell i (by rw [mJ, bytesOf_length]; exact hi)) 9 Tryz.underlying9
    go_wp2
    go_ret
    have hk2 : k = a0.size := by omega
    exact ⟨by rw [hk2, V5 (bytesOf a0) a0.size (bytesOf_length a0)]; rfl, HR.out.below⟩
 ·
  cases h
def qE.f (a0 : ByteArray) (a1 : ByteArray) : Option (Bool) := (iy.f a0).bind fun ap8 => ((iy.f a1).bind fun ap9 => (some (ap8.toList == ap9.toList)))
theorem qE.calls {a0 a1 : ByteArray} {r : Bool} {w : World} (h : qE.f a0 a1 = some r) :
  Calls Tryz.prog 197 #[.string a0, .string a1] w fun e w' => e = .returned (.bool r) ∧ Below w.heap.size w w' := by
 have HB := ak (Below.refl w.heap.size w)
 unfold qE.f at h; have H := h
 clear h
 replace H := bd H; obtain ⟨ap8, A3, H⟩ := H; replace H := bd H; obtain ⟨ap9, A4, H⟩ := H
 obtain rfl := s1 H
 go_enter Tryz.func197, Tryz.ntmps197
 go_wp2_with (first | (refine gB Tryz.func180 (iy.calls A3.out) ?_; intro w5 hb; replace HB := bs HB hb; clear hb) | (refine gB Tryz.func180 (iy.calls A4.out) ?_; intro w6 hb; replace HB := bs HB hb; clear hb))
 go_ret
 exact ⟨er, ul HB.out⟩
end Go.Proofs.YtncdadcmghglkaaGreatDoor.PFnKidValid
