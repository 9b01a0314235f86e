/- Printed walks; conditions: those in each statement. -/
import Derived.Test.YtncdadcmghglkaaGreatDoorVFnKidValidQt
import Derived.Test.YtncdadcmghglkaaGreatDoorVFnKidValidYt
import Derived.Test.YtncdadcmghglkaaGreatDoorPFnKidValidx0
import Derived.Test.YtncdadcmghglkaaGreatDoorPFnKidValidx1
import Derived.Test.YtncdadcmghglkaaGreatDoorPFnKidValidx4
import Derived.Test.YtncdadcmghglkaaGreatDoorPFnKidValidx3
-- short
-- dense
-- sq
-- sq2
namespace Go.Proofs.YtncdadcmghglkaaGreatDoor.PFnKidValid
open Go.RowKit Go.Proofs.YtncdadcmghglkaaGreatDoor.X Go.Proofs.YtncdadcmghglkaaGreatDoorW.bI Go.Proofs.YtncdadcmghglkaaGreatDoorW.gq Go.Proofs.YtncdadcmghglkaaGreatDoorW.iJ
attribute [local go_sem] kJ kK mD mF jv jw kL kM   -- for this text's walks alone
set_option linter.unusedVariables false
set_option maxHeartbeats 8000000
set_option maxRecDepth 100000
set_option linter.unusedSimpArgs false
def pF.f (k : Nat) (a0 : ByteArray) : Option (Bool) := if (a0.size : Int) ≥ 1 then (if (a0.size : Int) ≤ 40 then ((dN.f k a0).bind fun avw => (some avw)) else (some false)) else (some false)
theorem pF.calls {k : Nat} {a0 : ByteArray} {r : Bool} {w : World} (h : pF.f k a0 = some r) :
  Calls Tryz.prog 193 #[.string a0] w fun e w' => e = .returned (.bool r) ∧ dS w w' := by
 unfold pF.f at h; have H := h
 clear h
 replace H := sp H
 rcases H with ⟨c2, H⟩ | ⟨c2, H⟩
 ·
  have nT : decide (1 ≤ (a0.size : Int)) = true := decide_eq_true c2
  have uF : decide (1 ≤ a0.size) = true := decide_eq_true (by omega)
  clear c2
  replace H := sp H
  rcases H with ⟨c3, H⟩ | ⟨c3, H⟩
  ·
   have iO := decide_eq_true c3
   have Au : decide (a0.size ≤ 40) = true := decide_eq_true (by omega)
   clear c3
   replace H := bd H; obtain ⟨avw, A4, H⟩ := H
   obtain rfl := s1 H
   go_enter Tryz.func193, Tryz.ntmps193
   go_wp2_with (go_at_call 138; refine mA (dN.calls A4.out) ?_; intro nd)
   go_ret
   exact ⟨rs, dn⟩
  ·
   have iO := decide_eq_false c3
   have Au : decide (a0.size ≤ 40) = false := decide_eq_false (by omega)
   clear c3
   obtain rfl := s1 H
   go_enter Tryz.func193, Tryz.ntmps193
   go_wp2
   go_ret
   exact ⟨rs, dn⟩
 ·
  have nT : decide (1 ≤ (a0.size : Int)) = false := decide_eq_false c2
  have uF : decide (1 ≤ a0.size) = false := decide_eq_false (by omega)
  clear c2
  obtain rfl := s1 H
  go_enter Tryz.func193, Tryz.ntmps193
  go_wp2
  go_ret
  exact ⟨rs, dn⟩
def iR.l0 : Nat → ByteArray → List Int → Int → Int → Option (ByteArray)
 | 0, _, _, _, _ => none
 | k + 1, x0, x3, x15, x16 => if x16 < x15 then (if 0 ≤ x16 then (if x16 < (x0.size : Int) then (if (bt x0 x16) = 34 then (if x3.length < 140737488355328 then ((some (x3 ++ [92] : List Int)).bind fun aiD => (if aiD.length < 140737488355328 then (iR.l0 k x0 (aiD ++ [bt x0 x16]) x15 (wrap64 (x16 + 1))) else (none))) else (none)) else (if (bt x0 x16) = 92 then (if x3.length < 140737488355328 then ((some (x3 ++ [92] : List Int)).bind fun aiE => (if aiE.length < 140737488355328 then (iR.l0 k x0 (aiE ++ [bt x0 x16]) x15 (wrap64 (x16 + 1))) else (none))) else (none)) else (if x3.length < 140737488355328 then (iR.l0 k x0 (x3 ++ [bt x0 x16]) x15 (wrap64 (x16 + 1))) else (none)))) else (none)) else (none)) else (if x3.length < 140737488355328 then (some (strOfNums (x3 ++ [34]))) else (none))
def iR.f (k : Nat) (a0 : ByteArray) : Option (ByteArray) := (bD.f k a0).bind fun t196 => (if t196 = true then ((pF.f k a0).bind fun avx => (if avx = true then (some a0) else (iR.l0 k a0 (([34] : List Int)) (a0.size : Int) 0))) else (some (⟨#[]⟩ : ByteArray)))
theorem iR.calls {k : Nat} {a0 r : ByteArray} {w : World} (h : iR.f k a0 = some r) :
  Calls Tryz.prog 166 #[.string a0] w fun e w' => e = .returned (.string r) ∧ Below w.heap.size w w' := by
 have HB := ak (Below.refl w.heap.size w)
 unfold iR.f at h; have H := h
 clear h
 replace H := bd H; obtain ⟨t196, A2, H⟩ := H; replace H := sb H
 rcases H with ⟨rfl, H⟩ | ⟨rfl, H⟩
 ·
  replace H := bd H; obtain ⟨avx, A4, H⟩ := H; replace H := sb H
  rcases H with ⟨rfl, H⟩ | ⟨rfl, H⟩
  ·
   obtain rfl := s1 H
   go_enter Tryz.func166, Tryz.ntmps166
   go_wp2_with (first | (refine gA Tryz.func89 (bD.calls A2.out) ?_; intro nd) | (refine gA Tryz.func193 (pF.calls A4.out) ?_; intro nd))
   go_ret
   exact ⟨er, ul HB.out⟩
  ·
   obtain ⟨aJj, alR⟩ := nm ([34] : List Int)
   rw [← alR.out] at H
   have H' := ak H; clear H
   go_enter Tryz.func166, Tryz.ntmps166
   go_wp2_with (first | (refine gA Tryz.func89 (bD.calls A2.out) ?_; intro nd) | (refine gA Tryz.func193 (pF.calls A4.out) ?_; intro nd) | (refine RF 13 (Kd.int .u8) 5 [.int .u8 34] alR (dD.one (show Kd.M (Kd.int .u8) _ _ _ 34 [.int .u8 34] from rfl) (dD.none _ _)) ?_; intro aJk w6 ho7 hb; have avy := ak (Kd.aC ho7 (aj (ul HB.out))); replace HB := bs HB hb; clear hb ho7))
   go_loopg [3, 16] k (fun kq v3 v16 w' => ∃ (dM : List Int) (yw : Int), v16 = .int .i64 yw ∧ ah (iR.l0 kq a0 dM (a0.size : Int) yw = some r) ∧ ah (kq ≤ k) ∧ ah (Kd.R (Kd.int .u8) 5 w' w.heap.size (fun _ => True) v3 dM) ∧ ah (Below w.heap.size w w'))
   case atStart => exact ⟨_, _, rs, H', ⟨Nat.le_refl _⟩, ⟨ur avy.out⟩, ⟨ul HB.out⟩⟩
   case round =>
    clear H'
    obtain ⟨dM, yw, rfl, HA, xG, oV, HB⟩ := hrel
    cases gk with
    | zero => exact zz HA.out
    | succ k1 =>
     obtain ⟨H⟩ := HA
     simp only [iR.l0] at H
     replace H := sd H
     rcases H with ⟨tu, H⟩ | ⟨tu, H⟩
     ·
      replace H := oL H; obtain ⟨yh, H⟩ := H; replace H := oL H; obtain ⟨oC, H⟩ := H; replace H := sq H
      rcases H with ⟨xI, Dn, H⟩ | ⟨c12, xI, Dn, H⟩
      ·
       replace H := nl H; obtain ⟨avz, H⟩ := H
       replace H := ny H
       obtain ⟨aiD, avA, H⟩ := H
       replace H := nl H; obtain ⟨avC, H⟩ := H
       obtain ⟨aJl, alS⟩ := nm (aiD ++ [bt a0 yw])
       rw [← alS.out] at H
       have H' := ak H; clear H
       obtain ⟨p11, q11, VZ⟩ := bx a0 yw
       go_wp2_with (first | (at_builtin; refine aP 29 30 (Kd.int .u8) 22 5 (.int .u8 0) 1 Tryz.underlying22 info5 HB (ur oV.out) avA (by have := avz.out; omega) ?_; intro aJm w16 ho hb hg hat; have alT := ak (ho); replace HB := ak (hb); clear ho hb hg hat oV; have p14 : 0 ≤ (yw : Int) := of_decide_eq_true (by assumption); have q14 : yw < (a0.size : Int) := of_decide_eq_true (by assumption); have amM := vY a0 yw; replace p14 := eq_true p14; replace q14 := eq_true q14) | (at_builtin; refine aP 32 36 (Kd.int .u8) 22 5 (.int .u8 0) 1 Tryz.underlying22 info5 HB (ur alT.out) alS (by have := avC.out; omega) ?_; intro aJn w17 ho hb hg hat; have avD := ak (ho); replace HB := ak (hb); clear ho hb hg hat alT))
       go_roundg k1
       case measure => exact kl
       case rel => exact ⟨_, _, rs, H', ⟨kl⟩, ⟨ur avD.out⟩, ⟨ul HB.out⟩⟩
      ·
       replace H := sq H
       rcases H with ⟨Aw, Ew, H⟩ | ⟨c19, Aw, Ew, H⟩
       ·
        replace H := nl H; obtain ⟨afT, H⟩ := H
        replace H := ny H
        obtain ⟨aiE, avE, H⟩ := H
        replace H := nl H; obtain ⟨avF, H⟩ := H
        obtain ⟨aJo, alU⟩ := nm (aiE ++ [bt a0 yw])
        rw [← alU.out] at H
        have H' := ak H; clear H
        obtain ⟨p11, q11, VZ⟩ := bx a0 yw
        obtain ⟨p18, q18, avg⟩ := bx a0 yw
        go_wp2_with (first | (at_builtin; refine aP 29 30 (Kd.int .u8) 22 5 (.int .u8 0) 1 Tryz.underlying22 info5 HB (ur oV.out) avE (by have := afT.out; omega) ?_; intro v208 w23 ho hb hg hat; have alV := ak (ho); replace HB := ak (hb); clear ho hb hg hat oV; have p21 : 0 ≤ (yw : Int) := of_decide_eq_true (by assumption); have q21 : yw < (a0.size : Int) := of_decide_eq_true (by assumption); have aJp := vY a0 yw; replace p21 := eq_true p21; replace q21 := eq_true q21) | (at_builtin; refine aP 32 36 (Kd.int .u8) 22 5 (.int .u8 0) 1 Tryz.underlying22 info5 HB (ur alV.out) alU (by have := avF.out; omega) ?_; intro aJq w24 ho hb hg hat; have avG := ak (ho); replace HB := ak (hb); clear ho hb hg hat alV))
        go_roundg k1
        case measure => exact kl
        case rel => exact ⟨_, _, rs, H', ⟨kl⟩, ⟨ur avG.out⟩, ⟨ul HB.out⟩⟩
       ·
        replace H := nl H; obtain ⟨avH, H⟩ := H
        obtain ⟨aJr, alW⟩ := nm (dM ++ [bt a0 yw])
        rw [← alW.out] at H
        have H' := ak H; clear H
        obtain ⟨p11, q11, VZ⟩ := bx a0 yw
        obtain ⟨p18, q18, avg⟩ := bx a0 yw
        obtain ⟨p25, q25, hx25⟩ := bx a0 yw
        go_wp2_with (at_builtin; refine aP 32 36 (Kd.int .u8) 22 5 (.int .u8 0) 1 Tryz.underlying22 info5 HB (ur oV.out) alW (by have := avH.out; omega) ?_; intro aJs w27 ho hb hg hat; have avI := ak (ho); replace HB := ak (hb); clear ho hb hg hat oV)
        go_roundg k1
        case measure => exact kl
        case rel => exact ⟨_, _, rs, H', ⟨kl⟩, ⟨ur avI.out⟩, ⟨ul HB.out⟩⟩
     ·
      replace H := nl H; obtain ⟨avJ, H⟩ := H
      obtain ⟨aJt, alX⟩ := nm (dM ++ [34])
      rw [← alX.out] at H
      obtain rfl := s1 H
      go_wp2_with (at_builtin; refine aP 39 40 (Kd.int .u8) 22 5 (.int .u8 0) 1 Tryz.underlying22 info5 HB (ur oV.out) alX (by have := avJ.out; omega) ?_; intro aJu w29 ho hb hg hat; have avK := ak (ho); replace HB := ak (hb); clear ho hb hg hat oV; have aD3 := qJ (P := Tryz.prog) Tryz.underlying22 Tryz.underlying5 Tryz.underlying9 (Kd.uX avK.out))
      go_ret
      exact ⟨er, ul HB.out⟩
 ·
  obtain rfl := s1 H
  go_enter Tryz.func166, Tryz.ntmps166
  go_wp2_with (refine gA Tryz.func89 (bD.calls A2.out) ?_; intro nd)
  go_ret
  exact ⟨er, ul HB.out⟩
def gY.l0 : Nat → ByteArray → List (gU) → Int → Int → Option (ByteArray)
 | 0, _, _, _, _ => none
 | k + 1, x3, MC, x14, x15 => if x15 < x14 then (if 0 ≤ x15 then (if x15 < (MC.length : Int) then (if 2 + ((fB MC x15).f0).size ≤ 9223372036854775807 then (if ((⟨#[59, 32]⟩ : ByteArray) ++ ((fB MC x15).f0)).size + 1 ≤ 9223372036854775807 then ((iR.f k ((fB MC x15).f1)).bind fun t222 => (if (((⟨#[59, 32]⟩ : ByteArray) ++ ((fB MC x15).f0)) ++ (⟨#[61]⟩ : ByteArray)).size + t222.size ≤ 9223372036854775807 then (if x3.size + ((((⟨#[59, 32]⟩ : ByteArray) ++ ((fB MC x15).f0)) ++ (⟨#[61]⟩ : ByteArray)) ++ t222).size ≤ 9223372036854775807 then (gY.l0 k (x3 ++ ((((⟨#[59, 32]⟩ : ByteArray) ++ ((fB MC x15).f0)) ++ (⟨#[61]⟩ : ByteArray)) ++ t222)) MC x14 (wrap64 (x15 + 1))) else (none)) else (none))) else (none)) else (none)) else (none)) else (none)) else (some x3)
def gY.f (k : Nat) (eG : ByteArray) (eU : ByteArray) (ay : List (gU)) : Option (ByteArray) := if eG.size + 1 ≤ 9223372036854775807 then (if (eG ++ (⟨#[47]⟩ : ByteArray)).size + eU.size ≤ 9223372036854775807 then (gY.l0 k ((eG ++ (⟨#[47]⟩ : ByteArray)) ++ eU) ay (ay.length : Int) 0) else (none)) else (none)
def gY.T5 : Bool × List (List Nat × List Nat) := (true, [([], []), ([], []), ([1], [1]), ([2], [2]), ([3], [3]), ([], []), ([5], [5]), ([6], [6]), ([4, 7], [4, 7]), ([0, 8], [0, 8]), ([9, 7, 0, 1, 2, 3, 4, 5, 6, 7, 8, 9], [0, 9])])
def gY.B5 : List Nat := [0, 0, 2, 6, 14, 0, 32, 96, 254, 511, 1023]
theorem gY.aod : sQ .any (opsOf Tryz.f137 5) = gY.T5 := by kernel_rfl
theorem gY.aeY : nU gY.T5.2 gY.B5 = true := by kernel_rfl
theorem gY.calls {k fA : Nat} {eG eU r : ByteArray} {gW : Option Addr} {ay : List (gU)} {w : World} (jG : Kd.C qj w gW ay.length ay) (jH : ay.length ≤ fA) (h : gY.f k eG eU ay = some r) :
  Calls Tryz.prog 137 #[.agg #[.string eG, .string eU, .slice gW ay.length fA]] w fun e w' => e = .returned (.string r) ∧ Below w.heap.size w w' := by
 have Wj := Tryz.underlying61
 have DU := Tryz.underlying69
 have jh := ak jG
 have lC := ak jH
 clear jG jH
 have HB := ak (Below.refl w.heap.size w)
 unfold gY.f at h; have H := h
 clear h
 replace H := nn H; obtain ⟨c2, H⟩ := H
 have nT := eq_true c2
 have uF := decide_eq_true c2
 try have Yp : (9223372036854775807 < eG.size + 1) = False := eq_false (Nat.not_lt.2 c2)
 replace H := nn H; obtain ⟨c3, H⟩ := H
 have iO := eq_true c3
 have Au := decide_eq_true c3
 try have aJv : (9223372036854775807 < eG.size + 1 + eU.size) = False := by have h_ := (eq_false (Nat.not_lt.2 c3) : (9223372036854775807 < (eG ++ (⟨#[47]⟩ : ByteArray)).size + eU.size) = False); simp only [ByteArray.size_append] at h_; exact h_
 try have am2 : (9223372036854775807 < (eG ++ (⟨#[47]⟩ : ByteArray)).size + eU.size) = False := eq_false (Nat.not_lt.2 c3)
 have H' := ak H; clear H
 go_enter Tryz.func137, Tryz.ntmps137
 go_wp2_with (refine bX HB 1 #[.string eG, .string eU, .slice gW ay.length fA] 61 ?_; intro avL w4 CB aD4 hb; replace HB := bs HB hb; clear hb; have z5 := jW CB.out)
 go_loopg [3, 15] k (fun kq v3 v15 w' => ∃ (dM : ByteArray) (yx : Int), v3 = .string dM ∧ v15 = .int .i64 yx ∧ ah (gY.l0 kq dM ay (ay.length : Int) yx = some r) ∧ ah (kq ≤ k) ∧ ah (w'.heap[avL]? = some (.cells #[.string eG, .string eU, (.slice gW ay.length fA)] 61 (0, 0))) ∧ ah (Below w.heap.size w w'))
 case atStart => exact ⟨_, _, rs, rs, H', ⟨Nat.le_refl _⟩, ⟨ub CB.out⟩, ⟨bb⟩⟩
 case round =>
  clear H'
  try clear c2
  try clear nT
  try clear uF
  try clear Yp
  try clear c3
  try clear iO
  try clear Au
  try clear am2
  obtain ⟨dM, yx, rfl, rfl, HA, xG, CB, HB⟩ := hrel
  cases gk with
  | zero => exact zz HA.out
  | succ k1 =>
   obtain ⟨H⟩ := HA
   simp only [gY.l0] at H
   replace H := sd H
   rcases H with ⟨oz, H⟩ | ⟨oz, H⟩
   ·
    replace H := oL H; obtain ⟨sD, H⟩ := H; replace H := oL H; obtain ⟨tu, H⟩ := H; replace H := nn H; obtain ⟨c9, H⟩ := H
    have yh := eq_true c9
    have Fz := decide_eq_true c9
    try have arU : (9223372036854775807 < 2 + ((fB ay yx).f0).size) = False := eq_false (Nat.not_lt.2 c9)
    replace H := nn H; obtain ⟨c10, H⟩ := H
    have oC := eq_true c10
    have sS := decide_eq_true c10
    try have ajJ : (9223372036854775807 < 2 + ((fB ay yx).f0).size + 1) = False := by have h_ := (eq_false (Nat.not_lt.2 c10) : (9223372036854775807 < ((⟨#[59, 32]⟩ : ByteArray) ++ ((fB ay yx).f0)).size + 1) = False); simp only [ByteArray.size_append] at h_; exact h_
    try have ZB : (9223372036854775807 < ((⟨#[59, 32]⟩ : ByteArray) ++ ((fB ay yx).f0)).size + 1) = False := eq_false (Nat.not_lt.2 c10)
    replace H := bd H; obtain ⟨t222, Zn, H⟩ := H; replace H := nn H; obtain ⟨c12, H⟩ := H
    have xI := eq_true c12
    have Dn := decide_eq_true c12
    try have aD5 : (9223372036854775807 < 2 + ((fB ay yx).f0).size + 1 + t222.size) = False := by have h_ := (eq_false (Nat.not_lt.2 c12) : (9223372036854775807 < (((⟨#[59, 32]⟩ : ByteArray) ++ ((fB ay yx).f0)) ++ (⟨#[61]⟩ : ByteArray)).size + t222.size) = False); simp only [ByteArray.size_append] at h_; exact h_
    try have aD6 : (9223372036854775807 < (((⟨#[59, 32]⟩ : ByteArray) ++ ((fB ay yx).f0)) ++ (⟨#[61]⟩ : ByteArray)).size + t222.size) = False := eq_false (Nat.not_lt.2 c12)
    replace H := nn H; obtain ⟨c13, H⟩ := H
    have wo := eq_true c13
    have zU := decide_eq_true c13
    try have ap0 : (9223372036854775807 < dM.size + (2 + ((fB ay yx).f0).size + 1 + t222.size)) = False := by have h_ := (eq_false (Nat.not_lt.2 c13) : (9223372036854775807 < dM.size + ((((⟨#[59, 32]⟩ : ByteArray) ++ ((fB ay yx).f0)) ++ (⟨#[61]⟩ : ByteArray)) ++ t222).size) = False); simp only [ByteArray.size_append] at h_; exact h_
    try have ajp : (9223372036854775807 < dM.size + ((((⟨#[59, 32]⟩ : ByteArray) ++ ((fB ay yx).f0)) ++ (⟨#[61]⟩ : ByteArray)) ++ t222).size) = False := eq_false (Nat.not_lt.2 c13)
    have H' := ak H; clear H
    have aox := zi yx
    have aoy := zj yx ay.length
    obtain ⟨aD7, e220, abx, aby⟩ := qX jh.out yx aox aoy
    cases e220
    replace abx := cl HB.out abx
    replace aby := cl HB.out aby
    replace aox := eq_true aox
    replace aoy := eq_true aoy
    try go_wp2_with (refine bY HB 5 #[.string (⟨#[]⟩ : ByteArray), .string (⟨#[]⟩ : ByteArray)] 69 ?_; intro alY SA Oe avM hg hb; have Tm := BL CB hg; have acL := BM CB hg; replace CB := kb CB hb; replace HB := bz HB hb; clear hb hg; have aD8 := acL.out; have aD9 := Tm.out; have z16 := zQ Oe.out)
    refine ab2 HB Oe avM ?_
    intro w17 afU hk HB
    replace CB := kf CB hk Tm
    clear hk Oe
    have Oe := afU; clear afU
    refine rO [7] [0, 1, 5, 2, 3, 4, 6, 7, 8, 9, 10] (fun w' => w'.cell? ⟨alY, 0, none⟩ = some (.string ((fB ay yx).f0)) ∧ w'.cell? ⟨alY, 1, none⟩ = some (.string ((fB ay yx).f1))) ?_
    intro w18 hb
    replace CB := kb CB hb
    replace Oe := kb Oe hb
    replace HB := bs HB hb
    refine ⟨sx, ?_⟩
    repeat refine zF ?_
    refine rB Tryz.func166 (iR.calls Zn.out) ?_
    intro ZN hb
    replace CB := kb CB hb
    replace Oe := kb Oe hb
    replace HB := bz HB hb
    clear hb
    refine ⟨sx, ?_⟩
    repeat refine zF ?_
    refine on ?_
    try go_wp2
    go_roundg k1
    case measure => exact kl
    case rel => exact ⟨_, _, rs, rs, H', ⟨kl⟩, ⟨ub CB.out⟩, ⟨bb⟩⟩
   ·
    obtain rfl := s1 H
    go_wp2
    go_ret
    exact ⟨er, bb⟩
mutual
def bM.j0 : Nat → Bool → ByteArray → ByteArray → List (gU) → Option (Bool)
 | 0, _, _, _, _ => none
 | k + 1, x20, Po, Pq, CG => if x20 = true then (some false) else (bM.l0 k CG (CG.length : Int) 0 Po Pq CG)
def bM.l0 : Nat → List (gU) → Int → Int → ByteArray → ByteArray → List (gU) → Option (Bool)
 | 0, _, _, _, _, _, _ => none
 | k + 1, x22, x23, x24, Po, Pq, CG => if x24 < x23 then (if 0 ≤ x24 then (if x24 < (x22.length : Int) then ((gy.f k ((fB x22 x24).f0)).bind fun t229 => (if t229 = true then ((bD.f k ((fB x22 x24).f1)).bind fun avN => (if avN = true then (if (((fB x22 x24).f1).size : Int) > 40 then (some false) else (if x24 ≤ (CG.length : Int) then ((kW.f k (CG.take (x24 : Int).toNat) ((fB x22 x24).f0)).bind fun aiF => (if aiF ≥ 0 then (some false) else (bM.l0 k x22 x23 (wrap64 (x24 + 1)) Po Pq CG))) else (none))) else (some false))) else (some false))) else (none)) else (none)) else ((gY.f k Po Pq CG).bind fun t226 => (some (decide ((t226.size : Int) ≤ 150))))
end
def bM.f (k : Nat) (eG : ByteArray) (eU : ByteArray) (ay : List (gU)) : Option (Bool) := (gy.f k eG).bind fun avO => (if avO = true then ((gy.f k eU).bind fun avP => (if avP = true then (bM.j0 k (decide ((ay.length : Int) > 4)) eG eU ay) else (bM.j0 k true eG eU ay))) else (bM.j0 k true eG eU ay))
def bM.T6 : Bool × List (List Nat × List Nat) := (true, [([], []), ([0], [0]), ([1], [1]), ([2], [2]), ([3, 2], [3]), ([4], [4]), ([5, 4], [4, 5]), ([6, 4, 4], [4, 6]), ([7, 4], [4, 7]), ([4, 8], [4, 8]), ([9, 7], [9]), ([10], [10]), ([11, 10], [10, 11]), ([12, 10], [10, 12]), ([13, 10], [10, 13]), ([10, 14], [10, 14]), ([15, 10], [15]), ([16], [16]), ([17, 16], [16, 17]), ([16], [16]), ([18, 19, 16], [16, 18, 19]), ([16], [16]), ([21, 16], [16, 21]), ([20, 22, 16, 16], [16, 20, 22]), ([23, 16], [16, 23]), ([16, 24], [16, 24])])
def bM.B6 : List Nat := [0, 1, 3, 7, 15, 31, 63, 127, 255, 511, 1023, 2047, 4095, 8191, 16383, 32767, 65535, 131071, 262143, 131071, 1048575, 131071, 2228223, 8388607, 16777215, 33554431]
theorem bM.tab6 : sQ .any (opsOf Tryz.f95 6) = bM.T6 := by kernel_rfl
theorem bM.alp : nU bM.T6.2 bM.B6 = true := by kernel_rfl
theorem bM.calls {k fA : Nat} {eG eU : ByteArray} {gW : Option Addr} {ay : List (gU)} {r : Bool} {w : World} (jG : Kd.C qj w gW ay.length ay) (jH : ay.length ≤ fA) (h : bM.f k eG eU ay = some r) :
  Calls Tryz.prog 95 #[.agg #[.string eG, .string eU, .slice gW ay.length fA]] w fun e w' => e = .returned (.bool r) ∧ Below w.heap.size w w' := by
 have Wj := Tryz.underlying61
 have DU := Tryz.underlying69
 have jh := ak jG
 have lC := ak jH
 clear jG jH
 have HB := ak (Below.refl w.heap.size w)
 unfold bM.f at h; have H := h
 clear h
 have HC2 := ak H
 clear H
 go_enter Tryz.func95, Tryz.ntmps95
 go_upto_region 1 with (refine gG 1 ?_; refine bX HB 1 #[.string eG, .string eU, .slice gW ay.length fA] 61 ?_; intro Og w3 iq aD_ hb; replace HB := bs HB hb; clear hb)
 (try simp only [Act.put, qQ, qR, l_c])
 go_cut [20] (fun v20 wc => ∃ (kq : Nat) (afV : Bool), v20 = .bool afV ∧ ah (bM.j0 kq afV eG eU ay = some r) ∧ ah (kq ≤ k) ∧ ah (wc.heap[Og]? = some (.cells #[.string eG, .string eU, (.slice gW ay.length fA)] 61 (0, 0))) ∧ ah (Below w.heap.size w wc))
 case first =>
  have H := HC2.out
  clear HC2
  replace H := bd H; obtain ⟨avO, A4, H⟩ := H; replace H := sb H
  rcases H with ⟨rfl, H⟩ | ⟨rfl, H⟩
  ·
   replace H := bd H; obtain ⟨avP, A6, H⟩ := H; replace H := sb H
   rcases H with ⟨rfl, H⟩ | ⟨rfl, H⟩
   ·
    have H' := ak H; clear H
    have z8 := jW iq.out
    go_wp2_with (first | (refine gB Tryz.func136 (gy.calls A4.out) ?_; intro w9 hb; replace iq := kb iq hb; replace HB := bz HB hb; clear hb; have z10 := jW iq.out) | (go_at_call 136; refine mB (gy.calls A6.out) ?_; intro Ub hb; replace iq := kb iq hb; replace HB := bz HB hb; clear hb; have z12 := jW iq.out))
    go_meet
    case rel => exact ⟨_, _, rs, H', ⟨Jq⟩, ⟨ub iq.out⟩, ⟨bb⟩⟩
   ·
    have H' := ak H; clear H
    have z13 := jW iq.out
    go_wp2_with (first | (refine gB Tryz.func136 (gy.calls A4.out) ?_; intro SA hb; replace iq := kb iq hb; replace HB := bz HB hb; clear hb; have z15 := jW iq.out) | (go_at_call 136; refine mB (gy.calls A6.out) ?_; intro w16 hb; replace iq := kb iq hb; replace HB := bz HB hb; clear hb))
    go_meet
    case rel => exact ⟨_, _, rs, H', ⟨Jq⟩, ⟨ub iq.out⟩, ⟨bb⟩⟩
  ·
   have H' := ak H; clear H
   have z17 := jW iq.out
   go_wp2_with (refine gB Tryz.func136 (gy.calls A4.out) ?_; intro w18 hb; replace iq := kb iq hb; replace HB := bz HB hb; clear hb)
   go_meet
   case rel => exact ⟨_, _, rs, H', ⟨Jq⟩, ⟨ub iq.out⟩, ⟨bb⟩⟩
 case rest =>
  clear HC2
  obtain ⟨kq, afV, rfl, HA, HJ1, iq, HB⟩ := hcut
  cases kq with
  | zero => exact zz HA.out
  | succ Ox =>
   obtain ⟨H⟩ := HA
   simp only [bM.j0] at H
   replace H := sb H
   rcases H with ⟨rfl, H⟩ | ⟨rfl, H⟩
   ·
    obtain rfl := s1 H
    go_wp2
    go_ret
    exact ⟨er, bb⟩
   ·
    have H' := ak H; clear H
    have z20 := jW iq.out
    go_wp2
    go_loopg [24] Ox (fun kq v24 w' => ∃ (lT : Int), v24 = .int .i64 lT ∧ ah (bM.l0 kq ay (ay.length : Int) lT eG eU ay = some r) ∧ ah (kq ≤ Ox) ∧ ah (w'.heap[Og]? = some (.cells #[.string eG, .string eU, (.slice gW ay.length fA)] 61 (0, 0))) ∧ ah (Below w.heap.size w w'))
    case atStart => exact ⟨_, rs, H', ⟨Nat.le_refl _⟩, ⟨ub iq.out⟩, ⟨bb⟩⟩
    case round =>
     clear H'
     obtain ⟨lT, rfl, HA, Zw, iq, HB⟩ := hrel
     cases gk with
     | zero => exact zz HA.out
     | succ k2 =>
      obtain ⟨H⟩ := HA
      simp only [bM.l0] at H
      replace H := sd H
      rcases H with ⟨Ez, H⟩ | ⟨Ez, H⟩
      ·
       replace H := oL H; obtain ⟨Fv, H⟩ := H; replace H := oL H; obtain ⟨zh, H⟩ := H; replace H := bd H; obtain ⟨t229, Yx, H⟩ := H; replace H := sb H
       rcases H with ⟨rfl, H⟩ | ⟨rfl, H⟩
       ·
        replace H := bd H; obtain ⟨avN, A26, H⟩ := H; replace H := sb H
        rcases H with ⟨rfl, H⟩ | ⟨rfl, H⟩
        ·
         replace H := sp H
         rcases H with ⟨c28, H⟩ | ⟨c28, H⟩
         ·
          have Fg : decide (40 < (((fB ay lT).f1).size : Int)) = true := decide_eq_true c28
          have ZF : decide (40 < ((fB ay lT).f1).size) = true := decide_eq_true (by omega)
          clear c28
          obtain rfl := s1 H
          have Ee := zi lT
          have Ef := zj lT ay.length
          obtain ⟨Io, e227, uJ, uK⟩ := qX jh.out lT Ee Ef
          cases e227
          replace uJ := cl HB.out uJ
          replace uK := cl HB.out uK
          replace Ee := eq_true Ee
          replace Ef := eq_true Ef
          try go_wp2_with (refine gG 4 ?_; refine bY HB 4 #[.string (⟨#[]⟩ : ByteArray), .string (⟨#[]⟩ : ByteArray)] 69 ?_; intro CJ w29 lq KJ hg hb; have pU := BL iq hg; have vX := BM iq hg; replace iq := kb iq hb; replace HB := bz HB hb; clear hb hg; have aEa := vX.out; have aEb := pU.out; have z31 := zQ lq.out)
          refine ab2 HB lq KJ ?_
          intro w32 xX hk HB
          replace iq := kf iq hk pU
          clear hk lq
          have lq := xX; clear xX
          refine rO [2, 7] [0, 1, 2, 3, 4, 5, 6, 7, 8, 9, 10, 11, 12, 13, 14, 15, 16, 17, 18, 19, 20, 21, 22, 23, 24, 25] (fun w' => w'.cell? ⟨CJ, 0, none⟩ = some (.string ((fB ay lT).f0)) ∧ w'.cell? ⟨CJ, 1, none⟩ = some (.string ((fB ay lT).f1))) ?_
          intro w33 hb
          replace iq := kb iq hb
          replace lq := kb lq hb
          replace HB := bs HB hb
          refine ⟨sx, ?_⟩
          repeat (first | refine zF ?_ | refine Un ?_)
          refine rB Tryz.func136 (gy.calls Yx.out) ?_
          intro w34 hb
          replace iq := kb iq hb
          replace lq := kb lq hb
          replace HB := bz HB hb
          clear hb
          refine ⟨sx, ?_⟩
          repeat (first | refine zF ?_ | refine Un ?_)
          refine rA Tryz.func89 (bD.calls A26.out) ?_
          intro nd
          refine ⟨sx, ?_⟩
          repeat (first | refine zF ?_ | refine Un ?_)
          refine on ?_
          try go_wp2
          go_ret
          exact ⟨er, bb⟩
         ·
          have Fg : decide (40 < (((fB ay lT).f1).size : Int)) = false := decide_eq_false c28
          have ZF : decide (40 < ((fB ay lT).f1).size) = false := decide_eq_false (by omega)
          clear c28
          have Wh := eq_true (of_decide_eq_true (by assumption) : 0 ≤ lT)
          replace H := Ac H; obtain ⟨ake, avQ, H⟩ := H
          obtain ⟨aiG, Xh⟩ := nm (ay.take (lT : Int).toNat)
          rw [← Xh.out] at H
          replace H := bd H; obtain ⟨aiF, A37, H⟩ := H; replace H := sp H
          rcases H with ⟨XO, H⟩ | ⟨XO, H⟩
          ·
           have aaU : decide (0 ≤ aiF) = true := decide_eq_true XO
           clear XO
           obtain rfl := s1 H
           have Ee := zi lT
           have Ef := zj lT ay.length
           obtain ⟨Io, e227, uJ, uK⟩ := qX jh.out lT Ee Ef
           cases e227
           replace uJ := cl HB.out uJ
           replace uK := cl HB.out uK
           replace Ee := eq_true Ee
           replace Ef := eq_true Ef
           try go_wp2_with (refine gG 4 ?_; refine bY HB 4 #[.string (⟨#[]⟩ : ByteArray), .string (⟨#[]⟩ : ByteArray)] 69 ?_; intro CJ w39 lq KJ hg hb; have pU := BL iq hg; have vX := BM iq hg; replace iq := kb iq hb; replace HB := bz HB hb; clear hb hg; have alj := vX.out; have alk := pU.out; have aKb := zQ lq.out)
           refine ab2 HB lq KJ ?_
           intro w42 xX hk HB
           replace iq := kf iq hk pU
           clear hk lq
           have lq := xX; clear xX
           refine rO [2, 7, 23] [0, 1, 2, 3, 4, 5, 6, 7, 8, 9, 10, 11, 12, 13, 14, 15, 16, 17, 19, 21, 18, 20, 22, 23, 24, 25] (fun w' => w'.cell? ⟨CJ, 0, none⟩ = some (.string ((fB ay lT).f0)) ∧ w'.cell? ⟨CJ, 1, none⟩ = some (.string ((fB ay lT).f1)) ∧ w'.cell? ⟨Og, 0, none⟩ = some (.string eG) ∧ w'.cell? ⟨Og, 1, none⟩ = some (.string eU) ∧ w'.cell? ⟨Og, 2, none⟩ = some (.slice (some Io) ay.length fA)) ?_
           intro w43 hb
           replace iq := kb iq hb
           replace lq := kb lq hb
           replace HB := bs HB hb
           refine ⟨sx, ?_⟩
           repeat refine zF ?_
           refine rB Tryz.func136 (gy.calls Yx.out) ?_
           intro w44 hb
           replace iq := kb iq hb
           replace lq := kb lq hb
           replace HB := bz HB hb
           clear hb
           refine ⟨sx, ?_⟩
           repeat refine zF ?_
           refine rA Tryz.func89 (bD.calls A26.out) ?_
           intro nd
           have q45 : (lT : Int) ≤ ((ay.length : Int) : Int) := of_decide_eq_true (by assumption)
           obtain ⟨aJw, alZ, _, avR, _⟩ := info_parts Dc
           have abz : ay.length ≤ fA := lC.out
           have avS : Kd.C qj _ (some Io) ay.length ay := jh.out
           have aoz := Uy (P := Tryz.prog) 25 69 .i64 Tryz.underlying25 alZ (some Io) ay.length fA lT (of_decide_eq_true (by assumption)) q45 abz
           have aoA := Kd.Uz (m := (lT : Int).toNat) avS (by omega)
           have aoB : aiG.length = (lT : Int).toNat := (by rw [Xh.out, List.length_take]; omega)
           rw [← Xh.out] at aoA
           rw [← aoB] at aoz
           have afW := ak aoA
           have afX := ak (show aiG.length ≤ fA from by omega)
           clear aoA avS abz alZ avR
           have aJx := ak aoB
           clear aoB
           replace q45 := eq_true q45
           refine ⟨sx, ?_⟩
           repeat refine zF ?_
           refine rB Tryz.func88 (kW.calls (cu (Kd.aN afW.out bb)) afX.out A37.out) ?_
           intro w46 hb
           replace iq := kb iq hb
           replace lq := kb lq hb
           replace HB := bz HB hb
           clear hb
           refine ⟨sx, ?_⟩
           repeat refine zF ?_
           refine on ?_
           try go_wp2
           go_ret
           exact ⟨er, bb⟩
          ·
           have aaU : decide (0 ≤ aiF) = false := decide_eq_false XO
           clear XO
           have H' := ak H; clear H
           have Ee := zi lT
           have Ef := zj lT ay.length
           obtain ⟨Io, e227, uJ, uK⟩ := qX jh.out lT Ee Ef
           cases e227
           replace uJ := cl HB.out uJ
           replace uK := cl HB.out uK
           replace Ee := eq_true Ee
           replace Ef := eq_true Ef
           try go_wp2_with (refine gG 4 ?_; refine bY HB 4 #[.string (⟨#[]⟩ : ByteArray), .string (⟨#[]⟩ : ByteArray)] 69 ?_; intro CJ w47 lq KJ hg hb; have pU := BL iq hg; have vX := BM iq hg; replace iq := kb iq hb; replace HB := bz HB hb; clear hb hg; have ajR := vX.out; have ajS := pU.out; have z49 := zQ lq.out)
           refine ab2 HB lq KJ ?_
           intro w50 xX hk HB
           replace iq := kf iq hk pU
           clear hk lq
           have lq := xX; clear xX
           refine rO [2, 7, 23] [0, 1, 2, 3, 4, 5, 6, 7, 8, 9, 10, 11, 12, 13, 14, 15, 16, 17, 19, 21, 18, 20, 22, 23, 24, 25] (fun w' => w'.cell? ⟨CJ, 0, none⟩ = some (.string ((fB ay lT).f0)) ∧ w'.cell? ⟨CJ, 1, none⟩ = some (.string ((fB ay lT).f1)) ∧ w'.cell? ⟨Og, 0, none⟩ = some (.string eG) ∧ w'.cell? ⟨Og, 1, none⟩ = some (.string eU) ∧ w'.cell? ⟨Og, 2, none⟩ = some (.slice (some Io) ay.length fA)) ?_
           intro w51 hb
           replace iq := kb iq hb
           replace lq := kb lq hb
           replace HB := bs HB hb
           refine ⟨sx, ?_⟩
           repeat refine zF ?_
           refine rB Tryz.func136 (gy.calls Yx.out) ?_
           intro w52 hb
           replace iq := kb iq hb
           replace lq := kb lq hb
           replace HB := bz HB hb
           clear hb
           refine ⟨sx, ?_⟩
           repeat refine zF ?_
           refine rA Tryz.func89 (bD.calls A26.out) ?_
           intro nd
           have q53 : (lT : Int) ≤ ((ay.length : Int) : Int) := of_decide_eq_true (by assumption)
           obtain ⟨aJy, al0, _, avT, _⟩ := info_parts Dc
           have abA : ay.length ≤ fA := lC.out
           have avU : Kd.C qj _ (some Io) ay.length ay := jh.out
           have aoC := Uy (P := Tryz.prog) 25 69 .i64 Tryz.underlying25 al0 (some Io) ay.length fA lT (of_decide_eq_true (by assumption)) q53 abA
           have aoD := Kd.Uz (m := (lT : Int).toNat) avU (by omega)
           have aoE : aiG.length = (lT : Int).toNat := (by rw [Xh.out, List.length_take]; omega)
           rw [← Xh.out] at aoD
           rw [← aoE] at aoC
           have afW := ak aoD
           have afX := ak (show aiG.length ≤ fA from by omega)
           clear aoD avU abA al0 avT
           have aJz := ak aoE
           clear aoE
           replace q53 := eq_true q53
           refine ⟨sx, ?_⟩
           repeat refine zF ?_
           refine rB Tryz.func88 (kW.calls (cu (Kd.aN afW.out bb)) afX.out A37.out) ?_
           intro w54 hb
           replace iq := kb iq hb
           replace lq := kb lq hb
           replace HB := bz HB hb
           clear hb
           refine ⟨sx, ?_⟩
           repeat refine zF ?_
           refine on ?_
           try go_wp2
           go_roundg k2
           case measure => exact kl
           case rel => exact ⟨_, rs, H', ⟨kl⟩, ⟨ub iq.out⟩, ⟨bb⟩⟩
        ·
         obtain rfl := s1 H
         have Ee := zi lT
         have Ef := zj lT ay.length
         obtain ⟨Io, e227, uJ, uK⟩ := qX jh.out lT Ee Ef
         cases e227
         replace uJ := cl HB.out uJ
         replace uK := cl HB.out uK
         replace Ee := eq_true Ee
         replace Ef := eq_true Ef
         try go_wp2_with (refine gG 4 ?_; refine bY HB 4 #[.string (⟨#[]⟩ : ByteArray), .string (⟨#[]⟩ : ByteArray)] 69 ?_; intro CJ w55 lq KJ hg hb; have pU := BL iq hg; have vX := BM iq hg; replace iq := kb iq hb; replace HB := bz HB hb; clear hb hg; have atN := vX.out; have atO := pU.out; have z57 := zQ lq.out)
         refine ab2 HB lq KJ ?_
         intro w58 xX hk HB
         replace iq := kf iq hk pU
         clear hk lq
         have lq := xX; clear xX
         refine rO [2, 7] [0, 1, 2, 3, 4, 5, 6, 7, 8, 9, 10, 11, 12, 13, 14, 15, 16, 17, 18, 19, 20, 21, 22, 23, 24, 25] (fun w' => w'.cell? ⟨CJ, 0, none⟩ = some (.string ((fB ay lT).f0)) ∧ w'.cell? ⟨CJ, 1, none⟩ = some (.string ((fB ay lT).f1))) ?_
         intro w59 hb
         replace iq := kb iq hb
         replace lq := kb lq hb
         replace HB := bs HB hb
         refine ⟨sx, ?_⟩
         repeat (first | refine zF ?_ | refine Un ?_)
         refine rB Tryz.func136 (gy.calls Yx.out) ?_
         intro SC hb
         replace iq := kb iq hb
         replace lq := kb lq hb
         replace HB := bz HB hb
         clear hb
         refine ⟨sx, ?_⟩
         repeat (first | refine zF ?_ | refine Un ?_)
         refine rA Tryz.func89 (bD.calls A26.out) ?_
         intro nd
         refine ⟨sx, ?_⟩
         repeat (first | refine zF ?_ | refine Un ?_)
         refine on ?_
         try go_wp2
         go_ret
         exact ⟨er, bb⟩
       ·
        obtain rfl := s1 H
        have Ee := zi lT
        have Ef := zj lT ay.length
        obtain ⟨Io, e227, uJ, uK⟩ := qX jh.out lT Ee Ef
        cases e227
        replace uJ := cl HB.out uJ
        replace uK := cl HB.out uK
        replace Ee := eq_true Ee
        replace Ef := eq_true Ef
        try go_wp2_with (refine gG 4 ?_; refine bY HB 4 #[.string (⟨#[]⟩ : ByteArray), .string (⟨#[]⟩ : ByteArray)] 69 ?_; intro CJ w61 lq KJ hg hb; have pU := BL iq hg; have vX := BM iq hg; replace iq := kb iq hb; replace HB := bz HB hb; clear hb hg; have aEc := vX.out; have aEd := pU.out; have z63 := zQ lq.out)
        refine ab2 HB lq KJ ?_
        intro w64 xX hk HB
        replace iq := kf iq hk pU
        clear hk lq
        have lq := xX; clear xX
        refine rO [2] [0, 1, 2, 3, 4, 5, 6, 7, 8, 9, 10, 11, 12, 13, 14, 15, 16, 17, 18, 19, 20, 21, 22, 23, 24, 25] (fun w' => w'.cell? ⟨CJ, 0, none⟩ = some (.string ((fB ay lT).f0)) ∧ w'.cell? ⟨CJ, 1, none⟩ = some (.string ((fB ay lT).f1))) ?_
        intro w65 hb
        replace iq := kb iq hb
        replace lq := kb lq hb
        replace HB := bs HB hb
        refine ⟨sx, ?_⟩
        repeat (first | refine zF ?_ | refine Un ?_)
        refine rB Tryz.func136 (gy.calls Yx.out) ?_
        intro w66 hb
        replace iq := kb iq hb
        replace lq := kb lq hb
        replace HB := bz HB hb
        clear hb
        refine ⟨sx, ?_⟩
        repeat (first | refine zF ?_ | refine Un ?_)
        refine on ?_
        try go_wp2
        go_ret
        exact ⟨er, bb⟩
      ·
       replace H := bd H; obtain ⟨t226, A67, H⟩ := H
       obtain rfl := s1 H
       have z68 := jW iq.out
       go_wp2_with (refine gB Tryz.func137 (gY.calls (cu (Kd.aN jh.out HB.out)) lC.out A67.out) ?_; intro w69 hb; replace iq := kb iq hb; replace HB := bz HB hb; clear hb)
       go_ret
       exact ⟨er, bb⟩
end Go.Proofs.YtncdadcmghglkaaGreatDoor.PFnKidValid
