/- Printed walks; conditions: those in each statement. -/
import Derived.Test.YtncdadcmghglkaaGreatDoorVFnPartLinesQt
import Derived.Test.YtncdadcmghglkaaGreatDoorVFnPartLinesYt
import Derived.Test.YtncdadcmghglkaaGreatDoorPFnPartLinesx0
import Derived.Test.YtncdadcmghglkaaGreatDoorPFnPartLinesx11
import Derived.Test.YtncdadcmghglkaaGreatDoorPFnPartLinesx13
-- short
-- dense
-- sq
-- sq2
namespace Go.Proofs.YtncdadcmghglkaaGreatDoor.PFnPartLines
open Go.RowKit Go.Proofs.YtncdadcmghglkaaGreatDoor.X Go.Proofs.YtncdadcmghglkaaGreatDoorW.bI Go.Proofs.YtncdadcmghglkaaGreatDoorW.iy Go.Proofs.YtncdadcmghglkaaGreatDoorW.iZ
attribute [local go_sem] kZ lg nK nM jW jX lq lu   -- for this text's walks alone
set_option linter.unusedVariables false
set_option maxHeartbeats 8000000
set_option maxRecDepth 100000
set_option linter.unusedSimpArgs false
def oO.f (k : Nat) (a0 : ByteArray) : Option (Bool) := if (a0.size : Int) ≥ 1 then (if (a0.size : Int) ≤ 40 then ((dL.f k a0).bind fun ap3 => (some ap3)) else (some false)) else (some false)
theorem oO.calls {k : Nat} {a0 : ByteArray} {r : Bool} {w : World} (h : oO.f k a0 = some r) :
  Calls Tryz.prog 193 #[.string a0] w fun e w' => e = .returned (.bool r) ∧ dP w w' := by
 unfold oO.f at h; have H := h
 clear h
 replace H := sp H
 rcases H with ⟨c2, H⟩ | ⟨c2, H⟩
 ·
  have ou : decide (1 ≤ (a0.size : Int)) = true := decide_eq_true c2
  have vK : decide (1 ≤ a0.size) = true := decide_eq_true (by omega)
  clear c2
  replace H := sp H
  rcases H with ⟨c3, H⟩ | ⟨c3, H⟩
  ·
   have iO := decide_eq_true c3
   have yK : decide (a0.size ≤ 40) = true := decide_eq_true (by omega)
   clear c3
   replace H := bd H; obtain ⟨ap3, A4, H⟩ := H
   obtain rfl := s1 H
   go_enter Tryz.func193, Tryz.ntmps193
   go_wp2_with (go_at_call 138; refine mA (dL.calls A4.out) ?_; intro nd)
   go_ret
   exact ⟨rs, dn⟩
  ·
   have iO := decide_eq_false c3
   have yK : decide (a0.size ≤ 40) = false := decide_eq_false (by omega)
   clear c3
   obtain rfl := s1 H
   go_enter Tryz.func193, Tryz.ntmps193
   go_wp2
   go_ret
   exact ⟨rs, dn⟩
 ·
  have ou : decide (1 ≤ (a0.size : Int)) = false := decide_eq_false c2
  have vK : decide (1 ≤ a0.size) = false := decide_eq_false (by omega)
  clear c2
  obtain rfl := s1 H
  go_enter Tryz.func193, Tryz.ntmps193
  go_wp2
  go_ret
  exact ⟨rs, dn⟩
def iY.l0 : Nat → ByteArray → List Int → Int → Int → Option (ByteArray)
 | 0, _, _, _, _ => none
 | k + 1, x0, x3, x15, x16 => if x16 < x15 then (if 0 ≤ x16 then (if x16 < (x0.size : Int) then (if (bt x0 x16) = 34 then (if x3.length < 140737488355328 then ((some (x3 ++ [92] : List Int)).bind fun agu => (if agu.length < 140737488355328 then (iY.l0 k x0 (agu ++ [bt x0 x16]) x15 (wrap64 (x16 + 1))) else (none))) else (none)) else (if (bt x0 x16) = 92 then (if x3.length < 140737488355328 then ((some (x3 ++ [92] : List Int)).bind fun agv => (if agv.length < 140737488355328 then (iY.l0 k x0 (agv ++ [bt x0 x16]) x15 (wrap64 (x16 + 1))) else (none))) else (none)) else (if x3.length < 140737488355328 then (iY.l0 k x0 (x3 ++ [bt x0 x16]) x15 (wrap64 (x16 + 1))) else (none)))) else (none)) else (none)) else (if x3.length < 140737488355328 then (some (strOfNums (x3 ++ [34]))) else (none))
def iY.f (k : Nat) (a0 : ByteArray) : Option (ByteArray) := (bg.f k a0).bind fun ap4 => (if ap4 = true then ((oO.f k a0).bind fun ap5 => (if ap5 = true then (some a0) else (iY.l0 k a0 (([34] : List Int)) (a0.size : Int) 0))) else (some (⟨#[]⟩ : ByteArray)))
theorem iY.calls {k : Nat} {a0 r : ByteArray} {w : World} (h : iY.f k a0 = some r) :
  Calls Tryz.prog 166 #[.string a0] w fun e w' => e = .returned (.string r) ∧ Below w.heap.size w w' := by
 have HB := ak (Below.refl w.heap.size w)
 unfold iY.f at h; have H := h
 clear h
 replace H := bd H; obtain ⟨ap4, A2, H⟩ := H; replace H := sb H
 rcases H with ⟨rfl, H⟩ | ⟨rfl, H⟩
 ·
  replace H := bd H; obtain ⟨ap5, A4, H⟩ := H; replace H := sb H
  rcases H with ⟨rfl, H⟩ | ⟨rfl, H⟩
  ·
   obtain rfl := s1 H
   go_enter Tryz.func166, Tryz.ntmps166
   go_wp2_with (first | (refine gA Tryz.func89 (bg.calls A2.out) ?_; intro nd) | (refine gA Tryz.func193 (oO.calls A4.out) ?_; intro nd))
   go_ret
   exact ⟨er, ul HB.out⟩
  ·
   obtain ⟨aEy, aiI⟩ := nm ([34] : List Int)
   rw [← aiI.out] at H
   have H' := ak H; clear H
   go_enter Tryz.func166, Tryz.ntmps166
   go_wp2_with (first | (refine gA Tryz.func89 (bg.calls A2.out) ?_; intro nd) | (refine gA Tryz.func193 (oO.calls A4.out) ?_; intro nd) | (refine QD 13 (Kd.int .u8) 5 [.int .u8 34] aiI (dh.one (show Kd.M (Kd.int .u8) _ _ _ 34 [.int .u8 34] from rfl) (dh.none _ _)) ?_; intro aEz w6 ho7 hb; have ap6 := ak (Kd.aC ho7 (aj (ul HB.out))); replace HB := bs HB hb; clear hb ho7))
   go_loopg [3, 16] k (fun kq v3 v16 w' => ∃ (dW : List Int) (xK : Int), v16 = .int .i64 xK ∧ ah (iY.l0 kq a0 dW (a0.size : Int) xK = some r) ∧ ah (kq ≤ k) ∧ ah (Kd.R (Kd.int .u8) 5 w' w.heap.size (fun _ => True) v3 dW) ∧ ah (Below w.heap.size w w'))
   case atStart => exact ⟨_, _, rs, H', ⟨Nat.le_refl _⟩, ⟨ur ap6.out⟩, ⟨ul HB.out⟩⟩
   case round =>
    clear H'
    obtain ⟨dW, xK, rfl, HA, xI, oH, HB⟩ := hrel
    cases gk with
    | zero => exact zz HA.out
    | succ k1 =>
     obtain ⟨H⟩ := HA
     simp only [iY.l0] at H
     replace H := sd H
     rcases H with ⟨tX, H⟩ | ⟨tX, H⟩
     ·
      replace H := oq H; obtain ⟨xY, H⟩ := H; replace H := oq H; obtain ⟨nY, H⟩ := H; replace H := sq H
      rcases H with ⟨wU, CP, H⟩ | ⟨c12, wU, CP, H⟩
      ·
       replace H := nl H; obtain ⟨ap7, H⟩ := H
       replace H := ny H
       obtain ⟨agu, ap8, H⟩ := H
       replace H := nl H; obtain ⟨ap9, H⟩ := H
       obtain ⟨aEA, aiJ⟩ := nm (agu ++ [bt a0 xK])
       rw [← aiJ.out] at H
       have H' := ak H; clear H
       obtain ⟨p11, q11, Vk⟩ := bx a0 xK
       go_wp2_with (first | (at_builtin; refine aP 29 30 (Kd.int .u8) 22 5 (.int .u8 0) 1 Tryz.underlying22 info5 HB (ur oH.out) ap8 (by have := ap7.out; omega) ?_; intro aEB w16 ho hb hg hat; have aiK := ak (ho); replace HB := ak (hb); clear ho hb hg hat oH; have p14 : 0 ≤ (xK : Int) := of_decide_eq_true (by assumption); have q14 : xK < (a0.size : Int) := of_decide_eq_true (by assumption); have alR := vH a0 xK; replace p14 := eq_true p14; replace q14 := eq_true q14) | (at_builtin; refine aP 32 36 (Kd.int .u8) 22 5 (.int .u8 0) 1 Tryz.underlying22 info5 HB (ur aiK.out) aiJ (by have := ap9.out; omega) ?_; intro aEC w17 ho hb hg hat; have ap_ := ak (ho); replace HB := ak (hb); clear ho hb hg hat aiK))
       go_roundg k1
       case measure => exact kl
       case rel => exact ⟨_, _, rs, H', ⟨kl⟩, ⟨ur ap_.out⟩, ⟨ul HB.out⟩⟩
      ·
       replace H := sq H
       rcases H with ⟨z_, Eb, H⟩ | ⟨c19, z_, Eb, H⟩
       ·
        replace H := nl H; obtain ⟨adA, H⟩ := H
        replace H := ny H
        obtain ⟨agv, aqa, H⟩ := H
        replace H := nl H; obtain ⟨aqb, H⟩ := H
        obtain ⟨aED, aiL⟩ := nm (agv ++ [bt a0 xK])
        rw [← aiL.out] at H
        have H' := ak H; clear H
        obtain ⟨p11, q11, Vk⟩ := bx a0 xK
        obtain ⟨p18, q18, apK⟩ := bx a0 xK
        go_wp2_with (first | (at_builtin; refine aP 29 30 (Kd.int .u8) 22 5 (.int .u8 0) 1 Tryz.underlying22 info5 HB (ur oH.out) aqa (by have := adA.out; omega) ?_; intro aEE w23 ho hb hg hat; have aiM := ak (ho); replace HB := ak (hb); clear ho hb hg hat oH; have p21 : 0 ≤ (xK : Int) := of_decide_eq_true (by assumption); have q21 : xK < (a0.size : Int) := of_decide_eq_true (by assumption); have aEF := vH a0 xK; replace p21 := eq_true p21; replace q21 := eq_true q21) | (at_builtin; refine aP 32 36 (Kd.int .u8) 22 5 (.int .u8 0) 1 Tryz.underlying22 info5 HB (ur aiM.out) aiL (by have := aqb.out; omega) ?_; intro aEG w24 ho hb hg hat; have aqc := ak (ho); replace HB := ak (hb); clear ho hb hg hat aiM))
        go_roundg k1
        case measure => exact kl
        case rel => exact ⟨_, _, rs, H', ⟨kl⟩, ⟨ur aqc.out⟩, ⟨ul HB.out⟩⟩
       ·
        replace H := nl H; obtain ⟨aqd, H⟩ := H
        obtain ⟨aEH, aiN⟩ := nm (dW ++ [bt a0 xK])
        rw [← aiN.out] at H
        have H' := ak H; clear H
        obtain ⟨p11, q11, Vk⟩ := bx a0 xK
        obtain ⟨p18, q18, apK⟩ := bx a0 xK
        obtain ⟨p25, q25, hx25⟩ := bx a0 xK
        go_wp2_with (at_builtin; refine aP 32 36 (Kd.int .u8) 22 5 (.int .u8 0) 1 Tryz.underlying22 info5 HB (ur oH.out) aiN (by have := aqd.out; omega) ?_; intro aEI w27 ho hb hg hat; have aqe := ak (ho); replace HB := ak (hb); clear ho hb hg hat oH)
        go_roundg k1
        case measure => exact kl
        case rel => exact ⟨_, _, rs, H', ⟨kl⟩, ⟨ur aqe.out⟩, ⟨ul HB.out⟩⟩
     ·
      replace H := nl H; obtain ⟨aqf, H⟩ := H
      obtain ⟨aEJ, aiO⟩ := nm (dW ++ [34])
      rw [← aiO.out] at H
      obtain rfl := s1 H
      go_wp2_with (at_builtin; refine aP 39 40 (Kd.int .u8) 22 5 (.int .u8 0) 1 Tryz.underlying22 info5 HB (ur oH.out) aiO (by have := aqf.out; omega) ?_; intro aEK w29 ho hb hg hat; have aqg := ak (ho); replace HB := ak (hb); clear ho hb hg hat oH; have aBb := qE (P := Tryz.prog) Tryz.underlying22 Tryz.underlying5 Tryz.underlying9 (Kd.uJ aqg.out))
      go_ret
      exact ⟨er, ul HB.out⟩
 ·
  obtain rfl := s1 H
  go_enter Tryz.func166, Tryz.ntmps166
  go_wp2_with (refine gA Tryz.func89 (bg.calls A2.out) ?_; intro nd)
  go_ret
  exact ⟨er, ul HB.out⟩
def gU.l0 : Nat → ByteArray → List (gX) → Int → Int → Option (ByteArray)
 | 0, _, _, _, _ => none
 | k + 1, x3, TI, x14, x15 => if x15 < x14 then (if 0 ≤ x15 then (if x15 < (TI.length : Int) then (if 2 + ((fC TI x15).f0).size ≤ 9223372036854775807 then (if ((⟨#[59, 32]⟩ : ByteArray) ++ ((fC TI x15).f0)).size + 1 ≤ 9223372036854775807 then ((iY.f k ((fC TI x15).f1)).bind fun QM => (if (((⟨#[59, 32]⟩ : ByteArray) ++ ((fC TI x15).f0)) ++ (⟨#[61]⟩ : ByteArray)).size + QM.size ≤ 9223372036854775807 then (if x3.size + ((((⟨#[59, 32]⟩ : ByteArray) ++ ((fC TI x15).f0)) ++ (⟨#[61]⟩ : ByteArray)) ++ QM).size ≤ 9223372036854775807 then (gU.l0 k (x3 ++ ((((⟨#[59, 32]⟩ : ByteArray) ++ ((fC TI x15).f0)) ++ (⟨#[61]⟩ : ByteArray)) ++ QM)) TI x14 (wrap64 (x15 + 1))) else (none)) else (none))) else (none)) else (none)) else (none)) else (none)) else (some x3)
def gU.f (k : Nat) (eG : ByteArray) (eU : ByteArray) (aH : List (gX)) : Option (ByteArray) := if eG.size + 1 ≤ 9223372036854775807 then (if (eG ++ (⟨#[47]⟩ : ByteArray)).size + eU.size ≤ 9223372036854775807 then (gU.l0 k ((eG ++ (⟨#[47]⟩ : ByteArray)) ++ eU) aH (aH.length : Int) 0) else (none)) else (none)
def gU.T5 : Bool × List (List Nat × List Nat) := (true, [([], []), ([], []), ([1], [1]), ([2], [2]), ([3], [3]), ([], []), ([5], [5]), ([6], [6]), ([4, 7], [4, 7]), ([0, 8], [0, 8]), ([9, 7, 0, 1, 2, 3, 4, 5, 6, 7, 8, 9], [0, 9])])
def gU.B5 : List Nat := [0, 0, 2, 6, 14, 0, 32, 96, 254, 511, 1023]
theorem gU.alP : rU .any (opsOf Tryz.f137 5) = gU.T5 := by kernel_rfl
theorem gU.adu : nD gU.T5.2 gU.B5 = true := by kernel_rfl
theorem gU.calls {k f_ : Nat} {eG eU r : ByteArray} {iP : Option Addr} {aH : List (gX)} {w : World} (kS : Kd.C qI w iP aH.length aH) (kT : aH.length ≤ f_) (h : gU.f k eG eU aH = some r) :
  Calls Tryz.prog 137 #[.agg #[.string eG, .string eU, .slice iP aH.length f_]] w fun e w' => e = .returned (.string r) ∧ Below w.heap.size w w' := by
 have Vm := Tryz.underlying61
 have Dn := Tryz.underlying69
 have jD := ak kS
 have mQ := ak kT
 clear kS kT
 have HB := ak (Below.refl w.heap.size w)
 unfold gU.f at h; have H := h
 clear h
 replace H := nn H; obtain ⟨c2, H⟩ := H
 have ou := eq_true c2
 have vK := decide_eq_true c2
 try have ade : (9223372036854775807 < eG.size + 1) = False := eq_false (Nat.not_lt.2 c2)
 replace H := nn H; obtain ⟨c3, H⟩ := H
 have iO := eq_true c3
 have yK := decide_eq_true c3
 try have aEL : (9223372036854775807 < eG.size + 1 + eU.size) = False := by have h_ := (eq_false (Nat.not_lt.2 c3) : (9223372036854775807 < (eG ++ (⟨#[47]⟩ : ByteArray)).size + eU.size) = False); simp only [ByteArray.size_append] at h_; exact h_
 try have abk : (9223372036854775807 < (eG ++ (⟨#[47]⟩ : ByteArray)).size + eU.size) = False := eq_false (Nat.not_lt.2 c3)
 have H' := ak H; clear H
 go_enter Tryz.func137, Tryz.ntmps137
 go_wp2_with (refine bX HB 1 #[.string eG, .string eU, .slice iP aH.length f_] 61 ?_; intro aqh w4 Bo aBd hb; replace HB := bs HB hb; clear hb; have z5 := kK Bo.out)
 go_loopg [3, 15] k (fun kq v3 v15 w' => ∃ (dW : ByteArray) (xM : Int), v3 = .string dW ∧ v15 = .int .i64 xM ∧ ah (gU.l0 kq dW aH (aH.length : Int) xM = some r) ∧ ah (kq ≤ k) ∧ ah (w'.heap[aqh]? = some (.cells #[.string eG, .string eU, (.slice iP aH.length f_)] 61 (0, 0))) ∧ ah (Below w.heap.size w w'))
 case atStart => exact ⟨_, _, rs, rs, H', ⟨Nat.le_refl _⟩, ⟨ub Bo.out⟩, ⟨bb⟩⟩
 case round =>
  clear H'
  try clear c2
  try clear ou
  try clear vK
  try clear ade
  try clear c3
  try clear iO
  try clear yK
  try clear abk
  obtain ⟨dW, xM, rfl, rfl, HA, xI, Bo, HB⟩ := hrel
  cases gk with
  | zero => exact zz HA.out
  | succ k1 =>
   obtain ⟨H⟩ := HA
   simp only [gU.l0] at H
   replace H := sd H
   rcases H with ⟨nN, H⟩ | ⟨nN, H⟩
   ·
    replace H := oq H; obtain ⟨rF, H⟩ := H; replace H := oq H; obtain ⟨tX, H⟩ := H; replace H := nn H; obtain ⟨c9, H⟩ := H
    have xY := eq_true c9
    have EN := decide_eq_true c9
    try have apt : (9223372036854775807 < 2 + ((fC aH xM).f0).size) = False := eq_false (Nat.not_lt.2 c9)
    replace H := nn H; obtain ⟨c10, H⟩ := H
    have nY := eq_true c10
    have rX := decide_eq_true c10
    try have aiP : (9223372036854775807 < 2 + ((fC aH xM).f0).size + 1) = False := by have h_ := (eq_false (Nat.not_lt.2 c10) : (9223372036854775807 < ((⟨#[59, 32]⟩ : ByteArray) ++ ((fC aH xM).f0)).size + 1) = False); simp only [ByteArray.size_append] at h_; exact h_
    try have Zf : (9223372036854775807 < ((⟨#[59, 32]⟩ : ByteArray) ++ ((fC aH xM).f0)).size + 1) = False := eq_false (Nat.not_lt.2 c10)
    replace H := bd H; obtain ⟨QM, Zg, H⟩ := H; replace H := nn H; obtain ⟨c12, H⟩ := H
    have wU := eq_true c12
    have CP := decide_eq_true c12
    try have aBe : (9223372036854775807 < 2 + ((fC aH xM).f0).size + 1 + QM.size) = False := by have h_ := (eq_false (Nat.not_lt.2 c12) : (9223372036854775807 < (((⟨#[59, 32]⟩ : ByteArray) ++ ((fC aH xM).f0)) ++ (⟨#[61]⟩ : ByteArray)).size + QM.size) = False); simp only [ByteArray.size_append] at h_; exact h_
    try have aBf : (9223372036854775807 < (((⟨#[59, 32]⟩ : ByteArray) ++ ((fC aH xM).f0)) ++ (⟨#[61]⟩ : ByteArray)).size + QM.size) = False := eq_false (Nat.not_lt.2 c12)
    replace H := nn H; obtain ⟨c13, H⟩ := H
    have vw := eq_true c13
    have zy := decide_eq_true c13
    try have aqi : (9223372036854775807 < dW.size + (2 + ((fC aH xM).f0).size + 1 + QM.size)) = False := by have h_ := (eq_false (Nat.not_lt.2 c13) : (9223372036854775807 < dW.size + ((((⟨#[59, 32]⟩ : ByteArray) ++ ((fC aH xM).f0)) ++ (⟨#[61]⟩ : ByteArray)) ++ QM).size) = False); simp only [ByteArray.size_append] at h_; exact h_
    try have ahV : (9223372036854775807 < dW.size + ((((⟨#[59, 32]⟩ : ByteArray) ++ ((fC aH xM).f0)) ++ (⟨#[61]⟩ : ByteArray)) ++ QM).size) = False := eq_false (Nat.not_lt.2 c13)
    have H' := ak H; clear H
    have alS := zi xM
    have alT := zj xM aH.length
    obtain ⟨aBg, ayv, Zh, Zi⟩ := qL jD.out xM alS alT
    cases ayv
    replace Zh := cl HB.out Zh
    replace Zi := cl HB.out Zi
    replace alS := eq_true alS
    replace alT := eq_true alT
    try go_wp2_with (refine bY HB 5 #[.string (⟨#[]⟩ : ByteArray), .string (⟨#[]⟩ : ByteArray)] 69 ?_; intro aiQ SS MZ aqj hg hb; have Rq := Ba Bo hg; have abq := Bc Bo hg; replace Bo := kb Bo hb; replace HB := bz HB hb; clear hb hg; have aBh := abq.out; have aBi := Rq.out; have z16 := zC MZ.out)
    refine ab2 HB MZ aqj ?_
    intro w17 adB hk HB
    replace Bo := kf Bo hk Rq
    clear hk MZ
    have MZ := adB; clear adB
    refine rO [7] [0, 1, 5, 2, 3, 4, 6, 7, 8, 9, 10] (fun w' => w'.cell? ⟨aiQ, 0, none⟩ = some (.string ((fC aH xM).f0)) ∧ w'.cell? ⟨aiQ, 1, none⟩ = some (.string ((fC aH xM).f1))) ?_
    intro w18 hb
    replace Bo := kb Bo hb
    replace MZ := kb MZ hb
    replace HB := bs HB hb
    refine ⟨sx, ?_⟩
    repeat refine wO ?_
    refine rB Tryz.func166 (iY.calls Zg.out) ?_
    intro Zb hb
    replace Bo := kb Bo hb
    replace MZ := kb MZ hb
    replace HB := bz HB hb
    clear hb
    refine ⟨sx, ?_⟩
    repeat refine wO ?_
    refine on ?_
    try go_wp2
    go_roundg k1
    case measure => exact kl
    case rel => exact ⟨_, _, rs, rs, H', ⟨kl⟩, ⟨ub Bo.out⟩, ⟨bb⟩⟩
   ·
    obtain rfl := s1 H
    go_wp2
    go_ret
    exact ⟨er, bb⟩
mutual
def bJ.j0 : Nat → Bool → ByteArray → ByteArray → List (gX) → Option (Bool)
 | 0, _, _, _, _ => none
 | k + 1, x20, Oj, Ol, Bq => if x20 = true then (some false) else (bJ.l0 k Bq (Bq.length : Int) 0 Oj Ol Bq)
def bJ.l0 : Nat → List (gX) → Int → Int → ByteArray → ByteArray → List (gX) → Option (Bool)
 | 0, _, _, _, _, _, _ => none
 | k + 1, x22, x23, x24, Oj, Ol, Bq => if x24 < x23 then (if 0 ≤ x24 then (if x24 < (x22.length : Int) then ((gI.f k ((fC x22 x24).f0)).bind fun aqk => (if aqk = true then ((bg.f k ((fC x22 x24).f1)).bind fun aql => (if aql = true then (if (((fC x22 x24).f1).size : Int) > 40 then (some false) else (if x24 ≤ (Bq.length : Int) then ((kM.f k (Bq.take (x24 : Int).toNat) ((fC x22 x24).f0)).bind fun agw => (if agw ≥ 0 then (some false) else (bJ.l0 k x22 x23 (wrap64 (x24 + 1)) Oj Ol Bq))) else (none))) else (some false))) else (some false))) else (none)) else (none)) else ((gU.f k Oj Ol Bq).bind fun aqm => (some (decide ((aqm.size : Int) ≤ 150))))
end
def bJ.f (k : Nat) (eG : ByteArray) (eU : ByteArray) (aH : List (gX)) : Option (Bool) := (gI.f k eG).bind fun aqn => (if aqn = true then ((gI.f k eU).bind fun aqo => (if aqo = true then (bJ.j0 k (decide ((aH.length : Int) > 4)) eG eU aH) else (bJ.j0 k true eG eU aH))) else (bJ.j0 k true eG eU aH))
def bJ.T6 : Bool × List (List Nat × List Nat) := (true, [([], []), ([0], [0]), ([1], [1]), ([2], [2]), ([3, 2], [3]), ([4], [4]), ([5, 4], [4, 5]), ([6, 4, 4], [4, 6]), ([7, 4], [4, 7]), ([4, 8], [4, 8]), ([9, 7], [9]), ([10], [10]), ([11, 10], [10, 11]), ([12, 10], [10, 12]), ([13, 10], [10, 13]), ([10, 14], [10, 14]), ([15, 10], [15]), ([16], [16]), ([17, 16], [16, 17]), ([16], [16]), ([18, 19, 16], [16, 18, 19]), ([16], [16]), ([21, 16], [16, 21]), ([20, 22, 16, 16], [16, 20, 22]), ([23, 16], [16, 23]), ([16, 24], [16, 24])])
def bJ.B6 : List Nat := [0, 1, 3, 7, 15, 31, 63, 127, 255, 511, 1023, 2047, 4095, 8191, 16383, 32767, 65535, 131071, 262143, 131071, 1048575, 131071, 2228223, 8388607, 16777215, 33554431]
theorem bJ.tab6 : rU .any (opsOf Tryz.f95 6) = bJ.T6 := by kernel_rfl
theorem bJ.ahZ : nD bJ.T6.2 bJ.B6 = true := by kernel_rfl
theorem bJ.calls {k f_ : Nat} {eG eU : ByteArray} {iP : Option Addr} {aH : List (gX)} {r : Bool} {w : World} (kS : Kd.C qI w iP aH.length aH) (kT : aH.length ≤ f_) (h : bJ.f k eG eU aH = some r) :
  Calls Tryz.prog 95 #[.agg #[.string eG, .string eU, .slice iP aH.length f_]] w fun e w' => e = .returned (.bool r) ∧ Below w.heap.size w w' := by
 have Vm := Tryz.underlying61
 have Dn := Tryz.underlying69
 have jD := ak kS
 have mQ := ak kT
 clear kS kT
 have HB := ak (Below.refl w.heap.size w)
 unfold bJ.f at h; have H := h
 clear h
 have HC2 := ak H
 clear H
 go_enter Tryz.func95, Tryz.ntmps95
 go_upto_region 1 with (refine gG 1 ?_; refine bX HB 1 #[.string eG, .string eU, .slice iP aH.length f_] 61 ?_; intro M_ w3 iw aBj hb; replace HB := bs HB hb; clear hb)
 (try simp only [Act.put, yT, yU, l_c])
 go_cut [20] (fun v20 wc => ∃ (kq : Nat) (adC : Bool), v20 = .bool adC ∧ ah (bJ.j0 kq adC eG eU aH = some r) ∧ ah (kq ≤ k) ∧ ah (wc.heap[M_]? = some (.cells #[.string eG, .string eU, (.slice iP aH.length f_)] 61 (0, 0))) ∧ ah (Below w.heap.size w wc))
 case first =>
  have H := HC2.out
  clear HC2
  replace H := bd H; obtain ⟨aqn, A4, H⟩ := H; replace H := sb H
  rcases H with ⟨rfl, H⟩ | ⟨rfl, H⟩
  ·
   replace H := bd H; obtain ⟨aqo, A6, H⟩ := H; replace H := sb H
   rcases H with ⟨rfl, H⟩ | ⟨rfl, H⟩
   ·
    have H' := ak H; clear H
    have z8 := kK iw.out
    go_wp2_with (first | (refine gB Tryz.func136 (gI.calls A4.out) ?_; intro w9 hb; replace iw := kb iw hb; replace HB := bz HB hb; clear hb; have z10 := kK iw.out) | (go_at_call 136; refine mB (gI.calls A6.out) ?_; intro U3 hb; replace iw := kb iw hb; replace HB := bz HB hb; clear hb; have z12 := kK iw.out))
    go_meet
    case rel => exact ⟨_, _, rs, H', ⟨IL⟩, ⟨ub iw.out⟩, ⟨bb⟩⟩
   ·
    have H' := ak H; clear H
    have z13 := kK iw.out
    go_wp2_with (first | (refine gB Tryz.func136 (gI.calls A4.out) ?_; intro SS hb; replace iw := kb iw hb; replace HB := bz HB hb; clear hb; have z15 := kK iw.out) | (go_at_call 136; refine mB (gI.calls A6.out) ?_; intro w16 hb; replace iw := kb iw hb; replace HB := bz HB hb; clear hb))
    go_meet
    case rel => exact ⟨_, _, rs, H', ⟨IL⟩, ⟨ub iw.out⟩, ⟨bb⟩⟩
  ·
   have H' := ak H; clear H
   have z17 := kK iw.out
   go_wp2_with (refine gB Tryz.func136 (gI.calls A4.out) ?_; intro w18 hb; replace iw := kb iw hb; replace HB := bz HB hb; clear hb)
   go_meet
   case rel => exact ⟨_, _, rs, H', ⟨IL⟩, ⟨ub iw.out⟩, ⟨bb⟩⟩
 case rest =>
  clear HC2
  obtain ⟨kq, adC, rfl, HA, HJ1, iw, HB⟩ := hcut
  cases kq with
  | zero => exact zz HA.out
  | succ NK =>
   obtain ⟨H⟩ := HA
   simp only [bJ.j0] at H
   replace H := sb H
   rcases H with ⟨rfl, H⟩ | ⟨rfl, H⟩
   ·
    obtain rfl := s1 H
    go_wp2
    go_ret
    exact ⟨er, bb⟩
   ·
    have H' := ak H; clear H
    have z20 := kK iw.out
    go_wp2
    go_loopg [24] NK (fun kq v24 w' => ∃ (lM : Int), v24 = .int .i64 lM ∧ ah (bJ.l0 kq aH (aH.length : Int) lM eG eU aH = some r) ∧ ah (kq ≤ NK) ∧ ah (w'.heap[M_]? = some (.cells #[.string eG, .string eU, (.slice iP aH.length f_)] 61 (0, 0))) ∧ ah (Below w.heap.size w w'))
    case atStart => exact ⟨_, rs, H', ⟨Nat.le_refl _⟩, ⟨ub iw.out⟩, ⟨bb⟩⟩
    case round =>
     clear H'
     obtain ⟨lM, rfl, HA, MJ, iw, HB⟩ := hrel
     cases gk with
     | zero => exact zz HA.out
     | succ k2 =>
      obtain ⟨H⟩ := HA
      simp only [bJ.l0] at H
      replace H := sd H
      rcases H with ⟨D_, H⟩ | ⟨D_, H⟩
      ·
       replace H := oq H; obtain ⟨ES, H⟩ := H; replace H := oq H; obtain ⟨Ad, H⟩ := H; replace H := bd H; obtain ⟨aqk, Xp, H⟩ := H; replace H := sb H
       rcases H with ⟨rfl, H⟩ | ⟨rfl, H⟩
       ·
        replace H := bd H; obtain ⟨aql, A26, H⟩ := H; replace H := sb H
        rcases H with ⟨rfl, H⟩ | ⟨rfl, H⟩
        ·
         replace H := sp H
         rcases H with ⟨c28, H⟩ | ⟨c28, H⟩
         ·
          have EP : decide (40 < (((fC aH lM).f1).size : Int)) = true := decide_eq_true c28
          have Zd : decide (40 < ((fC aH lM).f1).size) = true := decide_eq_true (by omega)
          clear c28
          obtain rfl := s1 H
          have Dx := zi lM
          have Dy := zj lM aH.length
          obtain ⟨G9, TN, ug, uh⟩ := qL jD.out lM Dx Dy
          cases TN
          replace ug := cl HB.out ug
          replace uh := cl HB.out uh
          replace Dx := eq_true Dx
          replace Dy := eq_true Dy
          try go_wp2_with (refine gG 4 ?_; refine bY HB 4 #[.string (⟨#[]⟩ : ByteArray), .string (⟨#[]⟩ : ByteArray)] 69 ?_; intro Bv w29 kX Jc hg hb; have o_ := Ba iw hg; have u_ := Bc iw hg; replace iw := kb iw hb; replace HB := bz HB hb; clear hb hg; have aBk := u_.out; have aBl := o_.out; have z31 := zC kX.out)
          refine ab2 HB kX Jc ?_
          intro w32 wV hk HB
          replace iw := kf iw hk o_
          clear hk kX
          have kX := wV; clear wV
          refine rO [2, 7] [0, 1, 2, 3, 4, 5, 6, 7, 8, 9, 10, 11, 12, 13, 14, 15, 16, 17, 18, 19, 20, 21, 22, 23, 24, 25] (fun w' => w'.cell? ⟨Bv, 0, none⟩ = some (.string ((fC aH lM).f0)) ∧ w'.cell? ⟨Bv, 1, none⟩ = some (.string ((fC aH lM).f1))) ?_
          intro w33 hb
          replace iw := kb iw hb
          replace kX := kb kX hb
          replace HB := bs HB hb
          refine ⟨sx, ?_⟩
          repeat (first | refine wO ?_ | refine NR ?_)
          refine rB Tryz.func136 (gI.calls Xp.out) ?_
          intro w34 hb
          replace iw := kb iw hb
          replace kX := kb kX hb
          replace HB := bz HB hb
          clear hb
          refine ⟨sx, ?_⟩
          repeat (first | refine wO ?_ | refine NR ?_)
          refine rA Tryz.func89 (bg.calls A26.out) ?_
          intro nd
          refine ⟨sx, ?_⟩
          repeat (first | refine wO ?_ | refine NR ?_)
          refine on ?_
          try go_wp2
          go_ret
          exact ⟨er, bb⟩
         ·
          have EP : decide (40 < (((fC aH lM).f1).size : Int)) = false := decide_eq_false c28
          have Zd : decide (40 < ((fC aH lM).f1).size) = false := decide_eq_false (by omega)
          clear c28
          have Ze := eq_true (of_decide_eq_true (by assumption) : 0 ≤ lM)
          replace H := yL H; obtain ⟨adn, aiR, H⟩ := H
          obtain ⟨agx, Vo⟩ := nm (aH.take (lM : Int).toNat)
          rw [← Vo.out] at H
          replace H := bd H; obtain ⟨agw, A37, H⟩ := H; replace H := sp H
          rcases H with ⟨WW, H⟩ | ⟨WW, H⟩
          ·
           have Zj : decide (0 ≤ agw) = true := decide_eq_true WW
           clear WW
           obtain rfl := s1 H
           have Dx := zi lM
           have Dy := zj lM aH.length
           obtain ⟨G9, TN, ug, uh⟩ := qL jD.out lM Dx Dy
           cases TN
           replace ug := cl HB.out ug
           replace uh := cl HB.out uh
           replace Dx := eq_true Dx
           replace Dy := eq_true Dy
           try go_wp2_with (refine gG 4 ?_; refine bY HB 4 #[.string (⟨#[]⟩ : ByteArray), .string (⟨#[]⟩ : ByteArray)] 69 ?_; intro Bv w39 kX Jc hg hb; have o_ := Ba iw hg; have u_ := Bc iw hg; replace iw := kb iw hb; replace HB := bz HB hb; clear hb hg; have aib := u_.out; have aic := o_.out; have aJw := zC kX.out)
           refine ab2 HB kX Jc ?_
           intro w42 wV hk HB
           replace iw := kf iw hk o_
           clear hk kX
           have kX := wV; clear wV
           refine rO [2, 7, 23] [0, 1, 2, 3, 4, 5, 6, 7, 8, 9, 10, 11, 12, 13, 14, 15, 16, 17, 19, 21, 18, 20, 22, 23, 24, 25] (fun w' => w'.cell? ⟨Bv, 0, none⟩ = some (.string ((fC aH lM).f0)) ∧ w'.cell? ⟨Bv, 1, none⟩ = some (.string ((fC aH lM).f1)) ∧ w'.cell? ⟨M_, 0, none⟩ = some (.string eG) ∧ w'.cell? ⟨M_, 1, none⟩ = some (.string eU) ∧ w'.cell? ⟨M_, 2, none⟩ = some (.slice (some G9) aH.length f_)) ?_
           intro w43 hb
           replace iw := kb iw hb
           replace kX := kb kX hb
           replace HB := bs HB hb
           refine ⟨sx, ?_⟩
           repeat refine wO ?_
           refine rB Tryz.func136 (gI.calls Xp.out) ?_
           intro w44 hb
           replace iw := kb iw hb
           replace kX := kb kX hb
           replace HB := bz HB hb
           clear hb
           refine ⟨sx, ?_⟩
           repeat refine wO ?_
           refine rA Tryz.func89 (bg.calls A26.out) ?_
           intro nd
           have q45 : (lM : Int) ≤ ((aH.length : Int) : Int) := of_decide_eq_true (by assumption)
           obtain ⟨aEM, aiS, _, aqp, _⟩ := info_parts Cc
           have Zk : aH.length ≤ f_ := mQ.out
           have aqr : Kd.C qI _ (some G9) aH.length aH := jD.out
           have alU := ET (P := Tryz.prog) 25 69 .i64 Tryz.underlying25 aiS (some G9) aH.length f_ lM (of_decide_eq_true (by assumption)) q45 Zk
           have alV := Kd.EU (m := (lM : Int).toNat) aqr (by omega)
           have alW : agx.length = (lM : Int).toNat := (by rw [Vo.out, List.length_take]; omega)
           rw [← Vo.out] at alV
           rw [← alW] at alU
           have adD := ak alV
           have adE := ak (show agx.length ≤ f_ from by omega)
           clear alV aqr Zk aiS aqp
           have aEN := ak alW
           clear alW
           replace q45 := eq_true q45
           refine ⟨sx, ?_⟩
           repeat refine wO ?_
           refine rB Tryz.func88 (kM.calls (cu (Kd.bf adD.out bb)) adE.out A37.out) ?_
           intro w46 hb
           replace iw := kb iw hb
           replace kX := kb kX hb
           replace HB := bz HB hb
           clear hb
           refine ⟨sx, ?_⟩
           repeat refine wO ?_
           refine on ?_
           try go_wp2
           go_ret
           exact ⟨er, bb⟩
          ·
           have Zj : decide (0 ≤ agw) = false := decide_eq_false WW
           clear WW
           have H' := ak H; clear H
           have Dx := zi lM
           have Dy := zj lM aH.length
           obtain ⟨G9, TN, ug, uh⟩ := qL jD.out lM Dx Dy
           cases TN
           replace ug := cl HB.out ug
           replace uh := cl HB.out uh
           replace Dx := eq_true Dx
           replace Dy := eq_true Dy
           try go_wp2_with (refine gG 4 ?_; refine bY HB 4 #[.string (⟨#[]⟩ : ByteArray), .string (⟨#[]⟩ : ByteArray)] 69 ?_; intro Bv w47 kX Jc hg hb; have o_ := Ba iw hg; have u_ := Bc iw hg; replace iw := kb iw hb; replace HB := bz HB hb; clear hb hg; have aii := u_.out; have aij := o_.out; have z49 := zC kX.out)
           refine ab2 HB kX Jc ?_
           intro w50 wV hk HB
           replace iw := kf iw hk o_
           clear hk kX
           have kX := wV; clear wV
           refine rO [2, 7, 23] [0, 1, 2, 3, 4, 5, 6, 7, 8, 9, 10, 11, 12, 13, 14, 15, 16, 17, 19, 21, 18, 20, 22, 23, 24, 25] (fun w' => w'.cell? ⟨Bv, 0, none⟩ = some (.string ((fC aH lM).f0)) ∧ w'.cell? ⟨Bv, 1, none⟩ = some (.string ((fC aH lM).f1)) ∧ w'.cell? ⟨M_, 0, none⟩ = some (.string eG) ∧ w'.cell? ⟨M_, 1, none⟩ = some (.string eU) ∧ w'.cell? ⟨M_, 2, none⟩ = some (.slice (some G9) aH.length f_)) ?_
           intro w51 hb
           replace iw := kb iw hb
           replace kX := kb kX hb
           replace HB := bs HB hb
           refine ⟨sx, ?_⟩
           repeat refine wO ?_
           refine rB Tryz.func136 (gI.calls Xp.out) ?_
           intro w52 hb
           replace iw := kb iw hb
           replace kX := kb kX hb
           replace HB := bz HB hb
           clear hb
           refine ⟨sx, ?_⟩
           repeat refine wO ?_
           refine rA Tryz.func89 (bg.calls A26.out) ?_
           intro nd
           have q53 : (lM : Int) ≤ ((aH.length : Int) : Int) := of_decide_eq_true (by assumption)
           obtain ⟨aEO, aiT, _, aqs, _⟩ := info_parts Cc
           have Zl : aH.length ≤ f_ := mQ.out
           have aqt : Kd.C qI _ (some G9) aH.length aH := jD.out
           have alX := ET (P := Tryz.prog) 25 69 .i64 Tryz.underlying25 aiT (some G9) aH.length f_ lM (of_decide_eq_true (by assumption)) q53 Zl
           have alY := Kd.EU (m := (lM : Int).toNat) aqt (by omega)
           have alZ : agx.length = (lM : Int).toNat := (by rw [Vo.out, List.length_take]; omega)
           rw [← Vo.out] at alY
           rw [← alZ] at alX
           have adD := ak alY
           have adE := ak (show agx.length ≤ f_ from by omega)
           clear alY aqt Zl aiT aqs
           have aEP := ak alZ
           clear alZ
           replace q53 := eq_true q53
           refine ⟨sx, ?_⟩
           repeat refine wO ?_
           refine rB Tryz.func88 (kM.calls (cu (Kd.bf adD.out bb)) adE.out A37.out) ?_
           intro w54 hb
           replace iw := kb iw hb
           replace kX := kb kX hb
           replace HB := bz HB hb
           clear hb
           refine ⟨sx, ?_⟩
           repeat refine wO ?_
           refine on ?_
           try go_wp2
           go_roundg k2
           case measure => exact kl
           case rel => exact ⟨_, rs, H', ⟨kl⟩, ⟨ub iw.out⟩, ⟨bb⟩⟩
        ·
         obtain rfl := s1 H
         have Dx := zi lM
         have Dy := zj lM aH.length
         obtain ⟨G9, TN, ug, uh⟩ := qL jD.out lM Dx Dy
         cases TN
         replace ug := cl HB.out ug
         replace uh := cl HB.out uh
         replace Dx := eq_true Dx
         replace Dy := eq_true Dy
         try go_wp2_with (refine gG 4 ?_; refine bY HB 4 #[.string (⟨#[]⟩ : ByteArray), .string (⟨#[]⟩ : ByteArray)] 69 ?_; intro Bv w55 kX Jc hg hb; have o_ := Ba iw hg; have u_ := Bc iw hg; replace iw := kb iw hb; replace HB := bz HB hb; clear hb hg; have aqu := u_.out; have aqv := o_.out; have z57 := zC kX.out)
         refine ab2 HB kX Jc ?_
         intro w58 wV hk HB
         replace iw := kf iw hk o_
         clear hk kX
         have kX := wV; clear wV
         refine rO [2, 7] [0, 1, 2, 3, 4, 5, 6, 7, 8, 9, 10, 11, 12, 13, 14, 15, 16, 17, 18, 19, 20, 21, 22, 23, 24, 25] (fun w' => w'.cell? ⟨Bv, 0, none⟩ = some (.string ((fC aH lM).f0)) ∧ w'.cell? ⟨Bv, 1, none⟩ = some (.string ((fC aH lM).f1))) ?_
         intro w59 hb
         replace iw := kb iw hb
         replace kX := kb kX hb
         replace HB := bs HB hb
         refine ⟨sx, ?_⟩
         repeat (first | refine wO ?_ | refine NR ?_)
         refine rB Tryz.func136 (gI.calls Xp.out) ?_
         intro QC hb
         replace iw := kb iw hb
         replace kX := kb kX hb
         replace HB := bz HB hb
         clear hb
         refine ⟨sx, ?_⟩
         repeat (first | refine wO ?_ | refine NR ?_)
         refine rA Tryz.func89 (bg.calls A26.out) ?_
         intro nd
         refine ⟨sx, ?_⟩
         repeat (first | refine wO ?_ | refine NR ?_)
         refine on ?_
         try go_wp2
         go_ret
         exact ⟨er, bb⟩
       ·
        obtain rfl := s1 H
        have Dx := zi lM
        have Dy := zj lM aH.length
        obtain ⟨G9, TN, ug, uh⟩ := qL jD.out lM Dx Dy
        cases TN
        replace ug := cl HB.out ug
        replace uh := cl HB.out uh
        replace Dx := eq_true Dx
        replace Dy := eq_true Dy
        try go_wp2_with (refine gG 4 ?_; refine bY HB 4 #[.string (⟨#[]⟩ : ByteArray), .string (⟨#[]⟩ : ByteArray)] 69 ?_; intro Bv w61 kX Jc hg hb; have o_ := Ba iw hg; have u_ := Bc iw hg; replace iw := kb iw hb; replace HB := bz HB hb; clear hb hg; have aBm := u_.out; have aBn := o_.out; have z63 := zC kX.out)
        refine ab2 HB kX Jc ?_
        intro w64 wV hk HB
        replace iw := kf iw hk o_
        clear hk kX
        have kX := wV; clear wV
        refine rO [2] [0, 1, 2, 3, 4, 5, 6, 7, 8, 9, 10, 11, 12, 13, 14, 15, 16, 17, 18, 19, 20, 21, 22, 23, 24, 25] (fun w' => w'.cell? ⟨Bv, 0, none⟩ = some (.string ((fC aH lM).f0)) ∧ w'.cell? ⟨Bv, 1, none⟩ = some (.string ((fC aH lM).f1))) ?_
        intro w65 hb
        replace iw := kb iw hb
        replace kX := kb kX hb
        replace HB := bs HB hb
        refine ⟨sx, ?_⟩
        repeat (first | refine wO ?_ | refine NR ?_)
        refine rB Tryz.func136 (gI.calls Xp.out) ?_
        intro w66 hb
        replace iw := kb iw hb
        replace kX := kb kX hb
        replace HB := bz HB hb
        clear hb
        refine ⟨sx, ?_⟩
        repeat (first | refine wO ?_ | refine NR ?_)
        refine on ?_
        try go_wp2
        go_ret
        exact ⟨er, bb⟩
      ·
       replace H := bd H; obtain ⟨aqm, A67, H⟩ := H
       obtain rfl := s1 H
       have z68 := kK iw.out
       go_wp2_with (refine gB Tryz.func137 (gU.calls (cu (Kd.bf jD.out HB.out)) mQ.out A67.out) ?_; intro w69 hb; replace iw := kb iw hb; replace HB := bz HB hb; clear hb)
       go_ret
       exact ⟨er, bb⟩
end Go.Proofs.YtncdadcmghglkaaGreatDoor.PFnPartLines
