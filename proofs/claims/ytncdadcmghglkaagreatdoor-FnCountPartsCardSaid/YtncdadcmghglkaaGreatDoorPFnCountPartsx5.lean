/- Printed walks; conditions: those in each statement. -/
import Derived.Test.YtncdadcmghglkaaGreatDoorVFnCountPartsQt
import Derived.Test.YtncdadcmghglkaaGreatDoorVFnCountPartsYt
import Derived.Test.YtncdadcmghglkaaGreatDoorPFnCountPartsx0
import Derived.Test.YtncdadcmghglkaaGreatDoorPFnCountPartsx1
import Derived.Test.YtncdadcmghglkaaGreatDoorPFnCountPartsx4
import Derived.Test.YtncdadcmghglkaaGreatDoorPFnCountPartsx3
-- short
-- dense
-- sq
-- sq2
namespace Go.Proofs.YtncdadcmghglkaaGreatDoor.PFnCountParts
open Go.RowKit Go.Proofs.YtncdadcmghglkaaGreatDoor.X Go.Proofs.YtncdadcmghglkaaGreatDoorW.bI Go.Proofs.YtncdadcmghglkaaGreatDoorW.gI Go.Proofs.YtncdadcmghglkaaGreatDoorW.iL
attribute [local go_sem] kN kP mF mG jB jC kQ kR   -- for this text's walks alone
set_option linter.unusedVariables false
set_option maxHeartbeats 8000000
set_option maxRecDepth 100000
set_option linter.unusedSimpArgs false
def pz.f (k : Nat) (a0 : ByteArray) : Option (Bool) := if (a0.size : Int) ≥ 1 then (if (a0.size : Int) ≤ 40 then ((dN.f k a0).bind fun aub => (some aub)) else (some false)) else (some false)
theorem pz.calls {k : Nat} {a0 : ByteArray} {r : Bool} {w : World} (h : pz.f k a0 = some r) :
  Calls Tryz.prog 193 #[.string a0] w fun e w' => e = .returned (.bool r) ∧ dS w w' := by
 unfold pz.f at h; have H := h
 clear h
 replace H := sp H
 rcases H with ⟨c2, H⟩ | ⟨c2, H⟩
 ·
  have oI : decide (1 ≤ (a0.size : Int)) = true := decide_eq_true c2
  have uP : decide (1 ≤ a0.size) = true := decide_eq_true (by omega)
  clear c2
  replace H := sp H
  rcases H with ⟨c3, H⟩ | ⟨c3, H⟩
  ·
   have iQ := decide_eq_true c3
   have zZ : decide (a0.size ≤ 40) = true := decide_eq_true (by omega)
   clear c3
   replace H := bd H; obtain ⟨aub, A4, H⟩ := H
   obtain rfl := s1 H
   go_enter Tryz.func193, Tryz.ntmps193
   go_wp2_with (go_at_call 138; refine mA (dN.calls A4.out) ?_; intro nd)
   go_ret
   exact ⟨rs, dn⟩
  ·
   have iQ := decide_eq_false c3
   have zZ : decide (a0.size ≤ 40) = false := decide_eq_false (by omega)
   clear c3
   obtain rfl := s1 H
   go_enter Tryz.func193, Tryz.ntmps193
   go_wp2
   go_ret
   exact ⟨rs, dn⟩
 ·
  have oI : decide (1 ≤ (a0.size : Int)) = false := decide_eq_false c2
  have uP : decide (1 ≤ a0.size) = false := decide_eq_false (by omega)
  clear c2
  obtain rfl := s1 H
  go_enter Tryz.func193, Tryz.ntmps193
  go_wp2
  go_ret
  exact ⟨rs, dn⟩
def iV.l0 : Nat → ByteArray → List Int → Int → Int → Option (ByteArray)
 | 0, _, _, _, _ => none
 | k + 1, x0, x3, x15, x16 => if x16 < x15 then (if 0 ≤ x16 then (if x16 < (x0.size : Int) then (if (bt x0 x16) = 34 then (if x3.length < 140737488355328 then ((some (x3 ++ [92] : List Int)).bind fun ahF => (if ahF.length < 140737488355328 then (iV.l0 k x0 (ahF ++ [bt x0 x16]) x15 (wrap64 (x16 + 1))) else (none))) else (none)) else (if (bt x0 x16) = 92 then (if x3.length < 140737488355328 then ((some (x3 ++ [92] : List Int)).bind fun ahG => (if ahG.length < 140737488355328 then (iV.l0 k x0 (ahG ++ [bt x0 x16]) x15 (wrap64 (x16 + 1))) else (none))) else (none)) else (if x3.length < 140737488355328 then (iV.l0 k x0 (x3 ++ [bt x0 x16]) x15 (wrap64 (x16 + 1))) else (none)))) else (none)) else (none)) else (if x3.length < 140737488355328 then (some (strOfNums (x3 ++ [34]))) else (none))
def iV.f (k : Nat) (a0 : ByteArray) : Option (ByteArray) := (bC.f k a0).bind fun t196 => (if t196 = true then ((pz.f k a0).bind fun auc => (if auc = true then (some a0) else (iV.l0 k a0 (([34] : List Int)) (a0.size : Int) 0))) else (some (⟨#[]⟩ : ByteArray)))
theorem iV.calls {k : Nat} {a0 r : ByteArray} {w : World} (h : iV.f k a0 = some r) :
  Calls Tryz.prog 166 #[.string a0] w fun e w' => e = .returned (.string r) ∧ Below w.heap.size w w' := by
 have HB := ak (Below.refl w.heap.size w)
 unfold iV.f at h; have H := h
 clear h
 replace H := bd H; obtain ⟨t196, A2, H⟩ := H; replace H := sb H
 rcases H with ⟨rfl, H⟩ | ⟨rfl, H⟩
 ·
  replace H := bd H; obtain ⟨auc, A4, H⟩ := H; replace H := sb H
  rcases H with ⟨rfl, H⟩ | ⟨rfl, H⟩
  ·
   obtain rfl := s1 H
   go_enter Tryz.func166, Tryz.ntmps166
   go_wp2_with (first | (refine gA Tryz.func89 (bC.calls A2.out) ?_; intro nd) | (refine gA Tryz.func193 (pz.calls A4.out) ?_; intro nd))
   go_ret
   exact ⟨er, ul HB.out⟩
  ·
   obtain ⟨aHO, akR⟩ := nm ([34] : List Int)
   rw [← akR.out] at H
   have H' := ak H; clear H
   go_enter Tryz.func166, Tryz.ntmps166
   go_wp2_with (first | (refine gA Tryz.func89 (bC.calls A2.out) ?_; intro nd) | (refine gA Tryz.func193 (pz.calls A4.out) ?_; intro nd) | (refine QC 13 (Kd.int .u8) 5 [.int .u8 34] akR (dD.one (show Kd.M (Kd.int .u8) _ _ _ 34 [.int .u8 34] from rfl) (dD.none _ _)) ?_; intro aHP w6 ho7 hb; have aud := ak (Kd.aA ho7 (aj (ul HB.out))); replace HB := bs HB hb; clear hb ho7))
   go_loopg [3, 16] k (fun kq v3 v16 w' => ∃ (dM : List Int) (xY : Int), v16 = .int .i64 xY ∧ ah (iV.l0 kq a0 dM (a0.size : Int) xY = some r) ∧ ah (kq ≤ k) ∧ ah (Kd.R (Kd.int .u8) 5 w' w.heap.size (fun _ => True) v3 dM) ∧ ah (Below w.heap.size w w'))
   case atStart => exact ⟨_, _, rs, H', ⟨Nat.le_refl _⟩, ⟨ur aud.out⟩, ⟨ul HB.out⟩⟩
   case round =>
    clear H'
    obtain ⟨dM, xY, rfl, HA, xu, oU, HB⟩ := hrel
    cases gk with
    | zero => exact zz HA.out
    | succ k1 =>
     obtain ⟨H⟩ := HA
     simp only [iV.l0] at H
     replace H := sd H
     rcases H with ⟨sH, H⟩ | ⟨sH, H⟩
     ·
      replace H := oM H; obtain ⟨xU, H⟩ := H; replace H := oM H; obtain ⟨oC, H⟩ := H; replace H := sq H
      rcases H with ⟨xw, CP, H⟩ | ⟨c12, xw, CP, H⟩
      ·
       replace H := nl H; obtain ⟨aue, H⟩ := H
       replace H := ny H
       obtain ⟨ahF, auf, H⟩ := H
       replace H := nl H; obtain ⟨aug, H⟩ := H
       obtain ⟨aHQ, akS⟩ := nm (ahF ++ [bt a0 xY])
       rw [← akS.out] at H
       have H' := ak H; clear H
       obtain ⟨p11, q11, Vg⟩ := bx a0 xY
       go_wp2_with (first | (at_builtin; refine aP 29 30 (Kd.int .u8) 22 5 (.int .u8 0) 1 Tryz.underlying22 info5 HB (ur oU.out) auf (by have := aue.out; omega) ?_; intro aHR w16 ho hb hg hat; have akT := ak (ho); replace HB := ak (hb); clear ho hb hg hat oU; have p14 : 0 ≤ (xY : Int) := of_decide_eq_true (by assumption); have q14 : xY < (a0.size : Int) := of_decide_eq_true (by assumption); have alL := vO a0 xY; replace p14 := eq_true p14; replace q14 := eq_true q14) | (at_builtin; refine aP 32 36 (Kd.int .u8) 22 5 (.int .u8 0) 1 Tryz.underlying22 info5 HB (ur akT.out) akS (by have := aug.out; omega) ?_; intro aHS w17 ho hb hg hat; have auh := ak (ho); replace HB := ak (hb); clear ho hb hg hat akT))
       go_roundg k1
       case measure => exact kl
       case rel => exact ⟨_, _, rs, H', ⟨kl⟩, ⟨ur auh.out⟩, ⟨ul HB.out⟩⟩
      ·
       replace H := sq H
       rcases H with ⟨z_, Ea, H⟩ | ⟨c19, z_, Ea, H⟩
       ·
        replace H := nl H; obtain ⟨ae4, H⟩ := H
        replace H := ny H
        obtain ⟨ahG, aui, H⟩ := H
        replace H := nl H; obtain ⟨auj, H⟩ := H
        obtain ⟨aHT, akU⟩ := nm (ahG ++ [bt a0 xY])
        rw [← akU.out] at H
        have H' := ak H; clear H
        obtain ⟨p11, q11, Vg⟩ := bx a0 xY
        obtain ⟨p18, q18, atN⟩ := bx a0 xY
        go_wp2_with (first | (at_builtin; refine aP 29 30 (Kd.int .u8) 22 5 (.int .u8 0) 1 Tryz.underlying22 info5 HB (ur oU.out) aui (by have := ae4.out; omega) ?_; intro v208 w23 ho hb hg hat; have akV := ak (ho); replace HB := ak (hb); clear ho hb hg hat oU; have p21 : 0 ≤ (xY : Int) := of_decide_eq_true (by assumption); have q21 : xY < (a0.size : Int) := of_decide_eq_true (by assumption); have aHU := vO a0 xY; replace p21 := eq_true p21; replace q21 := eq_true q21) | (at_builtin; refine aP 32 36 (Kd.int .u8) 22 5 (.int .u8 0) 1 Tryz.underlying22 info5 HB (ur akV.out) akU (by have := auj.out; omega) ?_; intro aHV w24 ho hb hg hat; have auk := ak (ho); replace HB := ak (hb); clear ho hb hg hat akV))
        go_roundg k1
        case measure => exact kl
        case rel => exact ⟨_, _, rs, H', ⟨kl⟩, ⟨ur auk.out⟩, ⟨ul HB.out⟩⟩
       ·
        replace H := nl H; obtain ⟨aul, H⟩ := H
        obtain ⟨aHW, akW⟩ := nm (dM ++ [bt a0 xY])
        rw [← akW.out] at H
        have H' := ak H; clear H
        obtain ⟨p11, q11, Vg⟩ := bx a0 xY
        obtain ⟨p18, q18, atN⟩ := bx a0 xY
        obtain ⟨p25, q25, hx25⟩ := bx a0 xY
        go_wp2_with (at_builtin; refine aP 32 36 (Kd.int .u8) 22 5 (.int .u8 0) 1 Tryz.underlying22 info5 HB (ur oU.out) akW (by have := aul.out; omega) ?_; intro aHX w27 ho hb hg hat; have aum := ak (ho); replace HB := ak (hb); clear ho hb hg hat oU)
        go_roundg k1
        case measure => exact kl
        case rel => exact ⟨_, _, rs, H', ⟨kl⟩, ⟨ur aum.out⟩, ⟨ul HB.out⟩⟩
     ·
      replace H := nl H; obtain ⟨aun, H⟩ := H
      obtain ⟨aHY, akX⟩ := nm (dM ++ [34])
      rw [← akX.out] at H
      obtain rfl := s1 H
      go_wp2_with (at_builtin; refine aP 39 40 (Kd.int .u8) 22 5 (.int .u8 0) 1 Tryz.underlying22 info5 HB (ur oU.out) akX (by have := aun.out; omega) ?_; intro aHZ w29 ho hb hg hat; have auo := ak (ho); replace HB := ak (hb); clear ho hb hg hat oU; have aCA := qK (P := Tryz.prog) Tryz.underlying22 Tryz.underlying5 Tryz.underlying9 (Kd.uX auo.out))
      go_ret
      exact ⟨er, ul HB.out⟩
 ·
  obtain rfl := s1 H
  go_enter Tryz.func166, Tryz.ntmps166
  go_wp2_with (refine gA Tryz.func89 (bC.calls A2.out) ?_; intro nd)
  go_ret
  exact ⟨er, ul HB.out⟩
def gZ.l0 : Nat → ByteArray → List (gY) → Int → Int → Option (ByteArray)
 | 0, _, _, _, _ => none
 | k + 1, x3, Lj, x14, x15 => if x15 < x14 then (if 0 ≤ x15 then (if x15 < (Lj.length : Int) then (if 2 + ((fD Lj x15).f0).size ≤ 9223372036854775807 then (if ((⟨#[59, 32]⟩ : ByteArray) ++ ((fD Lj x15).f0)).size + 1 ≤ 9223372036854775807 then ((iV.f k ((fD Lj x15).f1)).bind fun t222 => (if (((⟨#[59, 32]⟩ : ByteArray) ++ ((fD Lj x15).f0)) ++ (⟨#[61]⟩ : ByteArray)).size + t222.size ≤ 9223372036854775807 then (if x3.size + ((((⟨#[59, 32]⟩ : ByteArray) ++ ((fD Lj x15).f0)) ++ (⟨#[61]⟩ : ByteArray)) ++ t222).size ≤ 9223372036854775807 then (gZ.l0 k (x3 ++ ((((⟨#[59, 32]⟩ : ByteArray) ++ ((fD Lj x15).f0)) ++ (⟨#[61]⟩ : ByteArray)) ++ t222)) Lj x14 (wrap64 (x15 + 1))) else (none)) else (none))) else (none)) else (none)) else (none)) else (none)) else (some x3)
def gZ.f (k : Nat) (eF : ByteArray) (eP : ByteArray) (aC : List (gY)) : Option (ByteArray) := if eF.size + 1 ≤ 9223372036854775807 then (if (eF ++ (⟨#[47]⟩ : ByteArray)).size + eP.size ≤ 9223372036854775807 then (gZ.l0 k ((eF ++ (⟨#[47]⟩ : ByteArray)) ++ eP) aC (aC.length : Int) 0) else (none)) else (none)
def gZ.T5 : Bool × List (List Nat × List Nat) := (true, [([], []), ([], []), ([1], [1]), ([2], [2]), ([3], [3]), ([], []), ([5], [5]), ([6], [6]), ([4, 7], [4, 7]), ([0, 8], [0, 8]), ([9, 7, 0, 1, 2, 3, 4, 5, 6, 7, 8, 9], [0, 9])])
def gZ.B5 : List Nat := [0, 0, 2, 6, 14, 0, 32, 96, 254, 511, 1023]
theorem gZ.am_ : sJ .any (opsOf Tryz.f137 5) = gZ.T5 := by kernel_rfl
theorem gZ.ael : nV gZ.T5.2 gZ.B5 = true := by kernel_rfl
theorem gZ.calls {k eY : Nat} {eF eP r : ByteArray} {gX : Option Addr} {aC : List (gY)} {w : World} (jJ : Kd.C qJ w gX aC.length aC) (jK : aC.length ≤ eY) (h : gZ.f k eF eP aC = some r) :
  Calls Tryz.prog 137 #[.agg #[.string eF, .string eP, .slice gX aC.length eY]] w fun e w' => e = .returned (.string r) ∧ Below w.heap.size w w' := by
 have Vu := Tryz.underlying61
 have Dt := Tryz.underlying69
 have jm := ak jJ
 have lJ := ak jK
 clear jJ jK
 have HB := ak (Below.refl w.heap.size w)
 unfold gZ.f at h; have H := h
 clear h
 replace H := nn H; obtain ⟨c2, H⟩ := H
 have oI := eq_true c2
 have uP := decide_eq_true c2
 try have XE : (9223372036854775807 < eF.size + 1) = False := eq_false (Nat.not_lt.2 c2)
 replace H := nn H; obtain ⟨c3, H⟩ := H
 have iQ := eq_true c3
 have zZ := decide_eq_true c3
 try have aH0 : (9223372036854775807 < eF.size + 1 + eP.size) = False := by have h_ := (eq_false (Nat.not_lt.2 c3) : (9223372036854775807 < (eF ++ (⟨#[47]⟩ : ByteArray)).size + eP.size) = False); simp only [ByteArray.size_append] at h_; exact h_
 try have al0 : (9223372036854775807 < (eF ++ (⟨#[47]⟩ : ByteArray)).size + eP.size) = False := eq_false (Nat.not_lt.2 c3)
 have H' := ak H; clear H
 go_enter Tryz.func137, Tryz.ntmps137
 go_wp2_with (refine bX HB 1 #[.string eF, .string eP, .slice gX aC.length eY] 61 ?_; intro aup w4 BI aCB hb; replace HB := bs HB hb; clear hb; have z5 := jW BI.out)
 go_loopg [3, 15] k (fun kq v3 v15 w' => ∃ (dM : ByteArray) (xZ : Int), v3 = .string dM ∧ v15 = .int .i64 xZ ∧ ah (gZ.l0 kq dM aC (aC.length : Int) xZ = some r) ∧ ah (kq ≤ k) ∧ ah (w'.heap[aup]? = some (.cells #[.string eF, .string eP, (.slice gX aC.length eY)] 61 (0, 0))) ∧ ah (Below w.heap.size w w'))
 case atStart => exact ⟨_, _, rs, rs, H', ⟨Nat.le_refl _⟩, ⟨ub BI.out⟩, ⟨bb⟩⟩
 case round =>
  clear H'
  try clear c2
  try clear oI
  try clear uP
  try clear XE
  try clear c3
  try clear iQ
  try clear zZ
  try clear al0
  obtain ⟨dM, xZ, rfl, rfl, HA, xu, BI, HB⟩ := hrel
  cases gk with
  | zero => exact zz HA.out
  | succ k1 =>
   obtain ⟨H⟩ := HA
   simp only [gZ.l0] at H
   replace H := sd H
   rcases H with ⟨nT, H⟩ | ⟨nT, H⟩
   ·
    replace H := oM H; obtain ⟨rY, H⟩ := H; replace H := oM H; obtain ⟨sH, H⟩ := H; replace H := nn H; obtain ⟨c9, H⟩ := H
    have xU := eq_true c9
    have EX := decide_eq_true c9
    try have aqD : (9223372036854775807 < 2 + ((fD aC xZ).f0).size) = False := eq_false (Nat.not_lt.2 c9)
    replace H := nn H; obtain ⟨c10, H⟩ := H
    have oC := eq_true c10
    have sK := decide_eq_true c10
    try have aiP : (9223372036854775807 < 2 + ((fD aC xZ).f0).size + 1) = False := by have h_ := (eq_false (Nat.not_lt.2 c10) : (9223372036854775807 < ((⟨#[59, 32]⟩ : ByteArray) ++ ((fD aC xZ).f0)).size + 1) = False); simp only [ByteArray.size_append] at h_; exact h_
    try have YV : (9223372036854775807 < ((⟨#[59, 32]⟩ : ByteArray) ++ ((fD aC xZ).f0)).size + 1) = False := eq_false (Nat.not_lt.2 c10)
    replace H := bd H; obtain ⟨t222, YJ, H⟩ := H; replace H := nn H; obtain ⟨c12, H⟩ := H
    have xw := eq_true c12
    have CP := decide_eq_true c12
    try have aCC : (9223372036854775807 < 2 + ((fD aC xZ).f0).size + 1 + t222.size) = False := by have h_ := (eq_false (Nat.not_lt.2 c12) : (9223372036854775807 < (((⟨#[59, 32]⟩ : ByteArray) ++ ((fD aC xZ).f0)) ++ (⟨#[61]⟩ : ByteArray)).size + t222.size) = False); simp only [ByteArray.size_append] at h_; exact h_
    try have aCD : (9223372036854775807 < (((⟨#[59, 32]⟩ : ByteArray) ++ ((fD aC xZ).f0)) ++ (⟨#[61]⟩ : ByteArray)).size + t222.size) = False := eq_false (Nat.not_lt.2 c12)
    replace H := nn H; obtain ⟨c13, H⟩ := H
    have vS := eq_true c13
    have zB := decide_eq_true c13
    try have aoQ : (9223372036854775807 < dM.size + (2 + ((fD aC xZ).f0).size + 1 + t222.size)) = False := by have h_ := (eq_false (Nat.not_lt.2 c13) : (9223372036854775807 < dM.size + ((((⟨#[59, 32]⟩ : ByteArray) ++ ((fD aC xZ).f0)) ++ (⟨#[61]⟩ : ByteArray)) ++ t222).size) = False); simp only [ByteArray.size_append] at h_; exact h_
    try have aiv : (9223372036854775807 < dM.size + ((((⟨#[59, 32]⟩ : ByteArray) ++ ((fD aC xZ).f0)) ++ (⟨#[61]⟩ : ByteArray)) ++ t222).size) = False := eq_false (Nat.not_lt.2 c13)
    have H' := ak H; clear H
    have anq := zi xZ
    have anr := zj xZ aC.length
    obtain ⟨aCE, e220, aaQ, aaR⟩ := qV jm.out xZ anq anr
    cases e220
    replace aaQ := cl HB.out aaQ
    replace aaR := cl HB.out aaR
    replace anq := eq_true anq
    replace anr := eq_true anr
    try go_wp2_with (refine bY HB 5 #[.string (⟨#[]⟩ : ByteArray), .string (⟨#[]⟩ : ByteArray)] 69 ?_; intro akY Q8 Nl auq hg hb; have RH := AZ BI hg; have abX := A_ BI hg; replace BI := kb BI hb; replace HB := bz HB hb; clear hb hg; have aCF := abX.out; have aCG := RH.out; have z16 := zx Nl.out)
    refine ab2 HB Nl auq ?_
    intro w17 ae5 hk HB
    replace BI := kf BI hk RH
    clear hk Nl
    have Nl := ae5; clear ae5
    refine rO [7] [0, 1, 5, 2, 3, 4, 6, 7, 8, 9, 10] (fun w' => w'.cell? ⟨akY, 0, none⟩ = some (.string ((fD aC xZ).f0)) ∧ w'.cell? ⟨akY, 1, none⟩ = some (.string ((fD aC xZ).f1))) ?_
    intro w18 hb
    replace BI := kb BI hb
    replace Nl := kb Nl hb
    replace HB := bs HB hb
    refine ⟨sx, ?_⟩
    repeat refine y8 ?_
    refine rB Tryz.func166 (iV.calls YJ.out) ?_
    intro Xq hb
    replace BI := kb BI hb
    replace Nl := kb Nl hb
    replace HB := bz HB hb
    clear hb
    refine ⟨sx, ?_⟩
    repeat refine y8 ?_
    refine on ?_
    try go_wp2
    go_roundg k1
    case measure => exact kl
    case rel => exact ⟨_, _, rs, rs, H', ⟨kl⟩, ⟨ub BI.out⟩, ⟨bb⟩⟩
   ·
    obtain rfl := s1 H
    go_wp2
    go_ret
    exact ⟨er, bb⟩
mutual
def bM.j0 : Nat → Bool → ByteArray → ByteArray → List (gY) → Option (Bool)
 | 0, _, _, _, _ => none
 | k + 1, x20, Oy, Oz, BJ => if x20 = true then (some false) else (bM.l0 k BJ (BJ.length : Int) 0 Oy Oz BJ)
def bM.l0 : Nat → List (gY) → Int → Int → ByteArray → ByteArray → List (gY) → Option (Bool)
 | 0, _, _, _, _, _, _ => none
 | k + 1, x22, x23, x24, Oy, Oz, BJ => if x24 < x23 then (if 0 ≤ x24 then (if x24 < (x22.length : Int) then ((gJ.f k ((fD x22 x24).f0)).bind fun t229 => (if t229 = true then ((bC.f k ((fD x22 x24).f1)).bind fun aur => (if aur = true then (if (((fD x22 x24).f1).size : Int) > 40 then (some false) else (if x24 ≤ (BJ.length : Int) then ((lq.f k (BJ.take (x24 : Int).toNat) ((fD x22 x24).f0)).bind fun ahH => (if ahH ≥ 0 then (some false) else (bM.l0 k x22 x23 (wrap64 (x24 + 1)) Oy Oz BJ))) else (none))) else (some false))) else (some false))) else (none)) else (none)) else ((gZ.f k Oy Oz BJ).bind fun t226 => (some (decide ((t226.size : Int) ≤ 150))))
end
def bM.f (k : Nat) (eF : ByteArray) (eP : ByteArray) (aC : List (gY)) : Option (Bool) := (gJ.f k eF).bind fun aus => (if aus = true then ((gJ.f k eP).bind fun aut => (if aut = true then (bM.j0 k (decide ((aC.length : Int) > 4)) eF eP aC) else (bM.j0 k true eF eP aC))) else (bM.j0 k true eF eP aC))
def bM.T6 : Bool × List (List Nat × List Nat) := (true, [([], []), ([0], [0]), ([1], [1]), ([2], [2]), ([3, 2], [3]), ([4], [4]), ([5, 4], [4, 5]), ([6, 4, 4], [4, 6]), ([7, 4], [4, 7]), ([4, 8], [4, 8]), ([9, 7], [9]), ([10], [10]), ([11, 10], [10, 11]), ([12, 10], [10, 12]), ([13, 10], [10, 13]), ([10, 14], [10, 14]), ([15, 10], [15]), ([16], [16]), ([17, 16], [16, 17]), ([16], [16]), ([18, 19, 16], [16, 18, 19]), ([16], [16]), ([21, 16], [16, 21]), ([20, 22, 16, 16], [16, 20, 22]), ([23, 16], [16, 23]), ([16, 24], [16, 24])])
def bM.B6 : List Nat := [0, 1, 3, 7, 15, 31, 63, 127, 255, 511, 1023, 2047, 4095, 8191, 16383, 32767, 65535, 131071, 262143, 131071, 1048575, 131071, 2228223, 8388607, 16777215, 33554431]
theorem bM.tab6 : sJ .any (opsOf Tryz.f95 6) = bM.T6 := by kernel_rfl
theorem bM.aku : nV bM.T6.2 bM.B6 = true := by kernel_rfl
theorem bM.calls {k eY : Nat} {eF eP : ByteArray} {gX : Option Addr} {aC : List (gY)} {r : Bool} {w : World} (jJ : Kd.C qJ w gX aC.length aC) (jK : aC.length ≤ eY) (h : bM.f k eF eP aC = some r) :
  Calls Tryz.prog 95 #[.agg #[.string eF, .string eP, .slice gX aC.length eY]] w fun e w' => e = .returned (.bool r) ∧ Below w.heap.size w w' := by
 have Vu := Tryz.underlying61
 have Dt := Tryz.underlying69
 have jm := ak jJ
 have lJ := ak jK
 clear jJ jK
 have HB := ak (Below.refl w.heap.size w)
 unfold bM.f at h; have H := h
 clear h
 have HC2 := ak H
 clear H
 go_enter Tryz.func95, Tryz.ntmps95
 go_upto_region 1 with (refine gG 1 ?_; refine bX HB 1 #[.string eF, .string eP, .slice gX aC.length eY] 61 ?_; intro Np w3 iy aCH hb; replace HB := bs HB hb; clear hb)
 (try simp only [Act.put, qW, qX, l_c])
 go_cut [20] (fun v20 wc => ∃ (kq : Nat) (ae6 : Bool), v20 = .bool ae6 ∧ ah (bM.j0 kq ae6 eF eP aC = some r) ∧ ah (kq ≤ k) ∧ ah (wc.heap[Np]? = some (.cells #[.string eF, .string eP, (.slice gX aC.length eY)] 61 (0, 0))) ∧ ah (Below w.heap.size w wc))
 case first =>
  have H := HC2.out
  clear HC2
  replace H := bd H; obtain ⟨aus, A4, H⟩ := H; replace H := sb H
  rcases H with ⟨rfl, H⟩ | ⟨rfl, H⟩
  ·
   replace H := bd H; obtain ⟨aut, A6, H⟩ := H; replace H := sb H
   rcases H with ⟨rfl, H⟩ | ⟨rfl, H⟩
   ·
    have H' := ak H; clear H
    have z8 := jW iy.out
    go_wp2_with (first | (refine gB Tryz.func136 (gJ.calls A4.out) ?_; intro w9 hb; replace iy := kb iy hb; replace HB := bz HB hb; clear hb; have z10 := jW iy.out) | (go_at_call 136; refine mB (gJ.calls A6.out) ?_; intro SN hb; replace iy := kb iy hb; replace HB := bz HB hb; clear hb; have z12 := jW iy.out))
    go_meet
    case rel => exact ⟨_, _, rs, H', ⟨KR⟩, ⟨ub iy.out⟩, ⟨bb⟩⟩
   ·
    have H' := ak H; clear H
    have z13 := jW iy.out
    go_wp2_with (first | (refine gB Tryz.func136 (gJ.calls A4.out) ?_; intro Q8 hb; replace iy := kb iy hb; replace HB := bz HB hb; clear hb; have z15 := jW iy.out) | (go_at_call 136; refine mB (gJ.calls A6.out) ?_; intro w16 hb; replace iy := kb iy hb; replace HB := bz HB hb; clear hb))
    go_meet
    case rel => exact ⟨_, _, rs, H', ⟨KR⟩, ⟨ub iy.out⟩, ⟨bb⟩⟩
  ·
   have H' := ak H; clear H
   have z17 := jW iy.out
   go_wp2_with (refine gB Tryz.func136 (gJ.calls A4.out) ?_; intro w18 hb; replace iy := kb iy hb; replace HB := bz HB hb; clear hb)
   go_meet
   case rel => exact ⟨_, _, rs, H', ⟨KR⟩, ⟨ub iy.out⟩, ⟨bb⟩⟩
 case rest =>
  clear HC2
  obtain ⟨kq, ae6, rfl, HA, HJ1, iy, HB⟩ := hcut
  cases kq with
  | zero => exact zz HA.out
  | succ NI =>
   obtain ⟨H⟩ := HA
   simp only [bM.j0] at H
   replace H := sb H
   rcases H with ⟨rfl, H⟩ | ⟨rfl, H⟩
   ·
    obtain rfl := s1 H
    go_wp2
    go_ret
    exact ⟨er, bb⟩
   ·
    have H' := ak H; clear H
    have z20 := jW iy.out
    go_wp2
    go_loopg [24] NI (fun kq v24 w' => ∃ (lW : Int), v24 = .int .i64 lW ∧ ah (bM.l0 kq aC (aC.length : Int) lW eF eP aC = some r) ∧ ah (kq ≤ NI) ∧ ah (w'.heap[Np]? = some (.cells #[.string eF, .string eP, (.slice gX aC.length eY)] 61 (0, 0))) ∧ ah (Below w.heap.size w w'))
    case atStart => exact ⟨_, rs, H', ⟨Nat.le_refl _⟩, ⟨ub iy.out⟩, ⟨bb⟩⟩
    case round =>
     clear H'
     obtain ⟨lW, rfl, HA, HK2, iy, HB⟩ := hrel
     cases gk with
     | zero => exact zz HA.out
     | succ k2 =>
      obtain ⟨H⟩ := HA
      simp only [bM.l0] at H
      replace H := sd H
      rcases H with ⟨Bo, H⟩ | ⟨Bo, H⟩
      ·
       replace H := oM H; obtain ⟨EW, H⟩ := H; replace H := oM H; obtain ⟨Ae, H⟩ := H; replace H := bd H; obtain ⟨t229, XM, H⟩ := H; replace H := sb H
       rcases H with ⟨rfl, H⟩ | ⟨rfl, H⟩
       ·
        replace H := bd H; obtain ⟨aur, A26, H⟩ := H; replace H := sb H
        rcases H with ⟨rfl, H⟩ | ⟨rfl, H⟩
        ·
         replace H := sp H
         rcases H with ⟨c28, H⟩ | ⟨c28, H⟩
         ·
          have EP : decide (40 < (((fD aC lW).f1).size : Int)) = true := decide_eq_true c28
          have YZ : decide (40 < ((fD aC lW).f1).size) = true := decide_eq_true (by omega)
          clear c28
          obtain rfl := s1 H
          have DT := zi lW
          have DU := zj lW aC.length
          obtain ⟨Hf, e227, uJ, uK⟩ := qV jm.out lW DT DU
          cases e227
          replace uJ := cl HB.out uJ
          replace uK := cl HB.out uK
          replace DT := eq_true DT
          replace DU := eq_true DU
          try go_wp2_with (refine gG 4 ?_; refine bY HB 4 #[.string (⟨#[]⟩ : ByteArray), .string (⟨#[]⟩ : ByteArray)] 69 ?_; intro BK w29 lH JU hg hb; have pR := AZ iy hg; have vN := A_ iy hg; replace iy := kb iy hb; replace HB := bz HB hb; clear hb hg; have aCI := vN.out; have aCJ := pR.out; have z31 := zx lH.out)
          refine ab2 HB lH JU ?_
          intro w32 xM hk HB
          replace iy := kf iy hk pR
          clear hk lH
          have lH := xM; clear xM
          refine rO [2, 7] [0, 1, 2, 3, 4, 5, 6, 7, 8, 9, 10, 11, 12, 13, 14, 15, 16, 17, 18, 19, 20, 21, 22, 23, 24, 25] (fun w' => w'.cell? ⟨BK, 0, none⟩ = some (.string ((fD aC lW).f0)) ∧ w'.cell? ⟨BK, 1, none⟩ = some (.string ((fD aC lW).f1))) ?_
          intro w33 hb
          replace iy := kb iy hb
          replace lH := kb lH hb
          replace HB := bs HB hb
          refine ⟨sx, ?_⟩
          repeat (first | refine y8 ?_ | refine Tm ?_)
          refine rB Tryz.func136 (gJ.calls XM.out) ?_
          intro w34 hb
          replace iy := kb iy hb
          replace lH := kb lH hb
          replace HB := bz HB hb
          clear hb
          refine ⟨sx, ?_⟩
          repeat (first | refine y8 ?_ | refine Tm ?_)
          refine rA Tryz.func89 (bC.calls A26.out) ?_
          intro nd
          refine ⟨sx, ?_⟩
          repeat (first | refine y8 ?_ | refine Tm ?_)
          refine on ?_
          try go_wp2
          go_ret
          exact ⟨er, bb⟩
         ·
          have EP : decide (40 < (((fD aC lW).f1).size : Int)) = false := decide_eq_false c28
          have YZ : decide (40 < ((fD aC lW).f1).size) = false := decide_eq_false (by omega)
          clear c28
          have ac8 := eq_true (of_decide_eq_true (by assumption) : 0 ≤ lW)
          replace H := zK H; obtain ⟨ajh, auu, H⟩ := H
          obtain ⟨ahI, V8⟩ := nm (aC.take (lW : Int).toNat)
          rw [← V8.out] at H
          replace H := bd H; obtain ⟨ahH, A37, H⟩ := H; replace H := sp H
          rcases H with ⟨WX, H⟩ | ⟨WX, H⟩
          ·
           have aaf : decide (0 ≤ ahH) = true := decide_eq_true WX
           clear WX
           obtain rfl := s1 H
           have DT := zi lW
           have DU := zj lW aC.length
           obtain ⟨Hf, e227, uJ, uK⟩ := qV jm.out lW DT DU
           cases e227
           replace uJ := cl HB.out uJ
           replace uK := cl HB.out uK
           replace DT := eq_true DT
           replace DU := eq_true DU
           try go_wp2_with (refine gG 4 ?_; refine bY HB 4 #[.string (⟨#[]⟩ : ByteArray), .string (⟨#[]⟩ : ByteArray)] 69 ?_; intro BK w39 lH JU hg hb; have pR := AZ iy hg; have vN := A_ iy hg; replace iy := kb iy hb; replace HB := bz HB hb; clear hb hg; have akp := vN.out; have akq := pR.out; have z41 := zx lH.out)
           refine ab2 HB lH JU ?_
           intro w42 xM hk HB
           replace iy := kf iy hk pR
           clear hk lH
           have lH := xM; clear xM
           refine rO [2, 7, 23] [0, 1, 2, 3, 4, 5, 6, 7, 8, 9, 10, 11, 12, 13, 14, 15, 16, 17, 19, 21, 18, 20, 22, 23, 24, 25] (fun w' => w'.cell? ⟨BK, 0, none⟩ = some (.string ((fD aC lW).f0)) ∧ w'.cell? ⟨BK, 1, none⟩ = some (.string ((fD aC lW).f1)) ∧ w'.cell? ⟨Np, 0, none⟩ = some (.string eF) ∧ w'.cell? ⟨Np, 1, none⟩ = some (.string eP) ∧ w'.cell? ⟨Np, 2, none⟩ = some (.slice (some Hf) aC.length eY)) ?_
           intro w43 hb
           replace iy := kb iy hb
           replace lH := kb lH hb
           replace HB := bs HB hb
           refine ⟨sx, ?_⟩
           repeat refine y8 ?_
           refine rB Tryz.func136 (gJ.calls XM.out) ?_
           intro w44 hb
           replace iy := kb iy hb
           replace lH := kb lH hb
           replace HB := bz HB hb
           clear hb
           refine ⟨sx, ?_⟩
           repeat refine y8 ?_
           refine rA Tryz.func89 (bC.calls A26.out) ?_
           intro nd
           have q45 : (lW : Int) ≤ ((aC.length : Int) : Int) := of_decide_eq_true (by assumption)
           obtain ⟨aH1, akZ, _, auv, _⟩ := info_parts Cc
           have aaS : aC.length ≤ eY := lJ.out
           have auw : Kd.C qJ _ (some Hf) aC.length aC := jm.out
           have ant := TD (P := Tryz.prog) 25 69 .i64 Tryz.underlying25 akZ (some Hf) aC.length eY lW (of_decide_eq_true (by assumption)) q45 aaS
           have anu := Kd.TF (m := (lW : Int).toNat) auw (by omega)
           have anv : ahI.length = (lW : Int).toNat := (by rw [V8.out, List.length_take]; omega)
           rw [← V8.out] at anu
           rw [← anv] at ant
           have ae7 := ak anu
           have ae8 := ak (show ahI.length ≤ eY from by omega)
           clear anu auw aaS akZ auv
           have aH2 := ak anv
           clear anv
           replace q45 := eq_true q45
           refine ⟨sx, ?_⟩
           repeat refine y8 ?_
           refine rB Tryz.func88 (lq.calls (cu (Kd.aW ae7.out bb)) ae8.out A37.out) ?_
           intro w46 hb
           replace iy := kb iy hb
           replace lH := kb lH hb
           replace HB := bz HB hb
           clear hb
           refine ⟨sx, ?_⟩
           repeat refine y8 ?_
           refine on ?_
           try go_wp2
           go_ret
           exact ⟨er, bb⟩
          ·
           have aaf : decide (0 ≤ ahH) = false := decide_eq_false WX
           clear WX
           have H' := ak H; clear H
           have DT := zi lW
           have DU := zj lW aC.length
           obtain ⟨Hf, e227, uJ, uK⟩ := qV jm.out lW DT DU
           cases e227
           replace uJ := cl HB.out uJ
           replace uK := cl HB.out uK
           replace DT := eq_true DT
           replace DU := eq_true DU
           try go_wp2_with (refine gG 4 ?_; refine bY HB 4 #[.string (⟨#[]⟩ : ByteArray), .string (⟨#[]⟩ : ByteArray)] 69 ?_; intro BK w47 lH JU hg hb; have pR := AZ iy hg; have vN := A_ iy hg; replace iy := kb iy hb; replace HB := bz HB hb; clear hb hg; have aiX := vN.out; have aiY := pR.out; have z49 := zx lH.out)
           refine ab2 HB lH JU ?_
           intro w50 xM hk HB
           replace iy := kf iy hk pR
           clear hk lH
           have lH := xM; clear xM
           refine rO [2, 7, 23] [0, 1, 2, 3, 4, 5, 6, 7, 8, 9, 10, 11, 12, 13, 14, 15, 16, 17, 19, 21, 18, 20, 22, 23, 24, 25] (fun w' => w'.cell? ⟨BK, 0, none⟩ = some (.string ((fD aC lW).f0)) ∧ w'.cell? ⟨BK, 1, none⟩ = some (.string ((fD aC lW).f1)) ∧ w'.cell? ⟨Np, 0, none⟩ = some (.string eF) ∧ w'.cell? ⟨Np, 1, none⟩ = some (.string eP) ∧ w'.cell? ⟨Np, 2, none⟩ = some (.slice (some Hf) aC.length eY)) ?_
           intro w51 hb
           replace iy := kb iy hb
           replace lH := kb lH hb
           replace HB := bs HB hb
           refine ⟨sx, ?_⟩
           repeat refine y8 ?_
           refine rB Tryz.func136 (gJ.calls XM.out) ?_
           intro w52 hb
           replace iy := kb iy hb
           replace lH := kb lH hb
           replace HB := bz HB hb
           clear hb
           refine ⟨sx, ?_⟩
           repeat refine y8 ?_
           refine rA Tryz.func89 (bC.calls A26.out) ?_
           intro nd
           have q53 : (lW : Int) ≤ ((aC.length : Int) : Int) := of_decide_eq_true (by assumption)
           obtain ⟨aH3, ak0, _, auy, _⟩ := info_parts Cc
           have aaT : aC.length ≤ eY := lJ.out
           have auz : Kd.C qJ _ (some Hf) aC.length aC := jm.out
           have anw := TD (P := Tryz.prog) 25 69 .i64 Tryz.underlying25 ak0 (some Hf) aC.length eY lW (of_decide_eq_true (by assumption)) q53 aaT
           have anx := Kd.TF (m := (lW : Int).toNat) auz (by omega)
           have anz : ahI.length = (lW : Int).toNat := (by rw [V8.out, List.length_take]; omega)
           rw [← V8.out] at anx
           rw [← anz] at anw
           have ae7 := ak anx
           have ae8 := ak (show ahI.length ≤ eY from by omega)
           clear anx auz aaT ak0 auy
           have aH4 := ak anz
           clear anz
           replace q53 := eq_true q53
           refine ⟨sx, ?_⟩
           repeat refine y8 ?_
           refine rB Tryz.func88 (lq.calls (cu (Kd.aW ae7.out bb)) ae8.out A37.out) ?_
           intro w54 hb
           replace iy := kb iy hb
           replace lH := kb lH hb
           replace HB := bz HB hb
           clear hb
           refine ⟨sx, ?_⟩
           repeat refine y8 ?_
           refine on ?_
           try go_wp2
           go_roundg k2
           case measure => exact kl
           case rel => exact ⟨_, rs, H', ⟨kl⟩, ⟨ub iy.out⟩, ⟨bb⟩⟩
        ·
         obtain rfl := s1 H
         have DT := zi lW
         have DU := zj lW aC.length
         obtain ⟨Hf, e227, uJ, uK⟩ := qV jm.out lW DT DU
         cases e227
         replace uJ := cl HB.out uJ
         replace uK := cl HB.out uK
         replace DT := eq_true DT
         replace DU := eq_true DU
         try go_wp2_with (refine gG 4 ?_; refine bY HB 4 #[.string (⟨#[]⟩ : ByteArray), .string (⟨#[]⟩ : ByteArray)] 69 ?_; intro BK w55 lH JU hg hb; have pR := AZ iy hg; have vN := A_ iy hg; replace iy := kb iy hb; replace HB := bz HB hb; clear hb hg; have asw := vN.out; have asx := pR.out; have z57 := zx lH.out)
         refine ab2 HB lH JU ?_
         intro w58 xM hk HB
         replace iy := kf iy hk pR
         clear hk lH
         have lH := xM; clear xM
         refine rO [2, 7] [0, 1, 2, 3, 4, 5, 6, 7, 8, 9, 10, 11, 12, 13, 14, 15, 16, 17, 18, 19, 20, 21, 22, 23, 24, 25] (fun w' => w'.cell? ⟨BK, 0, none⟩ = some (.string ((fD aC lW).f0)) ∧ w'.cell? ⟨BK, 1, none⟩ = some (.string ((fD aC lW).f1))) ?_
         intro w59 hb
         replace iy := kb iy hb
         replace lH := kb lH hb
         replace HB := bs HB hb
         refine ⟨sx, ?_⟩
         repeat (first | refine y8 ?_ | refine Tm ?_)
         refine rB Tryz.func136 (gJ.calls XM.out) ?_
         intro Q_ hb
         replace iy := kb iy hb
         replace lH := kb lH hb
         replace HB := bz HB hb
         clear hb
         refine ⟨sx, ?_⟩
         repeat (first | refine y8 ?_ | refine Tm ?_)
         refine rA Tryz.func89 (bC.calls A26.out) ?_
         intro nd
         refine ⟨sx, ?_⟩
         repeat (first | refine y8 ?_ | refine Tm ?_)
         refine on ?_
         try go_wp2
         go_ret
         exact ⟨er, bb⟩
       ·
        obtain rfl := s1 H
        have DT := zi lW
        have DU := zj lW aC.length
        obtain ⟨Hf, e227, uJ, uK⟩ := qV jm.out lW DT DU
        cases e227
        replace uJ := cl HB.out uJ
        replace uK := cl HB.out uK
        replace DT := eq_true DT
        replace DU := eq_true DU
        try go_wp2_with (refine gG 4 ?_; refine bY HB 4 #[.string (⟨#[]⟩ : ByteArray), .string (⟨#[]⟩ : ByteArray)] 69 ?_; intro BK w61 lH JU hg hb; have pR := AZ iy hg; have vN := A_ iy hg; replace iy := kb iy hb; replace HB := bz HB hb; clear hb hg; have aCK := vN.out; have aCL := pR.out; have z63 := zx lH.out)
        refine ab2 HB lH JU ?_
        intro w64 xM hk HB
        replace iy := kf iy hk pR
        clear hk lH
        have lH := xM; clear xM
        refine rO [2] [0, 1, 2, 3, 4, 5, 6, 7, 8, 9, 10, 11, 12, 13, 14, 15, 16, 17, 18, 19, 20, 21, 22, 23, 24, 25] (fun w' => w'.cell? ⟨BK, 0, none⟩ = some (.string ((fD aC lW).f0)) ∧ w'.cell? ⟨BK, 1, none⟩ = some (.string ((fD aC lW).f1))) ?_
        intro w65 hb
        replace iy := kb iy hb
        replace lH := kb lH hb
        replace HB := bs HB hb
        refine ⟨sx, ?_⟩
        repeat (first | refine y8 ?_ | refine Tm ?_)
        refine rB Tryz.func136 (gJ.calls XM.out) ?_
        intro w66 hb
        replace iy := kb iy hb
        replace lH := kb lH hb
        replace HB := bz HB hb
        clear hb
        refine ⟨sx, ?_⟩
        repeat (first | refine y8 ?_ | refine Tm ?_)
        refine on ?_
        try go_wp2
        go_ret
        exact ⟨er, bb⟩
      ·
       replace H := bd H; obtain ⟨t226, A67, H⟩ := H
       obtain rfl := s1 H
       have z68 := jW iy.out
       go_wp2_with (refine gB Tryz.func137 (gZ.calls (cu (Kd.aW jm.out HB.out)) lJ.out A67.out) ?_; intro w69 hb; replace iy := kb iy hb; replace HB := bz HB hb; clear hb)
       go_ret
       exact ⟨er, bb⟩
end Go.Proofs.YtncdadcmghglkaaGreatDoor.PFnCountParts
