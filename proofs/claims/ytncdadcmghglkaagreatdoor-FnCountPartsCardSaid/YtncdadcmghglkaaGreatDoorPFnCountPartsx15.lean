/- Printed walks; conditions: those in each statement. -/
import Derived.Test.YtncdadcmghglkaaGreatDoorVFnCountPartsQt
import Derived.Test.YtncdadcmghglkaaGreatDoorVFnCountPartsYt
import Derived.Test.YtncdadcmghglkaaGreatDoorPFnCountPartsx0
import Derived.Test.YtncdadcmghglkaaGreatDoorPFnCountPartsx11
import Derived.Test.YtncdadcmghglkaaGreatDoorPFnCountPartsx13
-- short
-- dense
-- sq
-- sq2
namespace Go.Proofs.YtncdadcmghglkaaGreatDoor.PFnCountParts
open Go.RowKit Go.Proofs.YtncdadcmghglkaaGreatDoor.X Go.Proofs.YtncdadcmghglkaaGreatDoorW.bI Go.Proofs.YtncdadcmghglkaaGreatDoorW.gI Go.Proofs.YtncdadcmghglkaaGreatDoorW.iL
attribute [local go_sem] kN kP mF mG jB jC kQ kR   -- for this text's walks alone
set_option linter.unusedVariables false
set_option maxHeartbeats 8000000
set_option maxRecDepth 100000
set_option linter.unusedSimpArgs false
def jY.l0 : Nat → ByteArray → ByteArray → Int → Option (ByteArray)
 | 0, _, _, _ => none
 | k + 1, x0, x3, x4 => if x4 < (x0.size : Int) then (if 0 ≤ x4 then (if (bt x0 x4) = 34 then ((some (([92] : List Int) : List Int)).bind fun TA => (if x3.size + (strOfNums TA).size ≤ 9223372036854775807 then (if x4 ≤ (wrap64 (x4 + 1)) then (if (wrap64 (x4 + 1)) ≤ (x0.size : Int) then (if (x3 ++ (strOfNums TA)).size + (x0.extract (x4 : Int).toNat ((wrap64 (x4 + 1)) : Int).toNat).size ≤ 9223372036854775807 then (jY.l0 k x0 ((x3 ++ (strOfNums TA)) ++ (x0.extract (x4 : Int).toNat ((wrap64 (x4 + 1)) : Int).toNat)) (wrap64 (x4 + 1))) else (none)) else (none)) else (none)) else (none))) else (if (bt x0 x4) = 92 then ((some (([92] : List Int) : List Int)).bind fun TB => (if x3.size + (strOfNums TB).size ≤ 9223372036854775807 then (if x4 ≤ (wrap64 (x4 + 1)) then (if (wrap64 (x4 + 1)) ≤ (x0.size : Int) then (if (x3 ++ (strOfNums TB)).size + (x0.extract (x4 : Int).toNat ((wrap64 (x4 + 1)) : Int).toNat).size ≤ 9223372036854775807 then (jY.l0 k x0 ((x3 ++ (strOfNums TB)) ++ (x0.extract (x4 : Int).toNat ((wrap64 (x4 + 1)) : Int).toNat)) (wrap64 (x4 + 1))) else (none)) else (none)) else (none)) else (none))) else (if x4 ≤ (wrap64 (x4 + 1)) then (if (wrap64 (x4 + 1)) ≤ (x0.size : Int) then (if x3.size + (x0.extract (x4 : Int).toNat ((wrap64 (x4 + 1)) : Int).toNat).size ≤ 9223372036854775807 then (jY.l0 k x0 (x3 ++ (x0.extract (x4 : Int).toNat ((wrap64 (x4 + 1)) : Int).toNat)) (wrap64 (x4 + 1))) else (none)) else (none)) else (none)))) else (none)) else (if x3.size + 1 ≤ 9223372036854775807 then (some (x3 ++ (⟨#[34]⟩ : ByteArray))) else (none))
def jY.f (k : Nat) (a0 : ByteArray) : Option (ByteArray) := jY.l0 k a0 (⟨#[34]⟩ : ByteArray) 0
theorem jY.calls {k : Nat} {a0 r : ByteArray} {w : World} (h : jY.f k a0 = some r) :
  Calls Tryz.prog 215 #[.string a0] w fun e w' => e = .returned (.string r) ∧ Below w.heap.size w w' := by
 have HB := ak (Below.refl w.heap.size w)
 unfold jY.f at h; have H := h
 clear h
 have H' := ak H; clear H
 go_enter Tryz.func215, Tryz.ntmps215
 go_wp2
 go_loopg [3, 4] k (fun kq v3 v4 w' => ∃ (dM : ByteArray) (dW : Int), v3 = .string dM ∧ v4 = .int .i64 dW ∧ ah (jY.l0 kq a0 dM dW = some r) ∧ ah (kq ≤ k) ∧ ah (Below w.heap.size w w'))
 case atStart => exact ⟨_, _, rs, rs, H', ⟨Nat.le_refl _⟩, ⟨ul HB.out⟩⟩
 case round =>
  clear H'
  obtain ⟨dM, dW, rfl, rfl, HA, xu, HB⟩ := hrel
  cases gk with
  | zero => exact zz HA.out
  | succ k1 =>
   obtain ⟨H⟩ := HA
   simp only [jY.l0] at H
   replace H := sd H
   rcases H with ⟨oI, H⟩ | ⟨oI, H⟩
   ·
    replace H := oM H; obtain ⟨iQ, H⟩ := H; replace H := sq H
    rcases H with ⟨nR, Ji, H⟩ | ⟨c5, nR, Ji, H⟩
    ·
     replace H := ny H
     obtain ⟨TA, apq, H⟩ := H
     replace H := nn H; obtain ⟨c6, H⟩ := H
     have nT := eq_true c6
     have wF := decide_eq_true c6
     try have agm : (9223372036854775807 < dM.size + (strOfNums TA).size) = False := eq_false (Nat.not_lt.2 c6)
     have rY := eq_true (of_decide_eq_true (by assumption) : 0 ≤ dW)
     replace H := nn H; obtain ⟨c8, H⟩ := H
     have sH := eq_true c8
     have Ba := decide_eq_true c8
     replace H := nn H; obtain ⟨c9, H⟩ := H
     have xU := eq_true c9
     have EX := decide_eq_true c9
     replace H := nn H; obtain ⟨c10, H⟩ := H
     have oC := eq_true c10
     have sK := decide_eq_true c10
     try have apr : (9223372036854775807 < dM.size + (strOfNums TA).size + ((a0.extract (dW : Int).toNat ((wrap64 (dW + 1)) : Int).toNat).size)) = False := by have h_ := c10; simp only [ByteArray.size_append, ByteArray.size_extract] at h_; refine eq_false ?_; simp only [decide_eq_true_eq] at *; omega
     try have aiP : (9223372036854775807 < dM.size + (strOfNums TA).size + ((a0.extract (dW : Int).toNat ((wrap64 (dW + 1)) : Int).toNat).size)) = False := by have h_ := (eq_false (Nat.not_lt.2 c10) : (9223372036854775807 < (dM ++ (strOfNums TA)).size + (a0.extract (dW : Int).toNat ((wrap64 (dW + 1)) : Int).toNat).size) = False); simp only [ByteArray.size_append] at h_; exact h_
     try have YV : (9223372036854775807 < (dM ++ (strOfNums TA)).size + (a0.extract (dW : Int).toNat ((wrap64 (dW + 1)) : Int).toNat).size) = False := eq_false (Nat.not_lt.2 c10)
     have H' := ak H; clear H
     obtain ⟨p4, q4, hx4⟩ := bx a0 dW
     go_wp2_with (refine QC 22 (Kd.int .u8) 5 [.int .u8 92] apq (dD.one (show Kd.M (Kd.int .u8) _ _ _ 92 [.int .u8 92] from rfl) (dD.none _ _)) ?_; intro aDL SN ac9 hb; have aps := ak (Kd.aA ac9 (aj (ul HB.out))); replace HB := bs HB hb; clear hb ac9; have aAx := qK (P := Tryz.prog) Tryz.underlying22 Tryz.underlying5 Tryz.underlying9 (Kd.uX aps.out))
     go_roundg k1
     case measure => exact kl
     case rel => exact ⟨_, _, rs, rs, H', ⟨kl⟩, ⟨ul HB.out⟩⟩
    ·
     replace H := sq H
     rcases H with ⟨vT, ES, H⟩ | ⟨c15, vT, ES, H⟩
     ·
      replace H := ny H
      obtain ⟨TB, apt, H⟩ := H
      replace H := nn H; obtain ⟨c16, H⟩ := H
      have zD := eq_true c16
      have Jd := decide_eq_true c16
      try have aAy : (9223372036854775807 < dM.size + (strOfNums TB).size) = False := eq_false (Nat.not_lt.2 c16)
      have tq := eq_true (of_decide_eq_true (by assumption) : 0 ≤ dW)
      replace H := nn H; obtain ⟨c18, H⟩ := H
      have zC := eq_true c18
      have OT := decide_eq_true c18
      replace H := nn H; obtain ⟨c19, H⟩ := H
      have z_ := eq_true c19
      have Ea := decide_eq_true c19
      replace H := nn H; obtain ⟨c20, H⟩ := H
      have MP := eq_true c20
      have Vm := decide_eq_true c20
      try have aAz : (9223372036854775807 < dM.size + (strOfNums TB).size + ((a0.extract (dW : Int).toNat ((wrap64 (dW + 1)) : Int).toNat).size)) = False := by have h_ := c20; simp only [ByteArray.size_append, ByteArray.size_extract] at h_; refine eq_false ?_; simp only [decide_eq_true_eq] at *; omega
      try have aAA : (9223372036854775807 < dM.size + (strOfNums TB).size + ((a0.extract (dW : Int).toNat ((wrap64 (dW + 1)) : Int).toNat).size)) = False := by have h_ := (eq_false (Nat.not_lt.2 c20) : (9223372036854775807 < (dM ++ (strOfNums TB)).size + (a0.extract (dW : Int).toNat ((wrap64 (dW + 1)) : Int).toNat).size) = False); simp only [ByteArray.size_append] at h_; exact h_
      try have aAB : (9223372036854775807 < (dM ++ (strOfNums TB)).size + (a0.extract (dW : Int).toNat ((wrap64 (dW + 1)) : Int).toNat).size) = False := eq_false (Nat.not_lt.2 c20)
      have H' := ak H; clear H
      obtain ⟨p4, q4, hx4⟩ := bx a0 dW
      obtain ⟨p14, q14, alL⟩ := bx a0 dW
      go_wp2_with (refine QC 22 (Kd.int .u8) 5 [.int .u8 92] apt (dD.one (show Kd.M (Kd.int .u8) _ _ _ 92 [.int .u8 92] from rfl) (dD.none _ _)) ?_; intro aDM w21 apu hb; have apv := ak (Kd.aA apu (aj (ul HB.out))); replace HB := bs HB hb; clear hb apu; have aAC := qK (P := Tryz.prog) Tryz.underlying22 Tryz.underlying5 Tryz.underlying9 (Kd.uX apv.out))
      go_roundg k1
      case measure => exact kl
      case rel => exact ⟨_, _, rs, rs, H', ⟨kl⟩, ⟨ul HB.out⟩⟩
     ·
      have OV := eq_true (of_decide_eq_true (by assumption) : 0 ≤ dW)
      replace H := nn H; obtain ⟨c25, H⟩ := H
      have OW := eq_true c25
      have ac_ := decide_eq_true c25
      replace H := nn H; obtain ⟨c26, H⟩ := H
      have MK := eq_true c26
      have YW := decide_eq_true c26
      replace H := nn H; obtain ⟨c27, H⟩ := H
      have EO := eq_true c27
      have YX := decide_eq_true c27
      try have aAD : (9223372036854775807 < dM.size + ((a0.extract (dW : Int).toNat ((wrap64 (dW + 1)) : Int).toNat).size)) = False := by have h_ := c27; simp only [ByteArray.size_append, ByteArray.size_extract] at h_; refine eq_false ?_; simp only [decide_eq_true_eq] at *; omega
      try have aAE : (9223372036854775807 < dM.size + (a0.extract (dW : Int).toNat ((wrap64 (dW + 1)) : Int).toNat).size) = False := eq_false (Nat.not_lt.2 c27)
      have H' := ak H; clear H
      obtain ⟨p4, q4, hx4⟩ := bx a0 dW
      obtain ⟨p14, q14, alL⟩ := bx a0 dW
      go_wp2
      go_roundg k1
      case measure => exact kl
      case rel => exact ⟨_, _, rs, rs, H', ⟨kl⟩, ⟨ul HB.out⟩⟩
   ·
    replace H := nn H; obtain ⟨c28, H⟩ := H
    have EP := eq_true c28
    have YZ := decide_eq_true c28
    try have aAF : (9223372036854775807 < dM.size + 1) = False := eq_false (Nat.not_lt.2 c28)
    obtain rfl := s1 H
    go_wp2
    go_ret
    exact ⟨er, ul HB.out⟩
def qL.f (k : Nat) (a0 : ByteArray) : Option (ByteArray) := (aQ.f k a0).bind fun apw => (if apw = true then ((dY.f k a0).bind fun apx => (if apx = true then (some a0) else ((jY.f k a0).bind fun apy => (some apy)))) else (some (⟨#[]⟩ : ByteArray)))
theorem qL.calls {k : Nat} {a0 r : ByteArray} {w : World} (h : qL.f k a0 = some r) :
  Calls Tryz.prog 202 #[.string a0] w fun e w' => e = .returned (.string r) ∧ Below w.heap.size w w' := by
 have HB := ak (Below.refl w.heap.size w)
 unfold qL.f at h; have H := h
 clear h
 replace H := bd H; obtain ⟨apw, A2, H⟩ := H; replace H := sb H
 rcases H with ⟨rfl, H⟩ | ⟨rfl, H⟩
 ·
  replace H := bd H; obtain ⟨apx, A4, H⟩ := H; replace H := sb H
  rcases H with ⟨rfl, H⟩ | ⟨rfl, H⟩
  ·
   obtain rfl := s1 H
   go_enter Tryz.func202, Tryz.ntmps202
   go_wp2_with (first | (refine gA Tryz.func159 (aQ.calls A2.out) ?_; intro nd) | (refine gA Tryz.func214 (dY.calls A4.out) ?_; intro nd))
   go_ret
   exact ⟨er, ul HB.out⟩
  ·
   replace H := bd H; obtain ⟨apy, A6, H⟩ := H
   obtain rfl := s1 H
   go_enter Tryz.func202, Tryz.ntmps202
   go_wp2_with (first | (refine gA Tryz.func159 (aQ.calls A2.out) ?_; intro nd) | (refine gA Tryz.func214 (dY.calls A4.out) ?_; intro nd) | (refine gB Tryz.func215 (jY.calls A6.out) ?_; intro w7 hb; replace HB := bs HB hb; clear hb))
   go_ret
   exact ⟨er, ul HB.out⟩
 ·
  obtain rfl := s1 H
  go_enter Tryz.func202, Tryz.ntmps202
  go_wp2_with (refine gA Tryz.func159 (aQ.calls A2.out) ?_; intro nd)
  go_ret
  exact ⟨er, ul HB.out⟩
mutual
def aY.j0 : Nat → Bool → ByteArray → ByteArray → List (gY) → Option (Bool)
 | 0, _, _, _, _ => none
 | k + 1, x21, Og, Oh, xB => if x21 = true then (some false) else (aY.l0 k (wrap64 ((wrap64 ((Og.size : Int) + (Oh.size : Int))) + 1)) 0 Og Oh xB)
def aY.l0 : Nat → Int → Int → ByteArray → ByteArray → List (gY) → Option (Bool)
 | 0, _, _, _, _, _ => none
 | k + 1, x3, x4, Og, Oh, xB => if x4 < (xB.length : Int) then (if 0 ≤ x4 then ((kS.f k ((fD xB x4).f0)).bind fun apz => (if apz = true then ((rJ.f k ((fD xB x4).f1)).bind fun apA => (if apA = true then (if x4 ≤ (xB.length : Int) then ((jO.f k (xB.take (x4 : Int).toNat) ((fD xB x4).f0)).bind fun agn => (if agn ≥ 0 then (some false) else ((qL.f k ((fD xB x4).f1)).bind fun apB => (aY.l0 k (wrap64 ((wrap64 ((wrap64 (x3 + 3)) + (((fD xB x4).f0).size : Int))) + (apB.size : Int))) (wrap64 (x4 + 1)) Og Oh xB)))) else (none)) else (some false))) else (some false))) else (none)) else (some (decide (x3 ≤ 150)))
end
def aY.f (k : Nat) (eF : ByteArray) (eP : ByteArray) (aC : List (gY)) : Option (Bool) := (kS.f k eF).bind fun apC => (if apC = true then ((kS.f k eP).bind fun apD => (if apD = true then (aY.j0 k (decide ((aC.length : Int) > 4)) eF eP aC) else (aY.j0 k true eF eP aC))) else (aY.j0 k true eF eP aC))
def aY.T8 : Bool × List (List Nat × List Nat) := (true, [([], []), ([0], [0]), ([1], [1]), ([2], [2]), ([3, 2], [3]), ([4], [4]), ([5, 4], [4, 5]), ([6, 4, 4], [4, 6]), ([7, 4], [4, 7]), ([4, 8], [4, 8]), ([9, 7], [9]), ([10], [10]), ([11, 10], [10, 11]), ([10], [10]), ([12, 13, 10], [10, 12, 13]), ([10], [10]), ([15, 10], [10, 15]), ([14, 16, 10, 10], [10, 14, 16]), ([17, 10], [10, 17]), ([10, 18], [10, 18])])
def aY.B8 : List Nat := [0, 1, 3, 7, 15, 31, 63, 127, 255, 511, 1023, 2047, 4095, 2047, 16383, 2047, 34815, 131071, 262143, 524287]
theorem aY.abC : sJ .any (opsOf Tryz.f182 8) = aY.T8 := by kernel_rfl
theorem aY.Rj : nV aY.T8.2 aY.B8 = true := by kernel_rfl
def aY.T10 : Bool × List (List Nat × List Nat) := (true, [([], []), ([0], [0]), ([], []), ([2], [2]), ([3], [3]), ([1, 4], [1, 4]), ([], []), ([6], [6]), ([7], [7]), ([8], [8]), ([5, 9], [5, 9]), ([10, 8, 0, 1, 2, 3, 4, 5, 6, 7, 8, 9, 10], [0, 10])])
def aY.B10 : List Nat := [0, 1, 0, 4, 12, 31, 0, 64, 192, 448, 1023, 2047]
theorem aY.aAG : sJ .any (opsOf Tryz.f182 10) = aY.T10 := by kernel_rfl
theorem aY.aw9 : nV aY.T10.2 aY.B10 = true := by kernel_rfl
theorem aY.calls {k eY : Nat} {eF eP : ByteArray} {gX : Option Addr} {aC : List (gY)} {r : Bool} {w : World} (jJ : Kd.C qJ w gX aC.length aC) (jK : aC.length ≤ eY) (h : aY.f k eF eP aC = some r) :
  Calls Tryz.prog 182 #[.agg #[.string eF, .string eP, .slice gX aC.length eY]] w fun e w' => e = .returned (.bool r) ∧ Below w.heap.size w w' := by
 have Vu := Tryz.underlying61
 have Dt := Tryz.underlying69
 have jm := ak jJ
 have lJ := ak jK
 clear jJ jK
 have HB := ak (Below.refl w.heap.size w)
 unfold aY.f at h; have H := h
 clear h
 have HC2 := ak H
 clear H
 go_enter Tryz.func182, Tryz.ntmps182
 go_upto_region 1 with (refine gG 1 ?_; refine bX HB 1 #[.string eF, .string eP, .slice gX aC.length eY] 61 ?_; intro MQ w3 iI aAH hb; replace HB := bs HB hb; clear hb)
 (try simp only [Act.put, qW, qX, l_c])
 go_cut [21] (fun v21 wc => ∃ (kq : Nat) (ada : Bool), v21 = .bool ada ∧ ah (aY.j0 kq ada eF eP aC = some r) ∧ ah (kq ≤ k) ∧ ah (wc.heap[MQ]? = some (.cells #[.string eF, .string eP, (.slice gX aC.length eY)] 61 (0, 0))) ∧ ah (Below w.heap.size w wc))
 case first =>
  have H := HC2.out
  clear HC2
  replace H := bd H; obtain ⟨apC, A4, H⟩ := H; replace H := sb H
  rcases H with ⟨rfl, H⟩ | ⟨rfl, H⟩
  ·
   replace H := bd H; obtain ⟨apD, A6, H⟩ := H; replace H := sb H
   rcases H with ⟨rfl, H⟩ | ⟨rfl, H⟩
   ·
    have H' := ak H; clear H
    have z8 := jW iI.out
    go_wp2_with (first | (refine gB Tryz.func200 (kS.calls A4.out) ?_; intro w9 hb; replace iI := kb iI hb; replace HB := bz HB hb; clear hb; have z10 := jW iI.out) | (go_at_call 200; refine mB (kS.calls A6.out) ?_; intro SN hb; replace iI := kb iI hb; replace HB := bz HB hb; clear hb; have z12 := jW iI.out))
    go_meet
    case rel => exact ⟨_, _, rs, H', ⟨KR⟩, ⟨ub iI.out⟩, ⟨bb⟩⟩
   ·
    have H' := ak H; clear H
    have z13 := jW iI.out
    go_wp2_with (first | (refine gB Tryz.func200 (kS.calls A4.out) ?_; intro Q8 hb; replace iI := kb iI hb; replace HB := bz HB hb; clear hb; have z15 := jW iI.out) | (go_at_call 200; refine mB (kS.calls A6.out) ?_; intro w16 hb; replace iI := kb iI hb; replace HB := bz HB hb; clear hb))
    go_meet
    case rel => exact ⟨_, _, rs, H', ⟨KR⟩, ⟨ub iI.out⟩, ⟨bb⟩⟩
  ·
   have H' := ak H; clear H
   have z17 := jW iI.out
   go_wp2_with (refine gB Tryz.func200 (kS.calls A4.out) ?_; intro w18 hb; replace iI := kb iI hb; replace HB := bz HB hb; clear hb)
   go_meet
   case rel => exact ⟨_, _, rs, H', ⟨KR⟩, ⟨ub iI.out⟩, ⟨bb⟩⟩
 case rest =>
  clear HC2
  obtain ⟨kq, ada, rfl, HA, HJ1, iI, HB⟩ := hcut
  cases kq with
  | zero => exact zz HA.out
  | succ NI =>
   obtain ⟨H⟩ := HA
   simp only [aY.j0] at H
   replace H := sb H
   rcases H with ⟨rfl, H⟩ | ⟨rfl, H⟩
   ·
    obtain rfl := s1 H
    go_wp2
    go_ret
    exact ⟨er, bb⟩
   ·
    have H' := ak H; clear H
    have z20 := jW iI.out
    go_wp2
    go_loopg [3, 4] NI (fun kq v3 v4 w' => ∃ (lF : Int) (oK : Int), v3 = .int .i64 lF ∧ v4 = .int .i64 oK ∧ ah (aY.l0 kq lF oK eF eP aC = some r) ∧ ah (kq ≤ NI) ∧ ah (w'.heap[MQ]? = some (.cells #[.string eF, .string eP, (.slice gX aC.length eY)] 61 (0, 0))) ∧ ah (Below w.heap.size w w'))
    case atStart => exact ⟨_, _, rs, rs, H', ⟨Nat.le_refl _⟩, ⟨ub iI.out⟩, ⟨bb⟩⟩
    case round =>
     clear H'
     obtain ⟨lF, oK, rfl, rfl, HA, HK2, iI, HB⟩ := hrel
     cases gk with
     | zero => exact zz HA.out
     | succ k2 =>
      obtain ⟨H⟩ := HA
      simp only [aY.l0] at H
      replace H := sd H
      rcases H with ⟨Bo, H⟩ | ⟨Bo, H⟩
      ·
       replace H := oM H; obtain ⟨EW, H⟩ := H; replace H := bd H; obtain ⟨apz, A23, H⟩ := H; replace H := sb H
       rcases H with ⟨rfl, H⟩ | ⟨rfl, H⟩
       ·
        replace H := bd H; obtain ⟨apA, A25, H⟩ := H; replace H := sb H
        rcases H with ⟨rfl, H⟩ | ⟨rfl, H⟩
        ·
         have EO := eq_true (of_decide_eq_true (by assumption) : 0 ≤ oK)
         replace H := zK H; obtain ⟨EP, YZ, H⟩ := H
         obtain ⟨agp, Vw⟩ := nm (aC.take (oK : Int).toNat)
         rw [← Vw.out] at H
         replace H := bd H; obtain ⟨agn, A29, H⟩ := H; replace H := sp H
         rcases H with ⟨c30, H⟩ | ⟨c30, H⟩
         ·
          have Y0 : decide (0 ≤ agn) = true := decide_eq_true c30
          clear c30
          obtain rfl := s1 H
          have z31 := jW iI.out
          have H6 := zi oK
          have H7 := zj oK aC.length
          obtain ⟨Jk, Xn, xC, xE⟩ := qV jm.out oK H6 H7
          cases Xn
          replace xC := cl HB.out xC
          replace xE := cl HB.out xE
          replace H6 := eq_true H6
          replace H7 := eq_true H7
          try go_wp2_with (refine gG 5 ?_; refine bY HB 5 #[.string (⟨#[]⟩ : ByteArray), .string (⟨#[]⟩ : ByteArray)] 69 ?_; intro CQ w32 mZ OZ hg hb; have sN := AZ iI hg; have yh := A_ iI hg; replace iI := kb iI hb; replace HB := bz HB hb; clear hb hg; have aoy := yh.out; have aoz := sN.out; have z34 := zx mZ.out)
          refine ab2 HB mZ OZ ?_
          intro w35 Aa hk HB
          replace iI := kf iI hk sN
          clear hk mZ
          have mZ := Aa; clear Aa
          refine rO [2, 7, 17] [0, 1, 2, 3, 4, 5, 6, 7, 8, 9, 10, 11, 13, 15, 12, 14, 16, 17, 18, 19] (fun w' => w'.cell? ⟨CQ, 0, none⟩ = some (.string ((fD aC oK).f0)) ∧ w'.cell? ⟨CQ, 1, none⟩ = some (.string ((fD aC oK).f1)) ∧ w'.cell? ⟨MQ, 0, none⟩ = some (.string eF) ∧ w'.cell? ⟨MQ, 1, none⟩ = some (.string eP) ∧ w'.cell? ⟨MQ, 2, none⟩ = some (.slice (some Jk) aC.length eY)) ?_
          intro w36 hb
          replace iI := kb iI hb
          replace mZ := kb mZ hb
          replace HB := bs HB hb
          refine ⟨sx, ?_⟩
          repeat refine y8 ?_
          refine rB Tryz.func200 (kS.calls A23.out) ?_
          intro w37 hb
          replace iI := kb iI hb
          replace mZ := kb mZ hb
          replace HB := bz HB hb
          clear hb
          refine ⟨sx, ?_⟩
          repeat refine y8 ?_
          refine rA Tryz.func201 (rJ.calls A25.out) ?_
          intro nd
          have q38 : (oK : Int) ≤ ((aC.length : Int) : Int) := of_decide_eq_true (by assumption)
          obtain ⟨aDN, aiQ, _, apE, _⟩ := info_parts Cc
          have Y1 : aC.length ≤ eY := lJ.out
          have apF : Kd.C qJ _ (some Jk) aC.length aC := jm.out
          have alM := TD (P := Tryz.prog) 25 69 .i64 Tryz.underlying25 aiQ (some Jk) aC.length eY oK (of_decide_eq_true (by assumption)) q38 Y1
          have alN := Kd.TF (m := (oK : Int).toNat) apF (by omega)
          have hy38 : agp.length = (oK : Int).toNat := (by rw [Vw.out, List.length_take]; omega)
          rw [← Vw.out] at alN
          rw [← hy38] at alM
          have adb := ak alN
          have ade := ak (show agp.length ≤ eY from by omega)
          clear alN apF Y1 aiQ apE
          have aDO := ak hy38
          clear hy38
          replace q38 := eq_true q38
          refine ⟨sx, ?_⟩
          repeat refine y8 ?_
          refine rB Tryz.func177 (jO.calls (cu (Kd.aW adb.out bb)) ade.out A29.out) ?_
          intro w39 hb
          replace iI := kb iI hb
          replace mZ := kb mZ hb
          replace HB := bz HB hb
          clear hb
          refine ⟨sx, ?_⟩
          repeat refine y8 ?_
          refine on ?_
          try go_wp2
          go_ret
          exact ⟨er, bb⟩
         ·
          have Y0 : decide (0 ≤ agn) = false := decide_eq_false c30
          clear c30
          replace H := bd H; obtain ⟨apB, A40, H⟩ := H
          have H' := ak H; clear H
          have z41 := jW iI.out
          have H6 := zi oK
          have H7 := zj oK aC.length
          obtain ⟨Jk, Xn, xC, xE⟩ := qV jm.out oK H6 H7
          cases Xn
          replace xC := cl HB.out xC
          replace xE := cl HB.out xE
          replace H6 := eq_true H6
          replace H7 := eq_true H7
          try go_wp2_with (refine gG 5 ?_; refine bY HB 5 #[.string (⟨#[]⟩ : ByteArray), .string (⟨#[]⟩ : ByteArray)] 69 ?_; intro CQ w42 mZ OZ hg hb; have sN := AZ iI hg; have yh := A_ iI hg; replace iI := kb iI hb; replace HB := bz HB hb; clear hb hg; have aAI := yh.out; have aAJ := sN.out; have z44 := zx mZ.out)
          refine ab2 HB mZ OZ ?_
          intro w45 Aa hk HB
          replace iI := kf iI hk sN
          clear hk mZ
          have mZ := Aa; clear Aa
          refine rO [2, 7, 17] [0, 1, 2, 3, 4, 5, 6, 7, 8, 9, 10, 11, 13, 15, 12, 14, 16, 17, 18, 19] (fun w' => w'.cell? ⟨CQ, 0, none⟩ = some (.string ((fD aC oK).f0)) ∧ w'.cell? ⟨CQ, 1, none⟩ = some (.string ((fD aC oK).f1)) ∧ w'.cell? ⟨MQ, 0, none⟩ = some (.string eF) ∧ w'.cell? ⟨MQ, 1, none⟩ = some (.string eP) ∧ w'.cell? ⟨MQ, 2, none⟩ = some (.slice (some Jk) aC.length eY)) ?_
          intro w46 hb
          replace iI := kb iI hb
          replace mZ := kb mZ hb
          replace HB := bs HB hb
          refine ⟨sx, ?_⟩
          repeat refine y8 ?_
          refine rB Tryz.func200 (kS.calls A23.out) ?_
          intro w47 hb
          replace iI := kb iI hb
          replace mZ := kb mZ hb
          replace HB := bz HB hb
          clear hb
          refine ⟨sx, ?_⟩
          repeat refine y8 ?_
          refine rA Tryz.func201 (rJ.calls A25.out) ?_
          intro nd
          have q48 : (oK : Int) ≤ ((aC.length : Int) : Int) := of_decide_eq_true (by assumption)
          obtain ⟨aDP, aiR, _, apG, _⟩ := info_parts Cc
          have Y2 : aC.length ≤ eY := lJ.out
          have apH : Kd.C qJ _ (some Jk) aC.length aC := jm.out
          have alO := TD (P := Tryz.prog) 25 69 .i64 Tryz.underlying25 aiR (some Jk) aC.length eY oK (of_decide_eq_true (by assumption)) q48 Y2
          have alP := Kd.TF (m := (oK : Int).toNat) apH (by omega)
          have alQ : agp.length = (oK : Int).toNat := (by rw [Vw.out, List.length_take]; omega)
          rw [← Vw.out] at alP
          rw [← alQ] at alO
          have adb := ak alP
          have ade := ak (show agp.length ≤ eY from by omega)
          clear alP apH Y2 aiR apG
          have aDQ := ak alQ
          clear alQ
          replace q48 := eq_true q48
          refine ⟨sx, ?_⟩
          repeat refine y8 ?_
          refine rB Tryz.func177 (jO.calls (cu (Kd.aW adb.out bb)) ade.out A29.out) ?_
          intro w49 hb
          replace iI := kb iI hb
          replace mZ := kb mZ hb
          replace HB := bz HB hb
          clear hb
          refine ⟨sx, ?_⟩
          repeat refine y8 ?_
          refine on ?_
          try go_wp2
          refine rO [8] [0, 1, 2, 6, 3, 4, 5, 7, 8, 9, 10, 11] (fun w' => w'.cell? ⟨CQ, 0, none⟩ = some (.string ((fD aC oK).f0)) ∧ w'.cell? ⟨CQ, 1, none⟩ = some (.string ((fD aC oK).f1))) ?_
          intro w50 hb
          replace iI := kb iI hb
          replace mZ := kb mZ hb
          replace HB := bs HB hb
          refine ⟨sx, ?_⟩
          repeat refine y8 ?_
          refine rB Tryz.func202 (qL.calls A40.out) ?_
          intro w51 hb
          replace iI := kb iI hb
          replace mZ := kb mZ hb
          replace HB := bz HB hb
          clear hb
          refine ⟨sx, ?_⟩
          repeat refine y8 ?_
          refine on ?_
          try go_wp2
          go_roundg k2
          case measure => exact kl
          case rel => exact ⟨_, _, rs, rs, H', ⟨kl⟩, ⟨ub iI.out⟩, ⟨bb⟩⟩
        ·
         obtain rfl := s1 H
         have z52 := jW iI.out
         have H6 := zi oK
         have H7 := zj oK aC.length
         obtain ⟨Jk, Xn, xC, xE⟩ := qV jm.out oK H6 H7
         cases Xn
         replace xC := cl HB.out xC
         replace xE := cl HB.out xE
         replace H6 := eq_true H6
         replace H7 := eq_true H7
         try go_wp2_with (refine gG 5 ?_; refine bY HB 5 #[.string (⟨#[]⟩ : ByteArray), .string (⟨#[]⟩ : ByteArray)] 69 ?_; intro CQ w53 mZ OZ hg hb; have sN := AZ iI hg; have yh := A_ iI hg; replace iI := kb iI hb; replace HB := bz HB hb; clear hb hg; have aAK := yh.out; have aAL := sN.out; have z55 := zx mZ.out)
         refine ab2 HB mZ OZ ?_
         intro w56 Aa hk HB
         replace iI := kf iI hk sN
         clear hk mZ
         have mZ := Aa; clear Aa
         refine rO [2, 7] [0, 1, 2, 3, 4, 5, 6, 7, 8, 9, 10, 11, 12, 13, 14, 15, 16, 17, 18, 19] (fun w' => w'.cell? ⟨CQ, 0, none⟩ = some (.string ((fD aC oK).f0)) ∧ w'.cell? ⟨CQ, 1, none⟩ = some (.string ((fD aC oK).f1))) ?_
         intro w57 hb
         replace iI := kb iI hb
         replace mZ := kb mZ hb
         replace HB := bs HB hb
         refine ⟨sx, ?_⟩
         repeat (first | refine y8 ?_ | refine Tm ?_)
         refine rB Tryz.func200 (kS.calls A23.out) ?_
         intro w58 hb
         replace iI := kb iI hb
         replace mZ := kb mZ hb
         replace HB := bz HB hb
         clear hb
         refine ⟨sx, ?_⟩
         repeat (first | refine y8 ?_ | refine Tm ?_)
         refine rA Tryz.func201 (rJ.calls A25.out) ?_
         intro nd
         refine ⟨sx, ?_⟩
         repeat (first | refine y8 ?_ | refine Tm ?_)
         refine on ?_
         try go_wp2
         go_ret
         exact ⟨er, bb⟩
       ·
        obtain rfl := s1 H
        have z59 := jW iI.out
        have H6 := zi oK
        have H7 := zj oK aC.length
        obtain ⟨Jk, Xn, xC, xE⟩ := qV jm.out oK H6 H7
        cases Xn
        replace xC := cl HB.out xC
        replace xE := cl HB.out xE
        replace H6 := eq_true H6
        replace H7 := eq_true H7
        try go_wp2_with (refine gG 5 ?_; refine bY HB 5 #[.string (⟨#[]⟩ : ByteArray), .string (⟨#[]⟩ : ByteArray)] 69 ?_; intro CQ Q_ mZ OZ hg hb; have sN := AZ iI hg; have yh := A_ iI hg; replace iI := kb iI hb; replace HB := bz HB hb; clear hb hg; have aAM := yh.out; have aAN := sN.out; have z62 := zx mZ.out)
        refine ab2 HB mZ OZ ?_
        intro w63 Aa hk HB
        replace iI := kf iI hk sN
        clear hk mZ
        have mZ := Aa; clear Aa
        refine rO [2] [0, 1, 2, 3, 4, 5, 6, 7, 8, 9, 10, 11, 12, 13, 14, 15, 16, 17, 18, 19] (fun w' => w'.cell? ⟨CQ, 0, none⟩ = some (.string ((fD aC oK).f0)) ∧ w'.cell? ⟨CQ, 1, none⟩ = some (.string ((fD aC oK).f1))) ?_
        intro w64 hb
        replace iI := kb iI hb
        replace mZ := kb mZ hb
        replace HB := bs HB hb
        refine ⟨sx, ?_⟩
        repeat (first | refine y8 ?_ | refine Tm ?_)
        refine rB Tryz.func200 (kS.calls A23.out) ?_
        intro w65 hb
        replace iI := kb iI hb
        replace mZ := kb mZ hb
        replace HB := bz HB hb
        clear hb
        refine ⟨sx, ?_⟩
        repeat (first | refine y8 ?_ | refine Tm ?_)
        refine on ?_
        try go_wp2
        go_ret
        exact ⟨er, bb⟩
      ·
       obtain rfl := s1 H
       have z66 := jW iI.out
       go_wp2
       go_ret
       exact ⟨er, bb⟩
end Go.Proofs.YtncdadcmghglkaaGreatDoor.PFnCountParts
