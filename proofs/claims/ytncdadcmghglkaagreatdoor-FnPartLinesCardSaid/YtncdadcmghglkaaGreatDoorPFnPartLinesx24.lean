/- Printed walks; conditions: those in each statement. -/
import Derived.Test.YtncdadcmghglkaaGreatDoorVFnPartLinesQt
import Derived.Test.YtncdadcmghglkaaGreatDoorVFnPartLinesYt
import Derived.Test.YtncdadcmghglkaaGreatDoorPFnPartLinesx0
import Derived.Test.YtncdadcmghglkaaGreatDoorPFnPartLinesx1
import Derived.Test.YtncdadcmghglkaaGreatDoorPFnPartLinesx22
-- short
-- dense
-- sq
-- sq2
namespace Go.Proofs.YtncdadcmghglkaaGreatDoor.PFnPartLines
open Go.RowKit Go.Proofs.YtncdadcmghglkaaGreatDoor.X Go.Proofs.YtncdadcmghglkaaGreatDoorW.bI Go.Proofs.YtncdadcmghglkaaGreatDoorW.iy Go.Proofs.YtncdadcmghglkaaGreatDoorW.iZ
attribute [local go_sem] kZ lg nK nM jW jX lq lu   -- for this text's walks alone
set_option linter.unusedVariables false
set_option maxHeartbeats 8000000
set_option maxRecDepth 100000
set_option linter.unusedSimpArgs false
def jS.l0 : Nat → ByteArray → ByteArray → Int → Option (ByteArray)
 | 0, _, _, _ => none
 | k + 1, x0, x3, x4 => if x4 < (x0.size : Int) then (if 0 ≤ x4 then (if (bt x0 x4) = 34 then ((some (([92] : List Int) : List Int)).bind fun Uc => (if x3.size + (strOfNums Uc).size ≤ 9223372036854775807 then (if x4 ≤ (wrap64 (x4 + 1)) then (if (wrap64 (x4 + 1)) ≤ (x0.size : Int) then (if (x3 ++ (strOfNums Uc)).size + (x0.extract (x4 : Int).toNat ((wrap64 (x4 + 1)) : Int).toNat).size ≤ 9223372036854775807 then (jS.l0 k x0 ((x3 ++ (strOfNums Uc)) ++ (x0.extract (x4 : Int).toNat ((wrap64 (x4 + 1)) : Int).toNat)) (wrap64 (x4 + 1))) else (none)) else (none)) else (none)) else (none))) else (if (bt x0 x4) = 92 then ((some (([92] : List Int) : List Int)).bind fun Ud => (if x3.size + (strOfNums Ud).size ≤ 9223372036854775807 then (if x4 ≤ (wrap64 (x4 + 1)) then (if (wrap64 (x4 + 1)) ≤ (x0.size : Int) then (if (x3 ++ (strOfNums Ud)).size + (x0.extract (x4 : Int).toNat ((wrap64 (x4 + 1)) : Int).toNat).size ≤ 9223372036854775807 then (jS.l0 k x0 ((x3 ++ (strOfNums Ud)) ++ (x0.extract (x4 : Int).toNat ((wrap64 (x4 + 1)) : Int).toNat)) (wrap64 (x4 + 1))) else (none)) else (none)) else (none)) else (none))) else (if x4 ≤ (wrap64 (x4 + 1)) then (if (wrap64 (x4 + 1)) ≤ (x0.size : Int) then (if x3.size + (x0.extract (x4 : Int).toNat ((wrap64 (x4 + 1)) : Int).toNat).size ≤ 9223372036854775807 then (jS.l0 k x0 (x3 ++ (x0.extract (x4 : Int).toNat ((wrap64 (x4 + 1)) : Int).toNat)) (wrap64 (x4 + 1))) else (none)) else (none)) else (none)))) else (none)) else (if x3.size + 1 ≤ 9223372036854775807 then (some (x3 ++ (⟨#[34]⟩ : ByteArray))) else (none))
def jS.f (k : Nat) (a0 : ByteArray) : Option (ByteArray) := jS.l0 k a0 (⟨#[34]⟩ : ByteArray) 0
theorem jS.calls {k : Nat} {a0 r : ByteArray} {w : World} (h : jS.f k a0 = some r) :
  Calls Tryz.prog 215 #[.string a0] w fun e w' => e = .returned (.string r) ∧ Below w.heap.size w w' := by
 have HB := ak (Below.refl w.heap.size w)
 unfold jS.f at h; have H := h
 clear h
 have H' := ak H; clear H
 go_enter Tryz.func215, Tryz.ntmps215
 go_wp2
 go_loopg [3, 4] k (fun kq v3 v4 w' => ∃ (dW : ByteArray) (eP : Int), v3 = .string dW ∧ v4 = .int .i64 eP ∧ ah (jS.l0 kq a0 dW eP = some r) ∧ ah (kq ≤ k) ∧ ah (Below w.heap.size w w'))
 case atStart => exact ⟨_, _, rs, rs, H', ⟨Nat.le_refl _⟩, ⟨ul HB.out⟩⟩
 case round =>
  clear H'
  obtain ⟨dW, eP, rfl, rfl, HA, xI, HB⟩ := hrel
  cases gk with
  | zero => exact zz HA.out
  | succ k1 =>
   obtain ⟨H⟩ := HA
   simp only [jS.l0] at H
   replace H := sd H
   rcases H with ⟨ou, H⟩ | ⟨ou, H⟩
   ·
    replace H := oq H; obtain ⟨iO, H⟩ := H; replace H := sq H
    rcases H with ⟨mW, IY, H⟩ | ⟨c5, mW, IY, H⟩
    ·
     replace H := ny H
     obtain ⟨Uc, asw, H⟩ := H
     replace H := nn H; obtain ⟨c6, H⟩ := H
     have nN := eq_true c6
     have wR := decide_eq_true c6
     try have agI : (9223372036854775807 < dW.size + (strOfNums Uc).size) = False := eq_false (Nat.not_lt.2 c6)
     have rF := eq_true (of_decide_eq_true (by assumption) : 0 ≤ eP)
     replace H := nn H; obtain ⟨c8, H⟩ := H
     have tX := eq_true c8
     have Eu := decide_eq_true c8
     replace H := nn H; obtain ⟨c9, H⟩ := H
     have xY := eq_true c9
     have EN := decide_eq_true c9
     replace H := nn H; obtain ⟨c10, H⟩ := H
     have nY := eq_true c10
     have rX := decide_eq_true c10
     try have asx : (9223372036854775807 < dW.size + (strOfNums Uc).size + ((a0.extract (eP : Int).toNat ((wrap64 (eP + 1)) : Int).toNat).size)) = False := by have h_ := c10; simp only [ByteArray.size_append, ByteArray.size_extract] at h_; refine eq_false ?_; simp only [decide_eq_true_eq] at *; omega
     try have aiP : (9223372036854775807 < dW.size + (strOfNums Uc).size + ((a0.extract (eP : Int).toNat ((wrap64 (eP + 1)) : Int).toNat).size)) = False := by have h_ := (eq_false (Nat.not_lt.2 c10) : (9223372036854775807 < (dW ++ (strOfNums Uc)).size + (a0.extract (eP : Int).toNat ((wrap64 (eP + 1)) : Int).toNat).size) = False); simp only [ByteArray.size_append] at h_; exact h_
     try have Zf : (9223372036854775807 < (dW ++ (strOfNums Uc)).size + (a0.extract (eP : Int).toNat ((wrap64 (eP + 1)) : Int).toNat).size) = False := eq_false (Nat.not_lt.2 c10)
     have H' := ak H; clear H
     obtain ⟨p4, q4, hx4⟩ := bx a0 eP
     go_wp2_with (refine QD 22 (Kd.int .u8) 5 [.int .u8 92] asw (dh.one (show Kd.M (Kd.int .u8) _ _ _ 92 [.int .u8 92] from rfl) (dh.none _ _)) ?_; intro aFZ U3 adf hb; have asy := ak (Kd.aC adf (aj (ul HB.out))); replace HB := bs HB hb; clear hb adf; have aBO := qE (P := Tryz.prog) Tryz.underlying22 Tryz.underlying5 Tryz.underlying9 (Kd.uJ asy.out))
     go_roundg k1
     case measure => exact kl
     case rel => exact ⟨_, _, rs, rs, H', ⟨kl⟩, ⟨ul HB.out⟩⟩
    ·
     replace H := sq H
     rcases H with ⟨vC, ER, H⟩ | ⟨c15, vC, ER, H⟩
     ·
      replace H := ny H
      obtain ⟨Ud, asz, H⟩ := H
      replace H := nn H; obtain ⟨c16, H⟩ := H
      have zA := eq_true c16
      have Jw := decide_eq_true c16
      try have aBP : (9223372036854775807 < dW.size + (strOfNums Ud).size) = False := eq_false (Nat.not_lt.2 c16)
      have sJ := eq_true (of_decide_eq_true (by assumption) : 0 ≤ eP)
      replace H := nn H; obtain ⟨c18, H⟩ := H
      have vF := eq_true c18
      have I9 := decide_eq_true c18
      replace H := nn H; obtain ⟨c19, H⟩ := H
      have z_ := eq_true c19
      have Eb := decide_eq_true c19
      replace H := nn H; obtain ⟨c20, H⟩ := H
      have Q_ := eq_true c20
      have U7 := decide_eq_true c20
      try have aBQ : (9223372036854775807 < dW.size + (strOfNums Ud).size + ((a0.extract (eP : Int).toNat ((wrap64 (eP + 1)) : Int).toNat).size)) = False := by have h_ := c20; simp only [ByteArray.size_append, ByteArray.size_extract] at h_; refine eq_false ?_; simp only [decide_eq_true_eq] at *; omega
      try have aBR : (9223372036854775807 < dW.size + (strOfNums Ud).size + ((a0.extract (eP : Int).toNat ((wrap64 (eP + 1)) : Int).toNat).size)) = False := by have h_ := (eq_false (Nat.not_lt.2 c20) : (9223372036854775807 < (dW ++ (strOfNums Ud)).size + (a0.extract (eP : Int).toNat ((wrap64 (eP + 1)) : Int).toNat).size) = False); simp only [ByteArray.size_append] at h_; exact h_
      try have aBS : (9223372036854775807 < (dW ++ (strOfNums Ud)).size + (a0.extract (eP : Int).toNat ((wrap64 (eP + 1)) : Int).toNat).size) = False := eq_false (Nat.not_lt.2 c20)
      have H' := ak H; clear H
      obtain ⟨p4, q4, hx4⟩ := bx a0 eP
      obtain ⟨p14, q14, alR⟩ := bx a0 eP
      go_wp2_with (refine QD 22 (Kd.int .u8) 5 [.int .u8 92] asz (dh.one (show Kd.M (Kd.int .u8) _ _ _ 92 [.int .u8 92] from rfl) (dh.none _ _)) ?_; intro aF0 w21 asA hb; have asB := ak (Kd.aC asA (aj (ul HB.out))); replace HB := bs HB hb; clear hb asA; have aBT := qE (P := Tryz.prog) Tryz.underlying22 Tryz.underlying5 Tryz.underlying9 (Kd.uJ asB.out))
      go_roundg k1
      case measure => exact kl
      case rel => exact ⟨_, _, rs, rs, H', ⟨kl⟩, ⟨ul HB.out⟩⟩
     ·
      have Pm := eq_true (of_decide_eq_true (by assumption) : 0 ≤ eP)
      replace H := nn H; obtain ⟨c25, H⟩ := H
      have Pg := eq_true c25
      have adT := decide_eq_true c25
      replace H := nn H; obtain ⟨c26, H⟩ := H
      have MW := eq_true c26
      have Zc := decide_eq_true c26
      replace H := nn H; obtain ⟨c27, H⟩ := H
      have EO := eq_true c27
      have Y5 := decide_eq_true c27
      try have aBU : (9223372036854775807 < dW.size + ((a0.extract (eP : Int).toNat ((wrap64 (eP + 1)) : Int).toNat).size)) = False := by have h_ := c27; simp only [ByteArray.size_append, ByteArray.size_extract] at h_; refine eq_false ?_; simp only [decide_eq_true_eq] at *; omega
      try have aBV : (9223372036854775807 < dW.size + (a0.extract (eP : Int).toNat ((wrap64 (eP + 1)) : Int).toNat).size) = False := eq_false (Nat.not_lt.2 c27)
      have H' := ak H; clear H
      obtain ⟨p4, q4, hx4⟩ := bx a0 eP
      obtain ⟨p14, q14, alR⟩ := bx a0 eP
      go_wp2
      go_roundg k1
      case measure => exact kl
      case rel => exact ⟨_, _, rs, rs, H', ⟨kl⟩, ⟨ul HB.out⟩⟩
   ·
    replace H := nn H; obtain ⟨c28, H⟩ := H
    have EP := eq_true c28
    have Zd := decide_eq_true c28
    try have aBW : (9223372036854775807 < dW.size + 1) = False := eq_false (Nat.not_lt.2 c28)
    obtain rfl := s1 H
    go_wp2
    go_ret
    exact ⟨er, ul HB.out⟩
def qF.f (k : Nat) (a0 : ByteArray) : Option (ByteArray) := (aQ.f k a0).bind fun asC => (if asC = true then ((dZ.f k a0).bind fun asD => (if asD = true then (some a0) else ((jS.f k a0).bind fun asE => (some asE)))) else (some (⟨#[]⟩ : ByteArray)))
theorem qF.calls {k : Nat} {a0 r : ByteArray} {w : World} (h : qF.f k a0 = some r) :
  Calls Tryz.prog 202 #[.string a0] w fun e w' => e = .returned (.string r) ∧ Below w.heap.size w w' := by
 have HB := ak (Below.refl w.heap.size w)
 unfold qF.f at h; have H := h
 clear h
 replace H := bd H; obtain ⟨asC, A2, H⟩ := H; replace H := sb H
 rcases H with ⟨rfl, H⟩ | ⟨rfl, H⟩
 ·
  replace H := bd H; obtain ⟨asD, A4, H⟩ := H; replace H := sb H
  rcases H with ⟨rfl, H⟩ | ⟨rfl, H⟩
  ·
   obtain rfl := s1 H
   go_enter Tryz.func202, Tryz.ntmps202
   go_wp2_with (first | (refine gA Tryz.func159 (aQ.calls A2.out) ?_; intro nd) | (refine gA Tryz.func214 (dZ.calls A4.out) ?_; intro nd))
   go_ret
   exact ⟨er, ul HB.out⟩
  ·
   replace H := bd H; obtain ⟨asE, A6, H⟩ := H
   obtain rfl := s1 H
   go_enter Tryz.func202, Tryz.ntmps202
   go_wp2_with (first | (refine gA Tryz.func159 (aQ.calls A2.out) ?_; intro nd) | (refine gA Tryz.func214 (dZ.calls A4.out) ?_; intro nd) | (refine gB Tryz.func215 (jS.calls A6.out) ?_; intro w7 hb; replace HB := bs HB hb; clear hb))
   go_ret
   exact ⟨er, ul HB.out⟩
 ·
  obtain rfl := s1 H
  go_enter Tryz.func202, Tryz.ntmps202
  go_wp2_with (refine gA Tryz.func159 (aQ.calls A2.out) ?_; intro nd)
  go_ret
  exact ⟨er, ul HB.out⟩
mutual
def aX.j0 : Nat → Bool → ByteArray → ByteArray → List (gX) → Option (Bool)
 | 0, _, _, _, _ => none
 | k + 1, x21, Ot, Ou, wY => if x21 = true then (some false) else (aX.l0 k (wrap64 ((wrap64 ((Ot.size : Int) + (Ou.size : Int))) + 1)) 0 Ot Ou wY)
def aX.l0 : Nat → Int → Int → ByteArray → ByteArray → List (gX) → Option (Bool)
 | 0, _, _, _, _, _ => none
 | k + 1, x3, x4, Ot, Ou, wY => if x4 < (wY.length : Int) then (if 0 ≤ x4 then ((kE.f k ((fC wY x4).f0)).bind fun asF => (if asF = true then ((rC.f k ((fC wY x4).f1)).bind fun asG => (if asG = true then (if x4 ≤ (wY.length : Int) then ((jF.f k (wY.take (x4 : Int).toNat) ((fC wY x4).f0)).bind fun agP => (if agP ≥ 0 then (some false) else ((qF.f k ((fC wY x4).f1)).bind fun asH => (aX.l0 k (wrap64 ((wrap64 ((wrap64 (x3 + 3)) + (((fC wY x4).f0).size : Int))) + (asH.size : Int))) (wrap64 (x4 + 1)) Ot Ou wY)))) else (none)) else (some false))) else (some false))) else (none)) else (some (decide (x3 ≤ 150)))
end
def aX.f (k : Nat) (eG : ByteArray) (eU : ByteArray) (aH : List (gX)) : Option (Bool) := (kE.f k eG).bind fun asI => (if asI = true then ((kE.f k eU).bind fun asJ => (if asJ = true then (aX.j0 k (decide ((aH.length : Int) > 4)) eG eU aH) else (aX.j0 k true eG eU aH))) else (aX.j0 k true eG eU aH))
def aX.T8 : Bool × List (List Nat × List Nat) := (true, [([], []), ([0], [0]), ([1], [1]), ([2], [2]), ([3, 2], [3]), ([4], [4]), ([5, 4], [4, 5]), ([6, 4, 4], [4, 6]), ([7, 4], [4, 7]), ([4, 8], [4, 8]), ([9, 7], [9]), ([10], [10]), ([11, 10], [10, 11]), ([10], [10]), ([12, 13, 10], [10, 12, 13]), ([10], [10]), ([15, 10], [10, 15]), ([14, 16, 10, 10], [10, 14, 16]), ([17, 10], [10, 17]), ([10, 18], [10, 18])])
def aX.B8 : List Nat := [0, 1, 3, 7, 15, 31, 63, 127, 255, 511, 1023, 2047, 4095, 2047, 16383, 2047, 34815, 131071, 262143, 524287]
theorem aX.abl : rU .any (opsOf Tryz.f182 8) = aX.T8 := by kernel_rfl
theorem aX.Rf : nD aX.T8.2 aX.B8 = true := by kernel_rfl
def aX.T10 : Bool × List (List Nat × List Nat) := (true, [([], []), ([0], [0]), ([], []), ([2], [2]), ([3], [3]), ([1, 4], [1, 4]), ([], []), ([6], [6]), ([7], [7]), ([8], [8]), ([5, 9], [5, 9]), ([10, 8, 0, 1, 2, 3, 4, 5, 6, 7, 8, 9, 10], [0, 10])])
def aX.B10 : List Nat := [0, 1, 0, 4, 12, 31, 0, 64, 192, 448, 1023, 2047]
theorem aX.asK : rU .any (opsOf Tryz.f182 10) = aX.T10 := by kernel_rfl
theorem aX.amB : nD aX.T10.2 aX.B10 = true := by kernel_rfl
theorem aX.calls {k f_ : Nat} {eG eU : ByteArray} {iP : Option Addr} {aH : List (gX)} {r : Bool} {w : World} (kS : Kd.C qI w iP aH.length aH) (kT : aH.length ≤ f_) (h : aX.f k eG eU aH = some r) :
  Calls Tryz.prog 182 #[.agg #[.string eG, .string eU, .slice iP aH.length f_]] w fun e w' => e = .returned (.bool r) ∧ Below w.heap.size w w' := by
 have Vm := Tryz.underlying61
 have Dn := Tryz.underlying69
 have jD := ak kS
 have mQ := ak kT
 clear kS kT
 have HB := ak (Below.refl w.heap.size w)
 unfold aX.f at h; have H := h
 clear h
 have HC2 := ak H
 clear H
 go_enter Tryz.func182, Tryz.ntmps182
 go_upto_region 1 with (refine gG 1 ?_; refine bX HB 1 #[.string eG, .string eU, .slice iP aH.length f_] 61 ?_; intro Nl w3 iI aBX hb; replace HB := bs HB hb; clear hb)
 (try simp only [Act.put, yT, yU, l_c])
 go_cut [21] (fun v21 wc => ∃ (kq : Nat) (ad7 : Bool), v21 = .bool ad7 ∧ ah (aX.j0 kq ad7 eG eU aH = some r) ∧ ah (kq ≤ k) ∧ ah (wc.heap[Nl]? = some (.cells #[.string eG, .string eU, (.slice iP aH.length f_)] 61 (0, 0))) ∧ ah (Below w.heap.size w wc))
 case first =>
  have H := HC2.out
  clear HC2
  replace H := bd H; obtain ⟨asI, A4, H⟩ := H; replace H := sb H
  rcases H with ⟨rfl, H⟩ | ⟨rfl, H⟩
  ·
   replace H := bd H; obtain ⟨asJ, A6, H⟩ := H; replace H := sb H
   rcases H with ⟨rfl, H⟩ | ⟨rfl, H⟩
   ·
    have H' := ak H; clear H
    have z8 := kK iI.out
    go_wp2_with (first | (refine gB Tryz.func200 (kE.calls A4.out) ?_; intro w9 hb; replace iI := kb iI hb; replace HB := bz HB hb; clear hb; have z10 := kK iI.out) | (go_at_call 200; refine mB (kE.calls A6.out) ?_; intro U3 hb; replace iI := kb iI hb; replace HB := bz HB hb; clear hb; have z12 := kK iI.out))
    go_meet
    case rel => exact ⟨_, _, rs, H', ⟨IL⟩, ⟨ub iI.out⟩, ⟨bb⟩⟩
   ·
    have H' := ak H; clear H
    have z13 := kK iI.out
    go_wp2_with (first | (refine gB Tryz.func200 (kE.calls A4.out) ?_; intro SS hb; replace iI := kb iI hb; replace HB := bz HB hb; clear hb; have z15 := kK iI.out) | (go_at_call 200; refine mB (kE.calls A6.out) ?_; intro w16 hb; replace iI := kb iI hb; replace HB := bz HB hb; clear hb))
    go_meet
    case rel => exact ⟨_, _, rs, H', ⟨IL⟩, ⟨ub iI.out⟩, ⟨bb⟩⟩
  ·
   have H' := ak H; clear H
   have z17 := kK iI.out
   go_wp2_with (refine gB Tryz.func200 (kE.calls A4.out) ?_; intro w18 hb; replace iI := kb iI hb; replace HB := bz HB hb; clear hb)
   go_meet
   case rel => exact ⟨_, _, rs, H', ⟨IL⟩, ⟨ub iI.out⟩, ⟨bb⟩⟩
 case rest =>
  clear HC2
  obtain ⟨kq, ad7, rfl, HA, HJ1, iI, HB⟩ := hcut
  cases kq with
  | zero => exact zz HA.out
  | succ NK =>
   obtain ⟨H⟩ := HA
   simp only [aX.j0] at H
   replace H := sb H
   rcases H with ⟨rfl, H⟩ | ⟨rfl, H⟩
   ·
    obtain rfl := s1 H
    go_wp2
    go_ret
    exact ⟨er, bb⟩
   ·
    have H' := ak H; clear H
    have z20 := kK iI.out
    go_wp2
    go_loopg [3, 4] NK (fun kq v3 v4 w' => ∃ (kV : Int) (oh : Int), v3 = .int .i64 kV ∧ v4 = .int .i64 oh ∧ ah (aX.l0 kq kV oh eG eU aH = some r) ∧ ah (kq ≤ NK) ∧ ah (w'.heap[Nl]? = some (.cells #[.string eG, .string eU, (.slice iP aH.length f_)] 61 (0, 0))) ∧ ah (Below w.heap.size w w'))
    case atStart => exact ⟨_, _, rs, rs, H', ⟨Nat.le_refl _⟩, ⟨ub iI.out⟩, ⟨bb⟩⟩
    case round =>
     clear H'
     obtain ⟨kV, oh, rfl, rfl, HA, MJ, iI, HB⟩ := hrel
     cases gk with
     | zero => exact zz HA.out
     | succ k2 =>
      obtain ⟨H⟩ := HA
      simp only [aX.l0] at H
      replace H := sd H
      rcases H with ⟨D_, H⟩ | ⟨D_, H⟩
      ·
       replace H := oq H; obtain ⟨ES, H⟩ := H; replace H := bd H; obtain ⟨asF, A23, H⟩ := H; replace H := sb H
       rcases H with ⟨rfl, H⟩ | ⟨rfl, H⟩
       ·
        replace H := bd H; obtain ⟨asG, A25, H⟩ := H; replace H := sb H
        rcases H with ⟨rfl, H⟩ | ⟨rfl, H⟩
        ·
         have EO := eq_true (of_decide_eq_true (by assumption) : 0 ≤ oh)
         replace H := yL H; obtain ⟨EP, Zd, H⟩ := H
         obtain ⟨agQ, VJ⟩ := nm (aH.take (oh : Int).toNat)
         rw [← VJ.out] at H
         replace H := bd H; obtain ⟨agP, A29, H⟩ := H; replace H := sp H
         rcases H with ⟨c30, H⟩ | ⟨c30, H⟩
         ·
          have Y7 : decide (0 ≤ agP) = true := decide_eq_true c30
          clear c30
          obtain rfl := s1 H
          have z31 := kK iI.out
          have Ia := zi oh
          have Ib := zj oh aH.length
          obtain ⟨JC, XH, wZ, xg⟩ := qL jD.out oh Ia Ib
          cases XH
          replace wZ := cl HB.out wZ
          replace xg := cl HB.out xg
          replace Ia := eq_true Ia
          replace Ib := eq_true Ib
          try go_wp2_with (refine gG 5 ?_; refine bY HB 5 #[.string (⟨#[]⟩ : ByteArray), .string (⟨#[]⟩ : ByteArray)] 69 ?_; intro CS w32 mJ PD hg hb; have rY := Ba iI hg; have xZ := Bc iI hg; replace iI := kb iI hb; replace HB := bz HB hb; clear hb hg; have arG := xZ.out; have arH := rY.out; have z34 := zC mJ.out)
          refine ab2 HB mJ PD ?_
          intro w35 Af hk HB
          replace iI := kf iI hk rY
          clear hk mJ
          have mJ := Af; clear Af
          refine rO [2, 7, 17] [0, 1, 2, 3, 4, 5, 6, 7, 8, 9, 10, 11, 13, 15, 12, 14, 16, 17, 18, 19] (fun w' => w'.cell? ⟨CS, 0, none⟩ = some (.string ((fC aH oh).f0)) ∧ w'.cell? ⟨CS, 1, none⟩ = some (.string ((fC aH oh).f1)) ∧ w'.cell? ⟨Nl, 0, none⟩ = some (.string eG) ∧ w'.cell? ⟨Nl, 1, none⟩ = some (.string eU) ∧ w'.cell? ⟨Nl, 2, none⟩ = some (.slice (some JC) aH.length f_)) ?_
          intro w36 hb
          replace iI := kb iI hb
          replace mJ := kb mJ hb
          replace HB := bs HB hb
          refine ⟨sx, ?_⟩
          repeat refine wO ?_
          refine rB Tryz.func200 (kE.calls A23.out) ?_
          intro w37 hb
          replace iI := kb iI hb
          replace mJ := kb mJ hb
          replace HB := bz HB hb
          clear hb
          refine ⟨sx, ?_⟩
          repeat refine wO ?_
          refine rA Tryz.func201 (rC.calls A25.out) ?_
          intro nd
          have q38 : (oh : Int) ≤ ((aH.length : Int) : Int) := of_decide_eq_true (by assumption)
          obtain ⟨aF1, ajB, _, asL, _⟩ := info_parts Cc
          have ZB : aH.length ≤ f_ := mQ.out
          have asM : Kd.C qI _ (some JC) aH.length aH := jD.out
          have amC := ET (P := Tryz.prog) 25 69 .i64 Tryz.underlying25 ajB (some JC) aH.length f_ oh (of_decide_eq_true (by assumption)) q38 ZB
          have amD := Kd.EU (m := (oh : Int).toNat) asM (by omega)
          have hy38 : agQ.length = (oh : Int).toNat := (by rw [VJ.out, List.length_take]; omega)
          rw [← VJ.out] at amD
          rw [← hy38] at amC
          have ad8 := ak amD
          have ad9 := ak (show agQ.length ≤ f_ from by omega)
          clear amD asM ZB ajB asL
          have aF2 := ak hy38
          clear hy38
          replace q38 := eq_true q38
          refine ⟨sx, ?_⟩
          repeat refine wO ?_
          refine rB Tryz.func177 (jF.calls (cu (Kd.bf ad8.out bb)) ad9.out A29.out) ?_
          intro w39 hb
          replace iI := kb iI hb
          replace mJ := kb mJ hb
          replace HB := bz HB hb
          clear hb
          refine ⟨sx, ?_⟩
          repeat refine wO ?_
          refine on ?_
          try go_wp2
          go_ret
          exact ⟨er, bb⟩
         ·
          have Y7 : decide (0 ≤ agP) = false := decide_eq_false c30
          clear c30
          replace H := bd H; obtain ⟨asH, A40, H⟩ := H
          have H' := ak H; clear H
          have aJw := kK iI.out
          have Ia := zi oh
          have Ib := zj oh aH.length
          obtain ⟨JC, XH, wZ, xg⟩ := qL jD.out oh Ia Ib
          cases XH
          replace wZ := cl HB.out wZ
          replace xg := cl HB.out xg
          replace Ia := eq_true Ia
          replace Ib := eq_true Ib
          try go_wp2_with (refine gG 5 ?_; refine bY HB 5 #[.string (⟨#[]⟩ : ByteArray), .string (⟨#[]⟩ : ByteArray)] 69 ?_; intro CS w42 mJ PD hg hb; have rY := Ba iI hg; have xZ := Bc iI hg; replace iI := kb iI hb; replace HB := bz HB hb; clear hb hg; have aBY := xZ.out; have aBZ := rY.out; have aJx := zC mJ.out)
          refine ab2 HB mJ PD ?_
          intro w45 Af hk HB
          replace iI := kf iI hk rY
          clear hk mJ
          have mJ := Af; clear Af
          refine rO [2, 7, 17] [0, 1, 2, 3, 4, 5, 6, 7, 8, 9, 10, 11, 13, 15, 12, 14, 16, 17, 18, 19] (fun w' => w'.cell? ⟨CS, 0, none⟩ = some (.string ((fC aH oh).f0)) ∧ w'.cell? ⟨CS, 1, none⟩ = some (.string ((fC aH oh).f1)) ∧ w'.cell? ⟨Nl, 0, none⟩ = some (.string eG) ∧ w'.cell? ⟨Nl, 1, none⟩ = some (.string eU) ∧ w'.cell? ⟨Nl, 2, none⟩ = some (.slice (some JC) aH.length f_)) ?_
          intro w46 hb
          replace iI := kb iI hb
          replace mJ := kb mJ hb
          replace HB := bs HB hb
          refine ⟨sx, ?_⟩
          repeat refine wO ?_
          refine rB Tryz.func200 (kE.calls A23.out) ?_
          intro w47 hb
          replace iI := kb iI hb
          replace mJ := kb mJ hb
          replace HB := bz HB hb
          clear hb
          refine ⟨sx, ?_⟩
          repeat refine wO ?_
          refine rA Tryz.func201 (rC.calls A25.out) ?_
          intro nd
          have q48 : (oh : Int) ≤ ((aH.length : Int) : Int) := of_decide_eq_true (by assumption)
          obtain ⟨aF3, ajC, _, asN, _⟩ := info_parts Cc
          have ZC : aH.length ≤ f_ := mQ.out
          have asO : Kd.C qI _ (some JC) aH.length aH := jD.out
          have amE := ET (P := Tryz.prog) 25 69 .i64 Tryz.underlying25 ajC (some JC) aH.length f_ oh (of_decide_eq_true (by assumption)) q48 ZC
          have amF := Kd.EU (m := (oh : Int).toNat) asO (by omega)
          have amG : agQ.length = (oh : Int).toNat := (by rw [VJ.out, List.length_take]; omega)
          rw [← VJ.out] at amF
          rw [← amG] at amE
          have ad8 := ak amF
          have ad9 := ak (show agQ.length ≤ f_ from by omega)
          clear amF asO ZC ajC asN
          have aF4 := ak amG
          clear amG
          replace q48 := eq_true q48
          refine ⟨sx, ?_⟩
          repeat refine wO ?_
          refine rB Tryz.func177 (jF.calls (cu (Kd.bf ad8.out bb)) ad9.out A29.out) ?_
          intro w49 hb
          replace iI := kb iI hb
          replace mJ := kb mJ hb
          replace HB := bz HB hb
          clear hb
          refine ⟨sx, ?_⟩
          repeat refine wO ?_
          refine on ?_
          try go_wp2
          refine rO [8] [0, 1, 2, 6, 3, 4, 5, 7, 8, 9, 10, 11] (fun w' => w'.cell? ⟨CS, 0, none⟩ = some (.string ((fC aH oh).f0)) ∧ w'.cell? ⟨CS, 1, none⟩ = some (.string ((fC aH oh).f1))) ?_
          intro w50 hb
          replace iI := kb iI hb
          replace mJ := kb mJ hb
          replace HB := bs HB hb
          refine ⟨sx, ?_⟩
          repeat refine wO ?_
          refine rB Tryz.func202 (qF.calls A40.out) ?_
          intro w51 hb
          replace iI := kb iI hb
          replace mJ := kb mJ hb
          replace HB := bz HB hb
          clear hb
          refine ⟨sx, ?_⟩
          repeat refine wO ?_
          refine on ?_
          try go_wp2
          go_roundg k2
          case measure => exact kl
          case rel => exact ⟨_, _, rs, rs, H', ⟨kl⟩, ⟨ub iI.out⟩, ⟨bb⟩⟩
        ·
         obtain rfl := s1 H
         have z52 := kK iI.out
         have Ia := zi oh
         have Ib := zj oh aH.length
         obtain ⟨JC, XH, wZ, xg⟩ := qL jD.out oh Ia Ib
         cases XH
         replace wZ := cl HB.out wZ
         replace xg := cl HB.out xg
         replace Ia := eq_true Ia
         replace Ib := eq_true Ib
         try go_wp2_with (refine gG 5 ?_; refine bY HB 5 #[.string (⟨#[]⟩ : ByteArray), .string (⟨#[]⟩ : ByteArray)] 69 ?_; intro CS w53 mJ PD hg hb; have rY := Ba iI hg; have xZ := Bc iI hg; replace iI := kb iI hb; replace HB := bz HB hb; clear hb hg; have aB0 := xZ.out; have aB1 := rY.out; have z55 := zC mJ.out)
         refine ab2 HB mJ PD ?_
         intro w56 Af hk HB
         replace iI := kf iI hk rY
         clear hk mJ
         have mJ := Af; clear Af
         refine rO [2, 7] [0, 1, 2, 3, 4, 5, 6, 7, 8, 9, 10, 11, 12, 13, 14, 15, 16, 17, 18, 19] (fun w' => w'.cell? ⟨CS, 0, none⟩ = some (.string ((fC aH oh).f0)) ∧ w'.cell? ⟨CS, 1, none⟩ = some (.string ((fC aH oh).f1))) ?_
         intro w57 hb
         replace iI := kb iI hb
         replace mJ := kb mJ hb
         replace HB := bs HB hb
         refine ⟨sx, ?_⟩
         repeat (first | refine wO ?_ | refine NR ?_)
         refine rB Tryz.func200 (kE.calls A23.out) ?_
         intro w58 hb
         replace iI := kb iI hb
         replace mJ := kb mJ hb
         replace HB := bz HB hb
         clear hb
         refine ⟨sx, ?_⟩
         repeat (first | refine wO ?_ | refine NR ?_)
         refine rA Tryz.func201 (rC.calls A25.out) ?_
         intro nd
         refine ⟨sx, ?_⟩
         repeat (first | refine wO ?_ | refine NR ?_)
         refine on ?_
         try go_wp2
         go_ret
         exact ⟨er, bb⟩
       ·
        obtain rfl := s1 H
        have z59 := kK iI.out
        have Ia := zi oh
        have Ib := zj oh aH.length
        obtain ⟨JC, XH, wZ, xg⟩ := qL jD.out oh Ia Ib
        cases XH
        replace wZ := cl HB.out wZ
        replace xg := cl HB.out xg
        replace Ia := eq_true Ia
        replace Ib := eq_true Ib
        try go_wp2_with (refine gG 5 ?_; refine bY HB 5 #[.string (⟨#[]⟩ : ByteArray), .string (⟨#[]⟩ : ByteArray)] 69 ?_; intro CS QC mJ PD hg hb; have rY := Ba iI hg; have xZ := Bc iI hg; replace iI := kb iI hb; replace HB := bz HB hb; clear hb hg; have aB2 := xZ.out; have aB3 := rY.out; have z62 := zC mJ.out)
        refine ab2 HB mJ PD ?_
        intro w63 Af hk HB
        replace iI := kf iI hk rY
        clear hk mJ
        have mJ := Af; clear Af
        refine rO [2] [0, 1, 2, 3, 4, 5, 6, 7, 8, 9, 10, 11, 12, 13, 14, 15, 16, 17, 18, 19] (fun w' => w'.cell? ⟨CS, 0, none⟩ = some (.string ((fC aH oh).f0)) ∧ w'.cell? ⟨CS, 1, none⟩ = some (.string ((fC aH oh).f1))) ?_
        intro w64 hb
        replace iI := kb iI hb
        replace mJ := kb mJ hb
        replace HB := bs HB hb
        refine ⟨sx, ?_⟩
        repeat (first | refine wO ?_ | refine NR ?_)
        refine rB Tryz.func200 (kE.calls A23.out) ?_
        intro w65 hb
        replace iI := kb iI hb
        replace mJ := kb mJ hb
        replace HB := bz HB hb
        clear hb
        refine ⟨sx, ?_⟩
        repeat (first | refine wO ?_ | refine NR ?_)
        refine on ?_
        try go_wp2
        go_ret
        exact ⟨er, bb⟩
      ·
       obtain rfl := s1 H
       have z66 := kK iI.out
       go_wp2
       go_ret
       exact ⟨er, bb⟩
end Go.Proofs.YtncdadcmghglkaaGreatDoor.PFnPartLines
