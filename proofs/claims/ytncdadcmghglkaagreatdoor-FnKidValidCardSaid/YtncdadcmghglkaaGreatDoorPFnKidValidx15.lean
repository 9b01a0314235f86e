/- Printed walks; conditions: those in each statement. -/
import Derived.Test.YtncdadcmghglkaaGreatDoorVFnKidValidQt
import Derived.Test.YtncdadcmghglkaaGreatDoorVFnKidValidYt
import Derived.Test.YtncdadcmghglkaaGreatDoorPFnKidValidx0
import Derived.Test.YtncdadcmghglkaaGreatDoorPFnKidValidx11
import Derived.Test.YtncdadcmghglkaaGreatDoorPFnKidValidx13
-- short
-- dense
-- sq
-- sq2
namespace Go.Proofs.YtncdadcmghglkaaGreatDoor.PFnKidValid
open Go.RowKit Go.Proofs.YtncdadcmghglkaaGreatDoor.X Go.Proofs.YtncdadcmghglkaaGreatDoorW.bI Go.Proofs.YtncdadcmghglkaaGreatDoorW.gq Go.Proofs.YtncdadcmghglkaaGreatDoorW.iJ
attribute [local go_sem] kJ kK mD mF jv jw kL kM   -- for this text's walks alone
set_option linter.unusedVariables false
set_option maxHeartbeats 8000000
set_option maxRecDepth 100000
set_option linter.unusedSimpArgs false
def jT.l0 : Nat → ByteArray → ByteArray → Int → Option (ByteArray)
 | 0, _, _, _ => none
 | k + 1, x0, x3, x4 => if x4 < (x0.size : Int) then (if 0 ≤ x4 then (if (bt x0 x4) = 34 then ((some (([92] : List Int) : List Int)).bind fun Uw => (if x3.size + (strOfNums Uw).size ≤ 9223372036854775807 then (if x4 ≤ (wrap64 (x4 + 1)) then (if (wrap64 (x4 + 1)) ≤ (x0.size : Int) then (if (x3 ++ (strOfNums Uw)).size + (x0.extract (x4 : Int).toNat ((wrap64 (x4 + 1)) : Int).toNat).size ≤ 9223372036854775807 then (jT.l0 k x0 ((x3 ++ (strOfNums Uw)) ++ (x0.extract (x4 : Int).toNat ((wrap64 (x4 + 1)) : Int).toNat)) (wrap64 (x4 + 1))) else (none)) else (none)) else (none)) else (none))) else (if (bt x0 x4) = 92 then ((some (([92] : List Int) : List Int)).bind fun Ux => (if x3.size + (strOfNums Ux).size ≤ 9223372036854775807 then (if x4 ≤ (wrap64 (x4 + 1)) then (if (wrap64 (x4 + 1)) ≤ (x0.size : Int) then (if (x3 ++ (strOfNums Ux)).size + (x0.extract (x4 : Int).toNat ((wrap64 (x4 + 1)) : Int).toNat).size ≤ 9223372036854775807 then (jT.l0 k x0 ((x3 ++ (strOfNums Ux)) ++ (x0.extract (x4 : Int).toNat ((wrap64 (x4 + 1)) : Int).toNat)) (wrap64 (x4 + 1))) else (none)) else (none)) else (none)) else (none))) else (if x4 ≤ (wrap64 (x4 + 1)) then (if (wrap64 (x4 + 1)) ≤ (x0.size : Int) then (if x3.size + (x0.extract (x4 : Int).toNat ((wrap64 (x4 + 1)) : Int).toNat).size ≤ 9223372036854775807 then (jT.l0 k x0 (x3 ++ (x0.extract (x4 : Int).toNat ((wrap64 (x4 + 1)) : Int).toNat)) (wrap64 (x4 + 1))) else (none)) else (none)) else (none)))) else (none)) else (if x3.size + 1 ≤ 9223372036854775807 then (some (x3 ++ (⟨#[34]⟩ : ByteArray))) else (none))
def jT.f (k : Nat) (a0 : ByteArray) : Option (ByteArray) := jT.l0 k a0 (⟨#[34]⟩ : ByteArray) 0
theorem jT.calls {k : Nat} {a0 r : ByteArray} {w : World} (h : jT.f k a0 = some r) :
  Calls Tryz.prog 215 #[.string a0] w fun e w' => e = .returned (.string r) ∧ Below w.heap.size w w' := by
 have HB := ak (Below.refl w.heap.size w)
 unfold jT.f at h; have H := h
 clear h
 have H' := ak H; clear H
 go_enter Tryz.func215, Tryz.ntmps215
 go_wp2
 go_loopg [3, 4] k (fun kq v3 v4 w' => ∃ (dM : ByteArray) (dV : Int), v3 = .string dM ∧ v4 = .int .i64 dV ∧ ah (jT.l0 kq a0 dM dV = some r) ∧ ah (kq ≤ k) ∧ ah (Below w.heap.size w w'))
 case atStart => exact ⟨_, _, rs, rs, H', ⟨Nat.le_refl _⟩, ⟨ul HB.out⟩⟩
 case round =>
  clear H'
  obtain ⟨dM, dV, rfl, rfl, HA, xG, HB⟩ := hrel
  cases gk with
  | zero => exact zz HA.out
  | succ k1 =>
   obtain ⟨H⟩ := HA
   simp only [jT.l0] at H
   replace H := sd H
   rcases H with ⟨nT, H⟩ | ⟨nT, H⟩
   ·
    replace H := oL H; obtain ⟨iO, H⟩ := H; replace H := sq H
    rcases H with ⟨nO, JM, H⟩ | ⟨c5, nO, JM, H⟩
    ·
     replace H := ny H
     obtain ⟨Uw, aqz, H⟩ := H
     replace H := nn H; obtain ⟨c6, H⟩ := H
     have oz := eq_true c6
     have xH := decide_eq_true c6
     try have ahd : (9223372036854775807 < dM.size + (strOfNums Uw).size) = False := eq_false (Nat.not_lt.2 c6)
     have sD := eq_true (of_decide_eq_true (by assumption) : 0 ≤ dV)
     replace H := nn H; obtain ⟨c8, H⟩ := H
     have tu := eq_true c8
     have Dl := decide_eq_true c8
     replace H := nn H; obtain ⟨c9, H⟩ := H
     have yh := eq_true c9
     have Fz := decide_eq_true c9
     replace H := nn H; obtain ⟨c10, H⟩ := H
     have oC := eq_true c10
     have sS := decide_eq_true c10
     try have aqA : (9223372036854775807 < dM.size + (strOfNums Uw).size + ((a0.extract (dV : Int).toNat ((wrap64 (dV + 1)) : Int).toNat).size)) = False := by have h_ := c10; simp only [ByteArray.size_append, ByteArray.size_extract] at h_; refine eq_false ?_; simp only [decide_eq_true_eq] at *; omega
     try have ajJ : (9223372036854775807 < dM.size + (strOfNums Uw).size + ((a0.extract (dV : Int).toNat ((wrap64 (dV + 1)) : Int).toNat).size)) = False := by have h_ := (eq_false (Nat.not_lt.2 c10) : (9223372036854775807 < (dM ++ (strOfNums Uw)).size + (a0.extract (dV : Int).toNat ((wrap64 (dV + 1)) : Int).toNat).size) = False); simp only [ByteArray.size_append] at h_; exact h_
     try have ZB : (9223372036854775807 < (dM ++ (strOfNums Uw)).size + (a0.extract (dV : Int).toNat ((wrap64 (dV + 1)) : Int).toNat).size) = False := eq_false (Nat.not_lt.2 c10)
     have H' := ak H; clear H
     obtain ⟨p4, q4, hx4⟩ := bx a0 dV
     go_wp2_with (refine RF 22 (Kd.int .u8) 5 [.int .u8 92] aqz (dD.one (show Kd.M (Kd.int .u8) _ _ _ 92 [.int .u8 92] from rfl) (dD.none _ _)) ?_; intro aFd Ub adP hb; have aqB := ak (Kd.aC adP (aj (ul HB.out))); replace HB := bs HB hb; clear hb adP; have aBZ := qJ (P := Tryz.prog) Tryz.underlying22 Tryz.underlying5 Tryz.underlying9 (Kd.uX aqB.out))
     go_roundg k1
     case measure => exact kl
     case rel => exact ⟨_, _, rs, rs, H', ⟨kl⟩, ⟨ul HB.out⟩⟩
    ·
     replace H := sq H
     rcases H with ⟨wu, Fj, H⟩ | ⟨c15, wu, Fj, H⟩
     ·
      replace H := ny H
      obtain ⟨Ux, aqC, H⟩ := H
      replace H := nn H; obtain ⟨c16, H⟩ := H
      have zW := eq_true c16
      have JH := decide_eq_true c16
      try have aB0 : (9223372036854775807 < dM.size + (strOfNums Ux).size) = False := eq_false (Nat.not_lt.2 c16)
      have tJ := eq_true (of_decide_eq_true (by assumption) : 0 ≤ dV)
      replace H := nn H; obtain ⟨c18, H⟩ := H
      have zV := eq_true c18
      have PO := decide_eq_true c18
      replace H := nn H; obtain ⟨c19, H⟩ := H
      have Aw := eq_true c19
      have Ew := decide_eq_true c19
      replace H := nn H; obtain ⟨c20, H⟩ := H
      have SH := eq_true c20
      have V7 := decide_eq_true c20
      try have aB1 : (9223372036854775807 < dM.size + (strOfNums Ux).size + ((a0.extract (dV : Int).toNat ((wrap64 (dV + 1)) : Int).toNat).size)) = False := by have h_ := c20; simp only [ByteArray.size_append, ByteArray.size_extract] at h_; refine eq_false ?_; simp only [decide_eq_true_eq] at *; omega
      try have aB2 : (9223372036854775807 < dM.size + (strOfNums Ux).size + ((a0.extract (dV : Int).toNat ((wrap64 (dV + 1)) : Int).toNat).size)) = False := by have h_ := (eq_false (Nat.not_lt.2 c20) : (9223372036854775807 < (dM ++ (strOfNums Ux)).size + (a0.extract (dV : Int).toNat ((wrap64 (dV + 1)) : Int).toNat).size) = False); simp only [ByteArray.size_append] at h_; exact h_
      try have aB3 : (9223372036854775807 < (dM ++ (strOfNums Ux)).size + (a0.extract (dV : Int).toNat ((wrap64 (dV + 1)) : Int).toNat).size) = False := eq_false (Nat.not_lt.2 c20)
      have H' := ak H; clear H
      obtain ⟨p4, q4, hx4⟩ := bx a0 dV
      obtain ⟨p14, q14, amM⟩ := bx a0 dV
      go_wp2_with (refine RF 22 (Kd.int .u8) 5 [.int .u8 92] aqC (dD.one (show Kd.M (Kd.int .u8) _ _ _ 92 [.int .u8 92] from rfl) (dD.none _ _)) ?_; intro aFe w21 aqD hb; have aqE := ak (Kd.aC aqD (aj (ul HB.out))); replace HB := bs HB hb; clear hb aqD; have aB4 := qJ (P := Tryz.prog) Tryz.underlying22 Tryz.underlying5 Tryz.underlying9 (Kd.uX aqE.out))
      go_roundg k1
      case measure => exact kl
      case rel => exact ⟨_, _, rs, rs, H', ⟨kl⟩, ⟨ul HB.out⟩⟩
     ·
      have NS := eq_true (of_decide_eq_true (by assumption) : 0 ≤ dV)
      replace H := nn H; obtain ⟨c25, H⟩ := H
      have PU := eq_true c25
      have adQ := decide_eq_true c25
      replace H := nn H; obtain ⟨c26, H⟩ := H
      have NP := eq_true c26
      have ZC := decide_eq_true c26
      replace H := nn H; obtain ⟨c27, H⟩ := H
      have Fe := eq_true c27
      have ZE := decide_eq_true c27
      try have aB5 : (9223372036854775807 < dM.size + ((a0.extract (dV : Int).toNat ((wrap64 (dV + 1)) : Int).toNat).size)) = False := by have h_ := c27; simp only [ByteArray.size_append, ByteArray.size_extract] at h_; refine eq_false ?_; simp only [decide_eq_true_eq] at *; omega
      try have aB6 : (9223372036854775807 < dM.size + (a0.extract (dV : Int).toNat ((wrap64 (dV + 1)) : Int).toNat).size) = False := eq_false (Nat.not_lt.2 c27)
      have H' := ak H; clear H
      obtain ⟨p4, q4, hx4⟩ := bx a0 dV
      obtain ⟨p14, q14, amM⟩ := bx a0 dV
      go_wp2
      go_roundg k1
      case measure => exact kl
      case rel => exact ⟨_, _, rs, rs, H', ⟨kl⟩, ⟨ul HB.out⟩⟩
   ·
    replace H := nn H; obtain ⟨c28, H⟩ := H
    have Fg := eq_true c28
    have ZF := decide_eq_true c28
    try have aB7 : (9223372036854775807 < dM.size + 1) = False := eq_false (Nat.not_lt.2 c28)
    obtain rfl := s1 H
    go_wp2
    go_ret
    exact ⟨er, ul HB.out⟩
def qK.f (k : Nat) (a0 : ByteArray) : Option (ByteArray) := (aQ.f k a0).bind fun aqF => (if aqF = true then ((dZ.f k a0).bind fun aqG => (if aqG = true then (some a0) else ((jT.f k a0).bind fun aqH => (some aqH)))) else (some (⟨#[]⟩ : ByteArray)))
theorem qK.calls {k : Nat} {a0 r : ByteArray} {w : World} (h : qK.f k a0 = some r) :
  Calls Tryz.prog 202 #[.string a0] w fun e w' => e = .returned (.string r) ∧ Below w.heap.size w w' := by
 have HB := ak (Below.refl w.heap.size w)
 unfold qK.f at h; have H := h
 clear h
 replace H := bd H; obtain ⟨aqF, A2, H⟩ := H; replace H := sb H
 rcases H with ⟨rfl, H⟩ | ⟨rfl, H⟩
 ·
  replace H := bd H; obtain ⟨aqG, A4, H⟩ := H; replace H := sb H
  rcases H with ⟨rfl, H⟩ | ⟨rfl, H⟩
  ·
   obtain rfl := s1 H
   go_enter Tryz.func202, Tryz.ntmps202
   go_wp2_with (first | (refine gA Tryz.func159 (aQ.calls A2.out) ?_; intro nd) | (refine gA Tryz.func214 (dZ.calls A4.out) ?_; intro nd))
   go_ret
   exact ⟨er, ul HB.out⟩
  ·
   replace H := bd H; obtain ⟨aqH, A6, H⟩ := H
   obtain rfl := s1 H
   go_enter Tryz.func202, Tryz.ntmps202
   go_wp2_with (first | (refine gA Tryz.func159 (aQ.calls A2.out) ?_; intro nd) | (refine gA Tryz.func214 (dZ.calls A4.out) ?_; intro nd) | (refine gB Tryz.func215 (jT.calls A6.out) ?_; intro w7 hb; replace HB := bs HB hb; clear hb))
   go_ret
   exact ⟨er, ul HB.out⟩
 ·
  obtain rfl := s1 H
  go_enter Tryz.func202, Tryz.ntmps202
  go_wp2_with (refine gA Tryz.func159 (aQ.calls A2.out) ?_; intro nd)
  go_ret
  exact ⟨er, ul HB.out⟩
mutual
def aY.j0 : Nat → Bool → ByteArray → ByteArray → List (gU) → Option (Bool)
 | 0, _, _, _, _ => none
 | k + 1, x21, OZ, O1, xJ => if x21 = true then (some false) else (aY.l0 k (wrap64 ((wrap64 ((OZ.size : Int) + (O1.size : Int))) + 1)) 0 OZ O1 xJ)
def aY.l0 : Nat → Int → Int → ByteArray → ByteArray → List (gU) → Option (Bool)
 | 0, _, _, _, _, _ => none
 | k + 1, x3, x4, OZ, O1, xJ => if x4 < (xJ.length : Int) then (if 0 ≤ x4 then ((kN.f k ((fB xJ x4).f0)).bind fun aqI => (if aqI = true then ((rM.f k ((fB xJ x4).f1)).bind fun aqJ => (if aqJ = true then (if x4 ≤ (xJ.length : Int) then ((jK.f k (xJ.take (x4 : Int).toNat) ((fB xJ x4).f0)).bind fun ahe => (if ahe ≥ 0 then (some false) else ((qK.f k ((fB xJ x4).f1)).bind fun aqK => (aY.l0 k (wrap64 ((wrap64 ((wrap64 (x3 + 3)) + (((fB xJ x4).f0).size : Int))) + (aqK.size : Int))) (wrap64 (x4 + 1)) OZ O1 xJ)))) else (none)) else (some false))) else (some false))) else (none)) else (some (decide (x3 ≤ 150)))
end
def aY.f (k : Nat) (eG : ByteArray) (eU : ByteArray) (ay : List (gU)) : Option (Bool) := (kN.f k eG).bind fun aqL => (if aqL = true then ((kN.f k eU).bind fun aqM => (if aqM = true then (aY.j0 k (decide ((ay.length : Int) > 4)) eG eU ay) else (aY.j0 k true eG eU ay))) else (aY.j0 k true eG eU ay))
def aY.T8 : Bool × List (List Nat × List Nat) := (true, [([], []), ([0], [0]), ([1], [1]), ([2], [2]), ([3, 2], [3]), ([4], [4]), ([5, 4], [4, 5]), ([6, 4, 4], [4, 6]), ([7, 4], [4, 7]), ([4, 8], [4, 8]), ([9, 7], [9]), ([10], [10]), ([11, 10], [10, 11]), ([10], [10]), ([12, 13, 10], [10, 12, 13]), ([10], [10]), ([15, 10], [10, 15]), ([14, 16, 10, 10], [10, 14, 16]), ([17, 10], [10, 17]), ([10, 18], [10, 18])])
def aY.B8 : List Nat := [0, 1, 3, 7, 15, 31, 63, 127, 255, 511, 1023, 2047, 4095, 2047, 16383, 2047, 34815, 131071, 262143, 524287]
theorem aY.acp : sQ .any (opsOf Tryz.f182 8) = aY.T8 := by kernel_rfl
theorem aY.SK : nU aY.T8.2 aY.B8 = true := by kernel_rfl
def aY.T10 : Bool × List (List Nat × List Nat) := (true, [([], []), ([0], [0]), ([], []), ([2], [2]), ([3], [3]), ([1, 4], [1, 4]), ([], []), ([6], [6]), ([7], [7]), ([8], [8]), ([5, 9], [5, 9]), ([10, 8, 0, 1, 2, 3, 4, 5, 6, 7, 8, 9, 10], [0, 10])])
def aY.B10 : List Nat := [0, 1, 0, 4, 12, 31, 0, 64, 192, 448, 1023, 2047]
theorem aY.aB8 : sQ .any (opsOf Tryz.f182 10) = aY.T10 := by kernel_rfl
theorem aY.ayA : nU aY.T10.2 aY.B10 = true := by kernel_rfl
theorem aY.calls {k fA : Nat} {eG eU : ByteArray} {gW : Option Addr} {ay : List (gU)} {r : Bool} {w : World} (jG : Kd.C qj w gW ay.length ay) (jH : ay.length ≤ fA) (h : aY.f k eG eU ay = some r) :
  Calls Tryz.prog 182 #[.agg #[.string eG, .string eU, .slice gW ay.length fA]] w fun e w' => e = .returned (.bool r) ∧ Below w.heap.size w w' := by
 have Wj := Tryz.underlying61
 have DU := Tryz.underlying69
 have jh := ak jG
 have lC := ak jH
 clear jG jH
 have HB := ak (Below.refl w.heap.size w)
 unfold aY.f at h; have H := h
 clear h
 have HC2 := ak H
 clear H
 go_enter Tryz.func182, Tryz.ntmps182
 go_upto_region 1 with (refine gG 1 ?_; refine bX HB 1 #[.string eG, .string eU, .slice gW ay.length fA] 61 ?_; intro NU w3 iG aB9 hb; replace HB := bs HB hb; clear hb)
 (try simp only [Act.put, qQ, qR, l_c])
 go_cut [21] (fun v21 wc => ∃ (kq : Nat) (adR : Bool), v21 = .bool adR ∧ ah (aY.j0 kq adR eG eU ay = some r) ∧ ah (kq ≤ k) ∧ ah (wc.heap[NU]? = some (.cells #[.string eG, .string eU, (.slice gW ay.length fA)] 61 (0, 0))) ∧ ah (Below w.heap.size w wc))
 case first =>
  have H := HC2.out
  clear HC2
  replace H := bd H; obtain ⟨aqL, A4, H⟩ := H; replace H := sb H
  rcases H with ⟨rfl, H⟩ | ⟨rfl, H⟩
  ·
   replace H := bd H; obtain ⟨aqM, A6, H⟩ := H; replace H := sb H
   rcases H with ⟨rfl, H⟩ | ⟨rfl, H⟩
   ·
    have H' := ak H; clear H
    have z8 := jW iG.out
    go_wp2_with (first | (refine gB Tryz.func200 (kN.calls A4.out) ?_; intro w9 hb; replace iG := kb iG hb; replace HB := bz HB hb; clear hb; have z10 := jW iG.out) | (go_at_call 200; refine mB (kN.calls A6.out) ?_; intro Ub hb; replace iG := kb iG hb; replace HB := bz HB hb; clear hb; have z12 := jW iG.out))
    go_meet
    case rel => exact ⟨_, _, rs, H', ⟨Jq⟩, ⟨ub iG.out⟩, ⟨bb⟩⟩
   ·
    have H' := ak H; clear H
    have z13 := jW iG.out
    go_wp2_with (first | (refine gB Tryz.func200 (kN.calls A4.out) ?_; intro SA hb; replace iG := kb iG hb; replace HB := bz HB hb; clear hb; have z15 := jW iG.out) | (go_at_call 200; refine mB (kN.calls A6.out) ?_; intro w16 hb; replace iG := kb iG hb; replace HB := bz HB hb; clear hb))
    go_meet
    case rel => exact ⟨_, _, rs, H', ⟨Jq⟩, ⟨ub iG.out⟩, ⟨bb⟩⟩
  ·
   have H' := ak H; clear H
   have z17 := jW iG.out
   go_wp2_with (refine gB Tryz.func200 (kN.calls A4.out) ?_; intro w18 hb; replace iG := kb iG hb; replace HB := bz HB hb; clear hb)
   go_meet
   case rel => exact ⟨_, _, rs, H', ⟨Jq⟩, ⟨ub iG.out⟩, ⟨bb⟩⟩
 case rest =>
  clear HC2
  obtain ⟨kq, adR, rfl, HA, HJ1, iG, HB⟩ := hcut
  cases kq with
  | zero => exact zz HA.out
  | succ Ox =>
   obtain ⟨H⟩ := HA
   simp only [aY.j0] at H
   replace H := sb H
   rcases H with ⟨rfl, H⟩ | ⟨rfl, H⟩
   ·
    obtain rfl := s1 H
    go_wp2
    go_ret
    exact ⟨er, bb⟩
   ·
    have H' := ak H; clear H
    have z20 := jW iG.out
    go_wp2
    go_loopg [3, 4] Ox (fun kq v3 v4 w' => ∃ (kZ : Int) (oJ : Int), v3 = .int .i64 kZ ∧ v4 = .int .i64 oJ ∧ ah (aY.l0 kq kZ oJ eG eU ay = some r) ∧ ah (kq ≤ Ox) ∧ ah (w'.heap[NU]? = some (.cells #[.string eG, .string eU, (.slice gW ay.length fA)] 61 (0, 0))) ∧ ah (Below w.heap.size w w'))
    case atStart => exact ⟨_, _, rs, rs, H', ⟨Nat.le_refl _⟩, ⟨ub iG.out⟩, ⟨bb⟩⟩
    case round =>
     clear H'
     obtain ⟨kZ, oJ, rfl, rfl, HA, Zw, iG, HB⟩ := hrel
     cases gk with
     | zero => exact zz HA.out
     | succ k2 =>
      obtain ⟨H⟩ := HA
      simp only [aY.l0] at H
      replace H := sd H
      rcases H with ⟨Ez, H⟩ | ⟨Ez, H⟩
      ·
       replace H := oL H; obtain ⟨Fv, H⟩ := H; replace H := bd H; obtain ⟨aqI, A23, H⟩ := H; replace H := sb H
       rcases H with ⟨rfl, H⟩ | ⟨rfl, H⟩
       ·
        replace H := bd H; obtain ⟨aqJ, Ya, H⟩ := H; replace H := sb H
        rcases H with ⟨rfl, H⟩ | ⟨rfl, H⟩
        ·
         have Fe := eq_true (of_decide_eq_true (by assumption) : 0 ≤ oJ)
         replace H := Ac H; obtain ⟨Fg, ZF, H⟩ := H
         obtain ⟨ahf, Wn⟩ := nm (ay.take (oJ : Int).toNat)
         rw [← Wn.out] at H
         replace H := bd H; obtain ⟨ahe, A29, H⟩ := H; replace H := sp H
         rcases H with ⟨c30, H⟩ | ⟨c30, H⟩
         ·
          have ZG : decide (0 ≤ ahe) = true := decide_eq_true c30
          clear c30
          obtain rfl := s1 H
          have z31 := jW iG.out
          have II := zi oJ
          have IJ := zj oJ ay.length
          obtain ⟨JQ, Yb, xK, xM⟩ := qX jh.out oJ II IJ
          cases Yb
          replace xK := cl HB.out xK
          replace xM := cl HB.out xM
          replace II := eq_true II
          replace IJ := eq_true IJ
          try go_wp2_with (refine gG 5 ?_; refine bY HB 5 #[.string (⟨#[]⟩ : ByteArray), .string (⟨#[]⟩ : ByteArray)] 69 ?_; intro Dp w32 mZ PZ hg hb; have sU := BL iG hg; have yD := BM iG hg; replace iG := kb iG hb; replace HB := bz HB hb; clear hb hg; have apI := yD.out; have apJ := sU.out; have z34 := zQ mZ.out)
          refine ab2 HB mZ PZ ?_
          intro w35 Az hk HB
          replace iG := kf iG hk sU
          clear hk mZ
          have mZ := Az; clear Az
          refine rO [2, 7, 17] [0, 1, 2, 3, 4, 5, 6, 7, 8, 9, 10, 11, 13, 15, 12, 14, 16, 17, 18, 19] (fun w' => w'.cell? ⟨Dp, 0, none⟩ = some (.string ((fB ay oJ).f0)) ∧ w'.cell? ⟨Dp, 1, none⟩ = some (.string ((fB ay oJ).f1)) ∧ w'.cell? ⟨NU, 0, none⟩ = some (.string eG) ∧ w'.cell? ⟨NU, 1, none⟩ = some (.string eU) ∧ w'.cell? ⟨NU, 2, none⟩ = some (.slice (some JQ) ay.length fA)) ?_
          intro w36 hb
          replace iG := kb iG hb
          replace mZ := kb mZ hb
          replace HB := bs HB hb
          refine ⟨sx, ?_⟩
          repeat refine zF ?_
          refine rB Tryz.func200 (kN.calls A23.out) ?_
          intro w37 hb
          replace iG := kb iG hb
          replace mZ := kb mZ hb
          replace HB := bz HB hb
          clear hb
          refine ⟨sx, ?_⟩
          repeat refine zF ?_
          refine rA Tryz.func201 (rM.calls Ya.out) ?_
          intro nd
          have q38 : (oJ : Int) ≤ ((ay.length : Int) : Int) := of_decide_eq_true (by assumption)
          obtain ⟨aFf, ajK, _, aqN, _⟩ := info_parts Dc
          have ZH : ay.length ≤ fA := lC.out
          have aqO : Kd.C qj _ (some JQ) ay.length ay := jh.out
          have amN := Uy (P := Tryz.prog) 25 69 .i64 Tryz.underlying25 ajK (some JQ) ay.length fA oJ (of_decide_eq_true (by assumption)) q38 ZH
          have amO := Kd.Uz (m := (oJ : Int).toNat) aqO (by omega)
          have hy38 : ahf.length = (oJ : Int).toNat := (by rw [Wn.out, List.length_take]; omega)
          rw [← Wn.out] at amO
          rw [← hy38] at amN
          have adS := ak amO
          have adT := ak (show ahf.length ≤ fA from by omega)
          clear amO aqO ZH ajK aqN
          have aFg := ak hy38
          clear hy38
          replace q38 := eq_true q38
          refine ⟨sx, ?_⟩
          repeat refine zF ?_
          refine rB Tryz.func177 (jK.calls (cu (Kd.aN adS.out bb)) adT.out A29.out) ?_
          intro w39 hb
          replace iG := kb iG hb
          replace mZ := kb mZ hb
          replace HB := bz HB hb
          clear hb
          refine ⟨sx, ?_⟩
          repeat refine zF ?_
          refine on ?_
          try go_wp2
          go_ret
          exact ⟨er, bb⟩
         ·
          have ZG : decide (0 ≤ ahe) = false := decide_eq_false c30
          clear c30
          replace H := bd H; obtain ⟨aqK, A40, H⟩ := H
          have H' := ak H; clear H
          have aKb := jW iG.out
          have II := zi oJ
          have IJ := zj oJ ay.length
          obtain ⟨JQ, Yb, xK, xM⟩ := qX jh.out oJ II IJ
          cases Yb
          replace xK := cl HB.out xK
          replace xM := cl HB.out xM
          replace II := eq_true II
          replace IJ := eq_true IJ
          try go_wp2_with (refine gG 5 ?_; refine bY HB 5 #[.string (⟨#[]⟩ : ByteArray), .string (⟨#[]⟩ : ByteArray)] 69 ?_; intro Dp w42 mZ PZ hg hb; have sU := BL iG hg; have yD := BM iG hg; replace iG := kb iG hb; replace HB := bz HB hb; clear hb hg; have aB_ := yD.out; have aCa := sU.out; have aKc := zQ mZ.out)
          refine ab2 HB mZ PZ ?_
          intro w45 Az hk HB
          replace iG := kf iG hk sU
          clear hk mZ
          have mZ := Az; clear Az
          refine rO [2, 7, 17] [0, 1, 2, 3, 4, 5, 6, 7, 8, 9, 10, 11, 13, 15, 12, 14, 16, 17, 18, 19] (fun w' => w'.cell? ⟨Dp, 0, none⟩ = some (.string ((fB ay oJ).f0)) ∧ w'.cell? ⟨Dp, 1, none⟩ = some (.string ((fB ay oJ).f1)) ∧ w'.cell? ⟨NU, 0, none⟩ = some (.string eG) ∧ w'.cell? ⟨NU, 1, none⟩ = some (.string eU) ∧ w'.cell? ⟨NU, 2, none⟩ = some (.slice (some JQ) ay.length fA)) ?_
          intro w46 hb
          replace iG := kb iG hb
          replace mZ := kb mZ hb
          replace HB := bs HB hb
          refine ⟨sx, ?_⟩
          repeat refine zF ?_
          refine rB Tryz.func200 (kN.calls A23.out) ?_
          intro w47 hb
          replace iG := kb iG hb
          replace mZ := kb mZ hb
          replace HB := bz HB hb
          clear hb
          refine ⟨sx, ?_⟩
          repeat refine zF ?_
          refine rA Tryz.func201 (rM.calls Ya.out) ?_
          intro nd
          have q48 : (oJ : Int) ≤ ((ay.length : Int) : Int) := of_decide_eq_true (by assumption)
          obtain ⟨aFh, ajL, _, aqP, _⟩ := info_parts Dc
          have ZI : ay.length ≤ fA := lC.out
          have aqQ : Kd.C qj _ (some JQ) ay.length ay := jh.out
          have amP := Uy (P := Tryz.prog) 25 69 .i64 Tryz.underlying25 ajL (some JQ) ay.length fA oJ (of_decide_eq_true (by assumption)) q48 ZI
          have amQ := Kd.Uz (m := (oJ : Int).toNat) aqQ (by omega)
          have amR : ahf.length = (oJ : Int).toNat := (by rw [Wn.out, List.length_take]; omega)
          rw [← Wn.out] at amQ
          rw [← amR] at amP
          have adS := ak amQ
          have adT := ak (show ahf.length ≤ fA from by omega)
          clear amQ aqQ ZI ajL aqP
          have aFi := ak amR
          clear amR
          replace q48 := eq_true q48
          refine ⟨sx, ?_⟩
          repeat refine zF ?_
          refine rB Tryz.func177 (jK.calls (cu (Kd.aN adS.out bb)) adT.out A29.out) ?_
          intro w49 hb
          replace iG := kb iG hb
          replace mZ := kb mZ hb
          replace HB := bz HB hb
          clear hb
          refine ⟨sx, ?_⟩
          repeat refine zF ?_
          refine on ?_
          try go_wp2
          refine rO [8] [0, 1, 2, 6, 3, 4, 5, 7, 8, 9, 10, 11] (fun w' => w'.cell? ⟨Dp, 0, none⟩ = some (.string ((fB ay oJ).f0)) ∧ w'.cell? ⟨Dp, 1, none⟩ = some (.string ((fB ay oJ).f1))) ?_
          intro w50 hb
          replace iG := kb iG hb
          replace mZ := kb mZ hb
          replace HB := bs HB hb
          refine ⟨sx, ?_⟩
          repeat refine zF ?_
          refine rB Tryz.func202 (qK.calls A40.out) ?_
          intro w51 hb
          replace iG := kb iG hb
          replace mZ := kb mZ hb
          replace HB := bz HB hb
          clear hb
          refine ⟨sx, ?_⟩
          repeat refine zF ?_
          refine on ?_
          try go_wp2
          go_roundg k2
          case measure => exact kl
          case rel => exact ⟨_, _, rs, rs, H', ⟨kl⟩, ⟨ub iG.out⟩, ⟨bb⟩⟩
        ·
         obtain rfl := s1 H
         have z52 := jW iG.out
         have II := zi oJ
         have IJ := zj oJ ay.length
         obtain ⟨JQ, Yb, xK, xM⟩ := qX jh.out oJ II IJ
         cases Yb
         replace xK := cl HB.out xK
         replace xM := cl HB.out xM
         replace II := eq_true II
         replace IJ := eq_true IJ
         try go_wp2_with (refine gG 5 ?_; refine bY HB 5 #[.string (⟨#[]⟩ : ByteArray), .string (⟨#[]⟩ : ByteArray)] 69 ?_; intro Dp w53 mZ PZ hg hb; have sU := BL iG hg; have yD := BM iG hg; replace iG := kb iG hb; replace HB := bz HB hb; clear hb hg; have aCb := yD.out; have aCc := sU.out; have z55 := zQ mZ.out)
         refine ab2 HB mZ PZ ?_
         intro w56 Az hk HB
         replace iG := kf iG hk sU
         clear hk mZ
         have mZ := Az; clear Az
         refine rO [2, 7] [0, 1, 2, 3, 4, 5, 6, 7, 8, 9, 10, 11, 12, 13, 14, 15, 16, 17, 18, 19] (fun w' => w'.cell? ⟨Dp, 0, none⟩ = some (.string ((fB ay oJ).f0)) ∧ w'.cell? ⟨Dp, 1, none⟩ = some (.string ((fB ay oJ).f1))) ?_
         intro w57 hb
         replace iG := kb iG hb
         replace mZ := kb mZ hb
         replace HB := bs HB hb
         refine ⟨sx, ?_⟩
         repeat (first | refine zF ?_ | refine Un ?_)
         refine rB Tryz.func200 (kN.calls A23.out) ?_
         intro w58 hb
         replace iG := kb iG hb
         replace mZ := kb mZ hb
         replace HB := bz HB hb
         clear hb
         refine ⟨sx, ?_⟩
         repeat (first | refine zF ?_ | refine Un ?_)
         refine rA Tryz.func201 (rM.calls Ya.out) ?_
         intro nd
         refine ⟨sx, ?_⟩
         repeat (first | refine zF ?_ | refine Un ?_)
         refine on ?_
         try go_wp2
         go_ret
         exact ⟨er, bb⟩
       ·
        obtain rfl := s1 H
        have z59 := jW iG.out
        have II := zi oJ
        have IJ := zj oJ ay.length
        obtain ⟨JQ, Yb, xK, xM⟩ := qX jh.out oJ II IJ
        cases Yb
        replace xK := cl HB.out xK
        replace xM := cl HB.out xM
        replace II := eq_true II
        replace IJ := eq_true IJ
        try go_wp2_with (refine gG 5 ?_; refine bY HB 5 #[.string (⟨#[]⟩ : ByteArray), .string (⟨#[]⟩ : ByteArray)] 69 ?_; intro Dp SC mZ PZ hg hb; have sU := BL iG hg; have yD := BM iG hg; replace iG := kb iG hb; replace HB := bz HB hb; clear hb hg; have aCd := yD.out; have aCe := sU.out; have z62 := zQ mZ.out)
        refine ab2 HB mZ PZ ?_
        intro w63 Az hk HB
        replace iG := kf iG hk sU
        clear hk mZ
        have mZ := Az; clear Az
        refine rO [2] [0, 1, 2, 3, 4, 5, 6, 7, 8, 9, 10, 11, 12, 13, 14, 15, 16, 17, 18, 19] (fun w' => w'.cell? ⟨Dp, 0, none⟩ = some (.string ((fB ay oJ).f0)) ∧ w'.cell? ⟨Dp, 1, none⟩ = some (.string ((fB ay oJ).f1))) ?_
        intro w64 hb
        replace iG := kb iG hb
        replace mZ := kb mZ hb
        replace HB := bs HB hb
        refine ⟨sx, ?_⟩
        repeat (first | refine zF ?_ | refine Un ?_)
        refine rB Tryz.func200 (kN.calls A23.out) ?_
        intro w65 hb
        replace iG := kb iG hb
        replace mZ := kb mZ hb
        replace HB := bz HB hb
        clear hb
        refine ⟨sx, ?_⟩
        repeat (first | refine zF ?_ | refine Un ?_)
        refine on ?_
        try go_wp2
        go_ret
        exact ⟨er, bb⟩
      ·
       obtain rfl := s1 H
       have z66 := jW iG.out
       go_wp2
       go_ret
       exact ⟨er, bb⟩
end Go.Proofs.YtncdadcmghglkaaGreatDoor.PFnKidValid
