/- Printed walks; conditions: those in each statement. -/
import Derived.Test.YtncdadcmghglkaaGreatDoorVFnPartValidQt
import Derived.Test.YtncdadcmghglkaaGreatDoorVFnPartValidYt
import Derived.Test.YtncdadcmghglkaaGreatDoorPFnPartValidx0
import Derived.Test.YtncdadcmghglkaaGreatDoorPFnPartValidx14
-- short
-- dense
-- sq
-- sq2
namespace Go.Proofs.YtncdadcmghglkaaGreatDoor.PFnPartValid
open Go.RowKit Go.Proofs.YtncdadcmghglkaaGreatDoor.X Go.Proofs.YtncdadcmghglkaaGreatDoorW.bK Go.Proofs.YtncdadcmghglkaaGreatDoorW.gY Go.Proofs.YtncdadcmghglkaaGreatDoorW.iU
attribute [local go_sem] lu lC ng ni jO jP lD lF   -- for this text's walks alone
set_option linter.unusedVariables false
set_option maxHeartbeats 8000000
set_option maxRecDepth 100000
set_option linter.unusedSimpArgs false
def kR.l0 : Nat → ByteArray → ByteArray → Int → Option (ByteArray)
 | 0, _, _, _ => none
 | k + 1, x0, x3, x4 => if x4 < (x0.size : Int) then (if 0 ≤ x4 then (if (bt x0 x4) = 34 then ((some (([92] : List Int) : List Int)).bind fun Vp => (if x3.size + (strOfNums Vp).size ≤ 9223372036854775807 then (if x4 ≤ (wrap64 (x4 + 1)) then (if (wrap64 (x4 + 1)) ≤ (x0.size : Int) then (if (x3 ++ (strOfNums Vp)).size + (x0.extract (x4 : Int).toNat ((wrap64 (x4 + 1)) : Int).toNat).size ≤ 9223372036854775807 then (kR.l0 k x0 ((x3 ++ (strOfNums Vp)) ++ (x0.extract (x4 : Int).toNat ((wrap64 (x4 + 1)) : Int).toNat)) (wrap64 (x4 + 1))) else (none)) else (none)) else (none)) else (none))) else (if (bt x0 x4) = 92 then ((some (([92] : List Int) : List Int)).bind fun Vq => (if x3.size + (strOfNums Vq).size ≤ 9223372036854775807 then (if x4 ≤ (wrap64 (x4 + 1)) then (if (wrap64 (x4 + 1)) ≤ (x0.size : Int) then (if (x3 ++ (strOfNums Vq)).size + (x0.extract (x4 : Int).toNat ((wrap64 (x4 + 1)) : Int).toNat).size ≤ 9223372036854775807 then (kR.l0 k x0 ((x3 ++ (strOfNums Vq)) ++ (x0.extract (x4 : Int).toNat ((wrap64 (x4 + 1)) : Int).toNat)) (wrap64 (x4 + 1))) else (none)) else (none)) else (none)) else (none))) else (if x4 ≤ (wrap64 (x4 + 1)) then (if (wrap64 (x4 + 1)) ≤ (x0.size : Int) then (if x3.size + (x0.extract (x4 : Int).toNat ((wrap64 (x4 + 1)) : Int).toNat).size ≤ 9223372036854775807 then (kR.l0 k x0 (x3 ++ (x0.extract (x4 : Int).toNat ((wrap64 (x4 + 1)) : Int).toNat)) (wrap64 (x4 + 1))) else (none)) else (none)) else (none)))) else (none)) else (if x3.size + 1 ≤ 9223372036854775807 then (some (x3 ++ (⟨#[34]⟩ : ByteArray))) else (none))
def kR.f (k : Nat) (a0 : ByteArray) : Option (ByteArray) := kR.l0 k a0 (⟨#[34]⟩ : ByteArray) 0
theorem kR.calls {k : Nat} {a0 r : ByteArray} {w : World} (h : kR.f k a0 = some r) :
  Calls Tryz.prog 215 #[.string a0] w fun e w' => e = .returned (.string r) ∧ Below w.heap.size w w' := by
 have HB := ak (Below.refl w.heap.size w)
 unfold kR.f at h; have H := h
 clear h
 have H' := ak H; clear H
 go_enter Tryz.func215, Tryz.ntmps215
 go_wp2
 go_loopg [3, 4] k (fun kq v3 v4 w' => ∃ (dZ : ByteArray) (fG : Int), v3 = .string dZ ∧ v4 = .int .i64 fG ∧ ah (kR.l0 kq a0 dZ fG = some r) ∧ ah (kq ≤ k) ∧ ah (Below w.heap.size w w'))
 case atStart => exact ⟨_, _, rs, rs, H', ⟨Nat.le_refl _⟩, ⟨ul HB.out⟩⟩
 case round =>
  clear H'
  obtain ⟨dZ, fG, rfl, rfl, HA, yB, HB⟩ := hrel
  cases gk with
  | zero => exact zz HA.out
  | succ k1 =>
   obtain ⟨H⟩ := HA
   simp only [kR.l0] at H
   replace H := sd H
   rcases H with ⟨o_, H⟩ | ⟨o_, H⟩
   ·
    replace H := oN H; obtain ⟨iP, H⟩ := H; replace H := sq H
    rcases H with ⟨nR, Kv, H⟩ | ⟨c5, nR, Kv, H⟩
    ·
     replace H := ny H
     obtain ⟨Vp, arj, H⟩ := H
     replace H := nn H; obtain ⟨c6, H⟩ := H
     have oJ := eq_true c6
     have yT := decide_eq_true c6
     try have ahJ : (9223372036854775807 < dZ.size + (strOfNums Vp).size) = False := eq_false (Nat.not_lt.2 c6)
     have sH := eq_true (of_decide_eq_true (by assumption) : 0 ≤ fG)
     replace H := nn H; obtain ⟨c8, H⟩ := H
     have uj := eq_true c8
     have DU := decide_eq_true c8
     replace H := nn H; obtain ⟨c9, H⟩ := H
     have zu := eq_true c9
     have Gn := decide_eq_true c9
     replace H := nn H; obtain ⟨c10, H⟩ := H
     have pF := eq_true c10
     have uI := decide_eq_true c10
     try have ark : (9223372036854775807 < dZ.size + (strOfNums Vp).size + ((a0.extract (fG : Int).toNat ((wrap64 (fG + 1)) : Int).toNat).size)) = False := by have h_ := c10; simp only [ByteArray.size_append, ByteArray.size_extract] at h_; refine eq_false ?_; simp only [decide_eq_true_eq] at *; omega
     try have akn : (9223372036854775807 < dZ.size + (strOfNums Vp).size + ((a0.extract (fG : Int).toNat ((wrap64 (fG + 1)) : Int).toNat).size)) = False := by have h_ := (eq_false (Nat.not_lt.2 c10) : (9223372036854775807 < (dZ ++ (strOfNums Vp)).size + (a0.extract (fG : Int).toNat ((wrap64 (fG + 1)) : Int).toNat).size) = False); simp only [ByteArray.size_append] at h_; exact h_
     try have aaS : (9223372036854775807 < (dZ ++ (strOfNums Vp)).size + (a0.extract (fG : Int).toNat ((wrap64 (fG + 1)) : Int).toNat).size) = False := eq_false (Nat.not_lt.2 c10)
     have H' := ak H; clear H
     obtain ⟨p4, q4, hx4⟩ := bx a0 fG
     go_wp2_with (refine SX 22 (Kd.int .u8) 5 [.int .u8 92] arj (dK.one (show Kd.M (Kd.int .u8) _ _ _ 92 [.int .u8 92] from rfl) (dK.none _ _)) ?_; intro aFp U2 aeK hb; have arl := ak (Kd.aG aeK (aj (ul HB.out))); replace HB := bs HB hb; clear hb aeK; have aBX := r_ (P := Tryz.prog) Tryz.underlying22 Tryz.underlying5 Tryz.underlying9 (Kd.wI arl.out))
     go_roundg k1
     case measure => exact kl
     case rel => exact ⟨_, _, rs, rs, H', ⟨kl⟩, ⟨ul HB.out⟩⟩
    ·
     replace H := sq H
     rcases H with ⟨xq, Gi, H⟩ | ⟨c15, xq, Gi, H⟩
     ·
      replace H := ny H
      obtain ⟨Vq, arn, H⟩ := H
      replace H := nn H; obtain ⟨c16, H⟩ := H
      have AP := eq_true c16
      have Ko := decide_eq_true c16
      try have aBY : (9223372036854775807 < dZ.size + (strOfNums Vq).size) = False := eq_false (Nat.not_lt.2 c16)
      have uQ := eq_true (of_decide_eq_true (by assumption) : 0 ≤ fG)
      replace H := nn H; obtain ⟨c18, H⟩ := H
      have AQ := eq_true c18
      have QI := decide_eq_true c18
      replace H := nn H; obtain ⟨c19, H⟩ := H
      have BD := eq_true c19
      have Fb := decide_eq_true c19
      replace H := nn H; obtain ⟨c20, H⟩ := H
      have TS := eq_true c20
      have Xx := decide_eq_true c20
      try have aBZ : (9223372036854775807 < dZ.size + (strOfNums Vq).size + ((a0.extract (fG : Int).toNat ((wrap64 (fG + 1)) : Int).toNat).size)) = False := by have h_ := c20; simp only [ByteArray.size_append, ByteArray.size_extract] at h_; refine eq_false ?_; simp only [decide_eq_true_eq] at *; omega
      try have aB0 : (9223372036854775807 < dZ.size + (strOfNums Vq).size + ((a0.extract (fG : Int).toNat ((wrap64 (fG + 1)) : Int).toNat).size)) = False := by have h_ := (eq_false (Nat.not_lt.2 c20) : (9223372036854775807 < (dZ ++ (strOfNums Vq)).size + (a0.extract (fG : Int).toNat ((wrap64 (fG + 1)) : Int).toNat).size) = False); simp only [ByteArray.size_append] at h_; exact h_
      try have aB1 : (9223372036854775807 < (dZ ++ (strOfNums Vq)).size + (a0.extract (fG : Int).toNat ((wrap64 (fG + 1)) : Int).toNat).size) = False := eq_false (Nat.not_lt.2 c20)
      have H' := ak H; clear H
      obtain ⟨p4, q4, hx4⟩ := bx a0 fG
      obtain ⟨p14, q14, anh⟩ := bx a0 fG
      go_wp2_with (refine SX 22 (Kd.int .u8) 5 [.int .u8 92] arn (dK.one (show Kd.M (Kd.int .u8) _ _ _ 92 [.int .u8 92] from rfl) (dK.none _ _)) ?_; intro aFq w21 aro hb; have arp := ak (Kd.aG aro (aj (ul HB.out))); replace HB := bs HB hb; clear hb aro; have aB2 := r_ (P := Tryz.prog) Tryz.underlying22 Tryz.underlying5 Tryz.underlying9 (Kd.wI arp.out))
      go_roundg k1
      case measure => exact kl
      case rel => exact ⟨_, _, rs, rs, H', ⟨kl⟩, ⟨ul HB.out⟩⟩
     ·
      have QK := eq_true (of_decide_eq_true (by assumption) : 0 ≤ fG)
      replace H := nn H; obtain ⟨c25, H⟩ := H
      have QE := eq_true c25
      have aep := decide_eq_true c25
      replace H := nn H; obtain ⟨c26, H⟩ := H
      have OO := eq_true c26
      have aaI := decide_eq_true c26
      replace H := nn H; obtain ⟨c27, H⟩ := H
      have Gf := eq_true c27
      have aaT := decide_eq_true c27
      try have aB3 : (9223372036854775807 < dZ.size + ((a0.extract (fG : Int).toNat ((wrap64 (fG + 1)) : Int).toNat).size)) = False := by have h_ := c27; simp only [ByteArray.size_append, ByteArray.size_extract] at h_; refine eq_false ?_; simp only [decide_eq_true_eq] at *; omega
      try have aB4 : (9223372036854775807 < dZ.size + (a0.extract (fG : Int).toNat ((wrap64 (fG + 1)) : Int).toNat).size) = False := eq_false (Nat.not_lt.2 c27)
      have H' := ak H; clear H
      obtain ⟨p4, q4, hx4⟩ := bx a0 fG
      obtain ⟨p14, q14, anh⟩ := bx a0 fG
      go_wp2
      go_roundg k1
      case measure => exact kl
      case rel => exact ⟨_, _, rs, rs, H', ⟨kl⟩, ⟨ul HB.out⟩⟩
   ·
    replace H := nn H; obtain ⟨c28, H⟩ := H
    have Gg := eq_true c28
    have aaU := decide_eq_true c28
    try have aB5 : (9223372036854775807 < dZ.size + 1) = False := eq_false (Nat.not_lt.2 c28)
    obtain rfl := s1 H
    go_wp2
    go_ret
    exact ⟨er, ul HB.out⟩
def su.f (k : Nat) (a0 : ByteArray) : Option (ByteArray) := (aQ.f k a0).bind fun arq => (if arq = true then ((fB.f k a0).bind fun ars => (if ars = true then (some a0) else ((kR.f k a0).bind fun aru => (some aru)))) else (some (⟨#[]⟩ : ByteArray)))
theorem su.calls {k : Nat} {a0 r : ByteArray} {w : World} (h : su.f k a0 = some r) :
  Calls Tryz.prog 202 #[.string a0] w fun e w' => e = .returned (.string r) ∧ Below w.heap.size w w' := by
 have HB := ak (Below.refl w.heap.size w)
 unfold su.f at h; have H := h
 clear h
 replace H := bd H; obtain ⟨arq, A2, H⟩ := H; replace H := sb H
 rcases H with ⟨rfl, H⟩ | ⟨rfl, H⟩
 ·
  replace H := bd H; obtain ⟨ars, A4, H⟩ := H; replace H := sb H
  rcases H with ⟨rfl, H⟩ | ⟨rfl, H⟩
  ·
   obtain rfl := s1 H
   go_enter Tryz.func202, Tryz.ntmps202
   go_wp2_with (first | (refine gA Tryz.func159 (aQ.calls A2.out) ?_; intro nd) | (refine gA Tryz.func214 (fB.calls A4.out) ?_; intro nd))
   go_ret
   exact ⟨er, ul HB.out⟩
  ·
   replace H := bd H; obtain ⟨aru, A6, H⟩ := H
   obtain rfl := s1 H
   go_enter Tryz.func202, Tryz.ntmps202
   go_wp2_with (first | (refine gA Tryz.func159 (aQ.calls A2.out) ?_; intro nd) | (refine gA Tryz.func214 (fB.calls A4.out) ?_; intro nd) | (refine gB Tryz.func215 (kR.calls A6.out) ?_; intro w7 hb; replace HB := bs HB hb; clear hb))
   go_ret
   exact ⟨er, ul HB.out⟩
 ·
  obtain rfl := s1 H
  go_enter Tryz.func202, Tryz.ntmps202
  go_wp2_with (refine gA Tryz.func159 (aQ.calls A2.out) ?_; intro nd)
  go_ret
  exact ⟨er, ul HB.out⟩
mutual
def bC.j0 : Nat → Bool → ByteArray → ByteArray → List (gK) → Option (Bool)
 | 0, _, _, _, _ => none
 | k + 1, x21, Qa, Qb, yX => if x21 = true then (some false) else (bC.l0 k (wrap64 ((wrap64 ((Qa.size : Int) + (Qb.size : Int))) + 1)) 0 Qa Qb yX)
def bC.l0 : Nat → Int → Int → ByteArray → ByteArray → List (gK) → Option (Bool)
 | 0, _, _, _, _, _ => none
 | k + 1, x3, x4, Qa, Qb, yX => if x4 < (yX.length : Int) then (if 0 ≤ x4 then ((lG.f k ((dY yX x4).f0)).bind fun arv => (if arv = true then ((tX.f k ((dY yX x4).f1)).bind fun arw => (if arw = true then (if x4 ≤ (yX.length : Int) then ((kG.f k (yX.take (x4 : Int).toNat) ((dY yX x4).f0)).bind fun ahU => (if ahU ≥ 0 then (some false) else ((su.f k ((dY yX x4).f1)).bind fun arx => (bC.l0 k (wrap64 ((wrap64 ((wrap64 (x3 + 3)) + (((dY yX x4).f0).size : Int))) + (arx.size : Int))) (wrap64 (x4 + 1)) Qa Qb yX)))) else (none)) else (some false))) else (some false))) else (none)) else (some (decide (x3 ≤ 150)))
end
def bC.f (k : Nat) (fC : ByteArray) (fH : ByteArray) (aC : List (gK)) : Option (Bool) := (lG.f k fC).bind fun arz => (if arz = true then ((lG.f k fH).bind fun arA => (if arA = true then (bC.j0 k (decide ((aC.length : Int) > 4)) fC fH aC) else (bC.j0 k true fC fH aC))) else (bC.j0 k true fC fH aC))
theorem bC.calls {k fM : Nat} {fC fH : ByteArray} {iC : Option Addr} {aC : List (gK)} {r : Bool} {w : World} (jY : Kd.C pU w iC aC.length aC) (jZ : aC.length ≤ fM) (h : bC.f k fC fH aC = some r) :
  Calls Tryz.prog 182 #[.agg #[.string fC, .string fH, .slice iC aC.length fM]] w fun e w' => e = .returned (.bool r) ∧ Below w.heap.size w w' := by
 have Xh := Tryz.underlying61
 have DK := Tryz.underlying69
 have jQ := ak jY
 have nC := ak jZ
 clear jY jZ
 have HB := ak (Below.refl w.heap.size w)
 unfold bC.f at h; have H := h
 clear h
 have HC2 := ak H
 clear H
 go_enter Tryz.func182, Tryz.ntmps182
 go_upto_region 1 with (refine gG 1 ?_; refine bX HB 1 #[.string fC, .string fH, .slice iC aC.length fM] 61 ?_; intro OX w3 iQ aB7 hb; replace HB := bs HB hb; clear hb)
 (try simp only [Act.put, sK, sN, l_c])
 go_cut [21] (fun v21 wc => ∃ (kq : Nat) (aeL : Bool), v21 = .bool aeL ∧ ah (bC.j0 kq aeL fC fH aC = some r) ∧ ah (kq ≤ k) ∧ ah (wc.heap[OX]? = some (.cells #[.string fC, .string fH, (.slice iC aC.length fM)] 61 (0, 0))) ∧ ah (Below w.heap.size w wc))
 case first =>
  have H := HC2.out
  clear HC2
  replace H := bd H; obtain ⟨arz, A4, H⟩ := H; replace H := sb H
  rcases H with ⟨rfl, H⟩ | ⟨rfl, H⟩
  ·
   replace H := bd H; obtain ⟨arA, A6, H⟩ := H; replace H := sb H
   rcases H with ⟨rfl, H⟩ | ⟨rfl, H⟩
   ·
    have H' := ak H; clear H
    have z8 := ku iQ.out
    go_wp2_with (first | (refine gB Tryz.func200 (lG.calls A4.out) ?_; intro w9 hb; replace iQ := kb iQ hb; replace HB := bz HB hb; clear hb; have z10 := ku iQ.out) | (go_at_call 200; refine mB (lG.calls A6.out) ?_; intro U2 hb; replace iQ := kb iQ hb; replace HB := bz HB hb; clear hb; have z12 := ku iQ.out))
    go_meet
    case rel => exact ⟨_, _, rs, H', ⟨JF⟩, ⟨ub iQ.out⟩, ⟨bb⟩⟩
   ·
    have H' := ak H; clear H
    have z13 := ku iQ.out
    go_wp2_with (first | (refine gB Tryz.func200 (lG.calls A4.out) ?_; intro Tc hb; replace iQ := kb iQ hb; replace HB := bz HB hb; clear hb; have OH := ku iQ.out) | (go_at_call 200; refine mB (lG.calls A6.out) ?_; intro w16 hb; replace iQ := kb iQ hb; replace HB := bz HB hb; clear hb))
    go_meet
    case rel => exact ⟨_, _, rs, H', ⟨JF⟩, ⟨ub iQ.out⟩, ⟨bb⟩⟩
  ·
   have H' := ak H; clear H
   have z17 := ku iQ.out
   go_wp2_with (refine gB Tryz.func200 (lG.calls A4.out) ?_; intro w18 hb; replace iQ := kb iQ hb; replace HB := bz HB hb; clear hb)
   go_meet
   case rel => exact ⟨_, _, rs, H', ⟨JF⟩, ⟨ub iQ.out⟩, ⟨bb⟩⟩
 case rest =>
  clear HC2
  obtain ⟨kq, aeL, rfl, HA, HJ1, iQ, HB⟩ := hcut
  cases kq with
  | zero => exact zz HA.out
  | succ Py =>
   obtain ⟨H⟩ := HA
   simp only [bC.j0] at H
   replace H := sb H
   rcases H with ⟨rfl, H⟩ | ⟨rfl, H⟩
   ·
    obtain rfl := s1 H
    go_wp2
    go_ret
    exact ⟨er, bb⟩
   ·
    have H' := ak H; clear H
    have z20 := ku iQ.out
    go_wp2
    go_loopg [3, 4] Py (fun kq v3 v4 w' => ∃ (lV : Int) (pO : Int), v3 = .int .i64 lV ∧ v4 = .int .i64 pO ∧ ah (bC.l0 kq lV pO fC fH aC = some r) ∧ ah (kq ≤ Py) ∧ ah (w'.heap[OX]? = some (.cells #[.string fC, .string fH, (.slice iC aC.length fM)] 61 (0, 0))) ∧ ah (Below w.heap.size w w'))
    case atStart => exact ⟨_, _, rs, rs, H', ⟨Nat.le_refl _⟩, ⟨ub iQ.out⟩, ⟨bb⟩⟩
    case round =>
     clear H'
     obtain ⟨lV, pO, rfl, rfl, HA, HK2, iQ, HB⟩ := hrel
     cases gk with
     | zero => exact zz HA.out
     | succ k2 =>
      obtain ⟨H⟩ := HA
      simp only [bC.l0] at H
      replace H := sd H
      rcases H with ⟨Fg, H⟩ | ⟨Fg, H⟩
      ·
       replace H := oN H; obtain ⟨Gm, H⟩ := H; replace H := bd H; obtain ⟨arv, A23, H⟩ := H; replace H := sb H
       rcases H with ⟨rfl, H⟩ | ⟨rfl, H⟩
       ·
        replace H := bd H; obtain ⟨arw, A25, H⟩ := H; replace H := sb H
        rcases H with ⟨rfl, H⟩ | ⟨rfl, H⟩
        ·
         have Gf := eq_true (of_decide_eq_true (by assumption) : 0 ≤ pO)
         replace H := Ba H; obtain ⟨Gg, aaU, H⟩ := H
         obtain ⟨ahV, XE⟩ := nm (aC.take (pO : Int).toNat)
         rw [← XE.out] at H
         replace H := bd H; obtain ⟨ahU, A29, H⟩ := H; replace H := sp H
         rcases H with ⟨c30, H⟩ | ⟨c30, H⟩
         ·
          have aaV : decide (0 ≤ ahU) = true := decide_eq_true c30
          clear c30
          obtain rfl := s1 H
          have z31 := ku iQ.out
          have Jc := zi pO
          have Jd := zj pO aC.length
          obtain ⟨Ky, Y9, yY, yZ⟩ := qC jQ.out pO Jc Jd
          cases Y9
          replace yY := cl HB.out yY
          replace yZ := cl HB.out yZ
          replace Jc := eq_true Jc
          replace Jd := eq_true Jd
          try go_wp2_with (refine gG 5 ?_; refine bY HB 5 #[.string (⟨#[]⟩ : ByteArray), .string (⟨#[]⟩ : ByteArray)] 69 ?_; intro DW w32 nT QN hg hb; have uJ := Au iQ hg; have zG := Aw iQ hg; replace iQ := kb iQ hb; replace HB := bz HB hb; clear hb hg; have aqr := zG.out; have aqs := uJ.out; have z34 := AX nT.out)
          refine ab2 HB nT QN ?_
          intro w35 BH hk HB
          replace iQ := kf iQ hk uJ
          clear hk nT
          have nT := BH; clear BH
          refine rO [2, 7, 17] [0, 1, 2, 3, 4, 5, 6, 7, 8, 9, 10, 11, 13, 15, 12, 14, 16, 17, 18, 19] (fun w' => w'.cell? ⟨DW, 0, none⟩ = some (.string ((dY aC pO).f0)) ∧ w'.cell? ⟨DW, 1, none⟩ = some (.string ((dY aC pO).f1)) ∧ w'.cell? ⟨OX, 0, none⟩ = some (.string fC) ∧ w'.cell? ⟨OX, 1, none⟩ = some (.string fH) ∧ w'.cell? ⟨OX, 2, none⟩ = some (.slice (some Ky) aC.length fM)) ?_
          intro w36 hb
          replace iQ := kb iQ hb
          replace nT := kb nT hb
          replace HB := bs HB hb
          refine ⟨sx, ?_⟩
          repeat refine yS ?_
          refine rB Tryz.func200 (lG.calls A23.out) ?_
          intro w37 hb
          replace iQ := kb iQ hb
          replace nT := kb nT hb
          replace HB := bz HB hb
          clear hb
          refine ⟨sx, ?_⟩
          repeat refine yS ?_
          refine rA Tryz.func201 (tX.calls A25.out) ?_
          intro nd
          have q38 : (pO : Int) ≤ ((aC.length : Int) : Int) := of_decide_eq_true (by assumption)
          obtain ⟨aFr, ako, _, arB, _⟩ := info_parts xB
          have aaW : aC.length ≤ fM := nC.out
          have arC : Kd.C pU _ (some Ky) aC.length aC := jQ.out
          have ani := Vr (P := Tryz.prog) 25 69 .i64 Tryz.underlying25 ako (some Ky) aC.length fM pO (of_decide_eq_true (by assumption)) q38 aaW
          have anj := Kd.Vs (m := (pO : Int).toNat) arC (by omega)
          have hy38 : ahV.length = (pO : Int).toNat := (by rw [XE.out, List.length_take]; omega)
          rw [← XE.out] at anj
          rw [← hy38] at ani
          have aeM := ak anj
          have aeN := ak (show ahV.length ≤ fM from by omega)
          clear anj arC aaW ako arB
          have aFs := ak hy38
          clear hy38
          replace q38 := eq_true q38
          refine ⟨sx, ?_⟩
          repeat refine yS ?_
          refine rB Tryz.func177 (kG.calls (cu (Kd.aW aeM.out bb)) aeN.out A29.out) ?_
          intro w39 hb
          replace iQ := kb iQ hb
          replace nT := kb nT hb
          replace HB := bz HB hb
          clear hb
          refine ⟨sx, ?_⟩
          repeat refine yS ?_
          refine on ?_
          try go_wp2
          go_ret
          exact ⟨er, bb⟩
         ·
          have aaV : decide (0 ≤ ahU) = false := decide_eq_false c30
          clear c30
          replace H := bd H; obtain ⟨arx, A40, H⟩ := H
          have H' := ak H; clear H
          have ajD := ku iQ.out
          have Jc := zi pO
          have Jd := zj pO aC.length
          obtain ⟨Ky, Y9, yY, yZ⟩ := qC jQ.out pO Jc Jd
          cases Y9
          replace yY := cl HB.out yY
          replace yZ := cl HB.out yZ
          replace Jc := eq_true Jc
          replace Jd := eq_true Jd
          try go_wp2_with (refine gG 5 ?_; refine bY HB 5 #[.string (⟨#[]⟩ : ByteArray), .string (⟨#[]⟩ : ByteArray)] 69 ?_; intro DW w42 nT QN hg hb; have uJ := Au iQ hg; have zG := Aw iQ hg; replace iQ := kb iQ hb; replace HB := bz HB hb; clear hb hg; have aB8 := zG.out; have aB9 := uJ.out; have apC := AX nT.out)
          refine ab2 HB nT QN ?_
          intro w45 BH hk HB
          replace iQ := kf iQ hk uJ
          clear hk nT
          have nT := BH; clear BH
          refine rO [2, 7, 17] [0, 1, 2, 3, 4, 5, 6, 7, 8, 9, 10, 11, 13, 15, 12, 14, 16, 17, 18, 19] (fun w' => w'.cell? ⟨DW, 0, none⟩ = some (.string ((dY aC pO).f0)) ∧ w'.cell? ⟨DW, 1, none⟩ = some (.string ((dY aC pO).f1)) ∧ w'.cell? ⟨OX, 0, none⟩ = some (.string fC) ∧ w'.cell? ⟨OX, 1, none⟩ = some (.string fH) ∧ w'.cell? ⟨OX, 2, none⟩ = some (.slice (some Ky) aC.length fM)) ?_
          intro w46 hb
          replace iQ := kb iQ hb
          replace nT := kb nT hb
          replace HB := bs HB hb
          refine ⟨sx, ?_⟩
          repeat refine yS ?_
          refine rB Tryz.func200 (lG.calls A23.out) ?_
          intro w47 hb
          replace iQ := kb iQ hb
          replace nT := kb nT hb
          replace HB := bz HB hb
          clear hb
          refine ⟨sx, ?_⟩
          repeat refine yS ?_
          refine rA Tryz.func201 (tX.calls A25.out) ?_
          intro nd
          have q48 : (pO : Int) ≤ ((aC.length : Int) : Int) := of_decide_eq_true (by assumption)
          obtain ⟨aFt, akp, _, arD, _⟩ := info_parts xB
          have aaX : aC.length ≤ fM := nC.out
          have arE : Kd.C pU _ (some Ky) aC.length aC := jQ.out
          have ank := Vr (P := Tryz.prog) 25 69 .i64 Tryz.underlying25 akp (some Ky) aC.length fM pO (of_decide_eq_true (by assumption)) q48 aaX
          have anl := Kd.Vs (m := (pO : Int).toNat) arE (by omega)
          have anm : ahV.length = (pO : Int).toNat := (by rw [XE.out, List.length_take]; omega)
          rw [← XE.out] at anl
          rw [← anm] at ank
          have aeM := ak anl
          have aeN := ak (show ahV.length ≤ fM from by omega)
          clear anl arE aaX akp arD
          have aFu := ak anm
          clear anm
          replace q48 := eq_true q48
          refine ⟨sx, ?_⟩
          repeat refine yS ?_
          refine rB Tryz.func177 (kG.calls (cu (Kd.aW aeM.out bb)) aeN.out A29.out) ?_
          intro w49 hb
          replace iQ := kb iQ hb
          replace nT := kb nT hb
          replace HB := bz HB hb
          clear hb
          refine ⟨sx, ?_⟩
          repeat refine yS ?_
          refine on ?_
          try go_wp2
          refine rO [8] [0, 1, 2, 6, 3, 4, 5, 7, 8, 9, 10, 11] (fun w' => w'.cell? ⟨DW, 0, none⟩ = some (.string ((dY aC pO).f0)) ∧ w'.cell? ⟨DW, 1, none⟩ = some (.string ((dY aC pO).f1))) ?_
          intro w50 hb
          replace iQ := kb iQ hb
          replace nT := kb nT hb
          replace HB := bs HB hb
          refine ⟨sx, ?_⟩
          repeat refine yS ?_
          refine rB Tryz.func202 (su.calls A40.out) ?_
          intro w51 hb
          replace iQ := kb iQ hb
          replace nT := kb nT hb
          replace HB := bz HB hb
          clear hb
          refine ⟨sx, ?_⟩
          repeat refine yS ?_
          refine on ?_
          try go_wp2
          go_roundg k2
          case measure => exact kl
          case rel => exact ⟨_, _, rs, rs, H', ⟨kl⟩, ⟨ub iQ.out⟩, ⟨bb⟩⟩
        ·
         obtain rfl := s1 H
         have z52 := ku iQ.out
         have Jc := zi pO
         have Jd := zj pO aC.length
         obtain ⟨Ky, Y9, yY, yZ⟩ := qC jQ.out pO Jc Jd
         cases Y9
         replace yY := cl HB.out yY
         replace yZ := cl HB.out yZ
         replace Jc := eq_true Jc
         replace Jd := eq_true Jd
         try go_wp2_with (refine gG 5 ?_; refine bY HB 5 #[.string (⟨#[]⟩ : ByteArray), .string (⟨#[]⟩ : ByteArray)] 69 ?_; intro DW w53 nT QN hg hb; have uJ := Au iQ hg; have zG := Aw iQ hg; replace iQ := kb iQ hb; replace HB := bz HB hb; clear hb hg; have arF := zG.out; have arG := uJ.out; have z55 := AX nT.out)
         refine ab2 HB nT QN ?_
         intro w56 BH hk HB
         replace iQ := kf iQ hk uJ
         clear hk nT
         have nT := BH; clear BH
         refine rO [2, 7] [0, 1, 2, 3, 4, 5, 6, 7, 8, 9, 10, 11, 12, 13, 14, 15, 16, 17, 18, 19] (fun w' => w'.cell? ⟨DW, 0, none⟩ = some (.string ((dY aC pO).f0)) ∧ w'.cell? ⟨DW, 1, none⟩ = some (.string ((dY aC pO).f1))) ?_
         intro w57 hb
         replace iQ := kb iQ hb
         replace nT := kb nT hb
         replace HB := bs HB hb
         refine ⟨sx, ?_⟩
         repeat (first | refine yS ?_ | refine P_ ?_)
         refine rB Tryz.func200 (lG.calls A23.out) ?_
         intro w58 hb
         replace iQ := kb iQ hb
         replace nT := kb nT hb
         replace HB := bz HB hb
         clear hb
         refine ⟨sx, ?_⟩
         repeat (first | refine yS ?_ | refine P_ ?_)
         refine rA Tryz.func201 (tX.calls A25.out) ?_
         intro nd
         refine ⟨sx, ?_⟩
         repeat (first | refine yS ?_ | refine P_ ?_)
         refine on ?_
         try go_wp2
         go_ret
         exact ⟨er, bb⟩
       ·
        obtain rfl := s1 H
        have z59 := ku iQ.out
        have Jc := zi pO
        have Jd := zj pO aC.length
        obtain ⟨Ky, Y9, yY, yZ⟩ := qC jQ.out pO Jc Jd
        cases Y9
        replace yY := cl HB.out yY
        replace yZ := cl HB.out yZ
        replace Jc := eq_true Jc
        replace Jd := eq_true Jd
        try go_wp2_with (refine gG 5 ?_; refine bY HB 5 #[.string (⟨#[]⟩ : ByteArray), .string (⟨#[]⟩ : ByteArray)] 69 ?_; intro DW J6 nT QN hg hb; have uJ := Au iQ hg; have zG := Aw iQ hg; replace iQ := kb iQ hb; replace HB := bz HB hb; clear hb hg; have aB_ := zG.out; have aCa := uJ.out; have z62 := AX nT.out)
        refine ab2 HB nT QN ?_
        intro w63 BH hk HB
        replace iQ := kf iQ hk uJ
        clear hk nT
        have nT := BH; clear BH
        refine rO [2] [0, 1, 2, 3, 4, 5, 6, 7, 8, 9, 10, 11, 12, 13, 14, 15, 16, 17, 18, 19] (fun w' => w'.cell? ⟨DW, 0, none⟩ = some (.string ((dY aC pO).f0)) ∧ w'.cell? ⟨DW, 1, none⟩ = some (.string ((dY aC pO).f1))) ?_
        intro w64 hb
        replace iQ := kb iQ hb
        replace nT := kb nT hb
        replace HB := bs HB hb
        refine ⟨sx, ?_⟩
        repeat (first | refine yS ?_ | refine P_ ?_)
        refine rB Tryz.func200 (lG.calls A23.out) ?_
        intro w65 hb
        replace iQ := kb iQ hb
        replace nT := kb nT hb
        replace HB := bz HB hb
        clear hb
        refine ⟨sx, ?_⟩
        repeat (first | refine yS ?_ | refine P_ ?_)
        refine on ?_
        try go_wp2
        go_ret
        exact ⟨er, bb⟩
      ·
       obtain rfl := s1 H
       have z66 := ku iQ.out
       go_wp2
       go_ret
       exact ⟨er, bb⟩
mutual
def bJ.l0 : Nat → ByteArray → Bool → Bool → ByteArray → ByteArray → List (gK) → Option (ByteArray × ByteArray × (List (gK)) × Bool)
 | 0, _, _, _, _, _, _ => none
 | k + 1, x5, x6, x9, Ew, Ey, CZ => if x6 = true then ((jC.f k x5 59).bind fun QO => ((bW.f k QO.1).bind fun arH => ((jC.f k arH 61).bind fun XF => ((bW.f k XF.2.1).bind fun arI => ((fQ.f k arI).bind fun XG => (if XF.2.2 = true then (if XG.2 = true then (bJ.j1 k QO.2.1 QO.2.2 x9 XF.1 XG.1 ((XG.1.length : Int) != 1) Ew Ey CZ) else (bJ.j1 k QO.2.1 QO.2.2 x9 XF.1 XG.1 true Ew Ey CZ)) else (bJ.j1 k QO.2.1 QO.2.2 x9 XF.1 XG.1 true Ew Ey CZ))))))) else (if x9 = true then ((bC.f k Ew Ey CZ).bind fun arJ => (if arJ = true then (some (Ew, Ey, CZ, true)) else (some ((⟨#[]⟩ : ByteArray), (⟨#[]⟩ : ByteArray), ([] : List (gK)), false)))) else (some ((⟨#[]⟩ : ByteArray), (⟨#[]⟩ : ByteArray), ([] : List (gK)), false)))
def bJ.j1 : Nat → ByteArray → Bool → Bool → ByteArray → List ByteArray → Bool → ByteArray → ByteArray → List (gK) → Option (ByteArray × ByteArray × (List (gK)) × Bool)
 | 0, _, _, _, _, _, _, _, _, _ => none
 | k + 1, x5, x6, x9, x12, x15, x69, Ew, Ey, CZ => if x69 = true then (some ((⟨#[]⟩ : ByteArray), (⟨#[]⟩ : ByteArray), ([] : List (gK)), false)) else ((bW.f k x12).bind fun ano => ((iK.f ano).bind fun adb => (if 0 < (x15.length : Int) then (if CZ.length < 4398046511104 then (bJ.l0 k x5 x6 x9 Ew Ey (CZ ++ [(⟨adb, qg ByteArray.empty x15 0⟩ : gK)])) else (none)) else (none))))
end
def bJ.f (k : Nat) (a0 : ByteArray) : Option (ByteArray × ByteArray × (List (gK)) × Bool) := (aQ.f k a0).bind fun arK => (if arK = true then ((jC.f k a0 59).bind fun aeO => ((bW.f k aeO.1).bind fun arL => ((jC.f k arL 47).bind fun aeP => ((iK.f aeP.1).bind fun Vt => ((iK.f aeP.2.1).bind fun Vu => (bJ.l0 k aeO.2.1 aeO.2.2 aeP.2.2 Vt Vu ([] : List (gK)))))))) else (some ((⟨#[]⟩ : ByteArray), (⟨#[]⟩ : ByteArray), ([] : List (gK)), false)))
def bJ.T13 : Bool × List (List Nat × List Nat) := (true, [([], []), ([0], [0]), ([], []), ([2], [2]), ([3, 3], [3]), ([], []), ([5], [5]), ([6], [6]), ([4, 7], [4, 7]), ([8], [8]), ([1, 9, 4], [1, 9]), ([0, 1, 2, 3, 4, 5, 6, 7, 8, 9, 10], []), ([11, 10, 10, 0, 1, 2, 3, 4, 5, 6, 7, 8, 9, 10], [10, 11])])
def bJ.B13 : List Nat := [0, 1, 0, 4, 12, 0, 32, 96, 252, 508, 1023, 2047, 4095]
theorem bJ.aaY : uG .any (opsOf Tryz.f155 13) = bJ.T13 := by kernel_rfl
theorem bJ.Vw : oH bJ.T13.2 bJ.B13 = true := by kernel_rfl
theorem bJ.calls {k : Nat} {a0 r1 r2 : ByteArray} {r3 : List (gK)} {r4 : Bool} {w : World} (h : bJ.f k a0 = some (r1, r2, r3, r4)) :
  Calls Tryz.prog 155 #[.string a0] w fun e w' => ∃ Iw : Value, e = .returned (.tuple #[.agg #[.string r1, .string r2, Iw], .bool r4]) ∧ Kd.R pU 69 w' w.heap.size (fun _ => True) Iw r3 ∧ Below w.heap.size w w' := by
 have Xh := Tryz.underlying61
 have DK := Tryz.underlying69
 have HB := ak (Below.refl w.heap.size w)
 unfold bJ.f at h; have H := h
 clear h
 replace H := bd H; obtain ⟨arK, A2, H⟩ := H; replace H := sb H
 rcases H with ⟨rfl, H⟩ | ⟨rfl, H⟩
 ·
  replace H := bd H
  obtain ⟨⟨aFv, aFw, aFx⟩, A4, H⟩ := H
  (try dsimp only at H)
  replace H := bd H; obtain ⟨arL, A5, H⟩ := H; replace H := bd H
  obtain ⟨⟨aFy, aFz, arM⟩, A6, H⟩ := H
  (try dsimp only at H)
  replace H := bd H; obtain ⟨Vt, A7, H⟩ := H; replace H := bd H; obtain ⟨Vu, A8, H⟩ := H
  have H' := ak H; clear H
  go_enter Tryz.func155, Tryz.ntmps155
  go_wp2_with (first | (refine gG 2 ?_; refine bX HB 2 #[.string (⟨#[]⟩ : ByteArray), .string (⟨#[]⟩ : ByteArray), .slice none 0 0] 61 ?_; intro Kz w9 nG arN hb; replace HB := bs HB hb; clear hb) | (refine gD Tryz.func159 (aQ.calls A2.out) ?_; intro w9 hb; replace nG := kb nG hb; replace HB := bz HB hb; clear hb) | (refine gD Tryz.func178 (jC.calls A4.out) ?_; intro w9 hb; replace nG := kb nG hb; replace HB := bz HB hb; clear hb) | (refine gD Tryz.func179 (bW.calls A5.out) ?_; intro w9 hb; replace nG := kb nG hb; replace HB := bz HB hb; clear hb) | (refine gD Tryz.func178 (jC.calls A6.out) ?_; intro w9 hb; replace nG := kb nG hb; replace HB := bz HB hb; clear hb) | (refine gB Tryz.func180 (iK.calls A7.out) ?_; intro w10 hb; replace nG := kb nG hb; replace HB := bz HB hb; clear hb) | (refine gB Tryz.func180 (iK.calls A8.out) ?_; intro U2 hb; replace nG := kb nG hb; replace HB := bz HB hb; clear hb) | (refine gG 10 ?_; refine bY HB 10 #[.string (⟨#[]⟩ : ByteArray), .string (⟨#[]⟩ : ByteArray), .slice none 0 0] 61 ?_; intro QS w12 pG aCb hg hb; have Bh := Au nG hg; have Bj := Aw nG hg; replace nG := kb nG hb; replace HB := bz HB hb; clear hb hg; have arO := Bj.out; have arP := Bh.out; have z14 := ku pG.out))
  go_loopg [5, 6] k (fun kq v5 v6 w' => ∃ (fF : ByteArray) (jW : Bool) (Hl : ByteArray) (Ho : ByteArray) (yD : List (gK)) (Bc : Value), v5 = .string fF ∧ v6 = .bool jW ∧ ah (bJ.l0 kq fF jW arM Vt Vu yD = some (r1, r2, r3, r4)) ∧ ah (kq ≤ k) ∧ ah (Kd.R pU 69 w' w.heap.size (fun _ => True) Bc yD) ∧ ah (w'.heap[Kz]? = some (.cells #[.string Hl, .string Ho, (.slice none 0 0)] 61 (0, 0))) ∧ ah (w'.heap[QS]? = some (.cells #[.string Vt, .string Vu, Bc] 61 (0, 0))) ∧ ah (Below w.heap.size w w'))
  case atStart => exact ⟨_, _, _, _, _, _, rs, rs, H', ⟨Nat.le_refl _⟩, ⟨nx⟩, ⟨bq⟩, ⟨bq⟩, ⟨bb⟩⟩
  case round =>
   clear H'
   obtain ⟨fF, jW, Hl, Ho, yD, Bc, rfl, rfl, HA, yB, jS, nG, pG, HB⟩ := hrel
   cases gk with
   | zero => exact zz HA.out
   | succ k1 =>
    obtain ⟨H⟩ := HA
    simp only [bJ.l0] at H
    replace H := sb H
    rcases H with ⟨rfl, H⟩ | ⟨rfl, H⟩
    ·
     replace H := bd H
     obtain ⟨⟨aFA, ayU, ayV⟩, A16, H⟩ := H
     (try dsimp only at H)
     replace H := bd H; obtain ⟨arH, A17, H⟩ := H; replace H := bd H
     obtain ⟨⟨arQ, aFB, aFC⟩, A18, H⟩ := H
     (try dsimp only at H)
     replace H := bd H; obtain ⟨arI, A19, H⟩ := H; replace H := bd H
     obtain ⟨⟨Tj, aFD⟩, A20, H⟩ := H
     (try dsimp only at H)
     have anp := ak H
     clear H
     go_upto_region 11 with (first | (refine gA Tryz.func178 (jC.calls A16.out) ?_; intro nd) | (refine gA Tryz.func179 (bW.calls A17.out) ?_; intro nd) | (refine gA Tryz.func178 (jC.calls A18.out) ?_; intro nd) | (refine gA Tryz.func179 (bW.calls A19.out) ?_; intro nd) | (refine gV Tryz.func181 (fQ.calls A20.out) ?_; rintro ayW Y8 ⟨ho0, hb⟩; have aaZ := ak (Kd.aG ho0 (aj bb)); replace jS := rb jS hb; replace nG := kb nG hb; replace pG := kb pG hb; replace HB := bz HB hb; clear hb; (try clear ho0)))
     (try simp only [Act.put, sK, sN, l_c])
     go_cut [69] (fun v69 wc => ∃ (kq : Nat) (Y_ : Bool), v69 = .bool Y_ ∧ ah (bJ.j1 kq ayU ayV arM arQ Tj Y_ Vt Vu yD = some (r1, r2, r3, r4)) ∧ ah (kq ≤ k1) ∧ ah (Kd.R Kd.string 9 wc w.heap.size (fun _ => True) ayW Tj) ∧ ah (Kd.R pU 69 wc w.heap.size (fun _ => True) Bc yD) ∧ ah (wc.heap[Kz]? = some (.cells #[.string Hl, .string Ho, (.slice none 0 0)] 61 (0, 0))) ∧ ah (wc.heap[QS]? = some (.cells #[.string Vt, .string Vu, Bc] 61 (0, 0))) ∧ ah (Below w.heap.size w wc))
     case first =>
      have H := anp.out
      clear anp
      replace H := sb H
      rcases H with ⟨rfl, H⟩ | ⟨rfl, H⟩
      ·
       replace H := sb H
       rcases H with ⟨rfl, H⟩ | ⟨rfl, H⟩
       ·
        have H' := ak H; clear H
        obtain ⟨ayX, ayY, anq⟩ := Kd.aX aaZ.out
        subst anq
        go_wp2
        go_meet
        case rel => exact ⟨_, _, rs, H', ⟨kl⟩, ⟨ur aaZ.out⟩, ⟨ur jS.out⟩, ⟨ub nG.out⟩, ⟨ub pG.out⟩, ⟨bb⟩⟩
       ·
        have H' := ak H; clear H
        go_wp2
        go_meet
        case rel => exact ⟨_, _, rs, H', ⟨kl⟩, ⟨ur aaZ.out⟩, ⟨ur jS.out⟩, ⟨ub nG.out⟩, ⟨ub pG.out⟩, ⟨bb⟩⟩
      ·
       have H' := ak H; clear H
       go_wp2
       go_meet
       case rel => exact ⟨_, _, rs, H', ⟨kl⟩, ⟨ur aaZ.out⟩, ⟨ur jS.out⟩, ⟨ub nG.out⟩, ⟨ub pG.out⟩, ⟨bb⟩⟩
     case rest =>
      clear anp
      obtain ⟨kq, Y_, rfl, HA, arR, IC, jS, nG, pG, HB⟩ := hcut
      cases kq with
      | zero => exact zz HA.out
      | succ ayZ =>
       obtain ⟨H⟩ := HA
       simp only [bJ.j1] at H
       replace H := sb H
       rcases H with ⟨rfl, H⟩ | ⟨rfl, H⟩
       ·
        obtain ⟨rfl, rfl, rfl, rfl⟩ := s4 H
        have akq := Bh.out
        have akr := Bj.out
        have ajt := ku nG.out
        go_wp2
        refine bodyPost_ret (l7 rfl _ _ Kz 61 #[.string (⟨#[]⟩ : ByteArray), .string (⟨#[]⟩ : ByteArray), .slice none 0 0] (0, 0) _ rfl bq Tryz.underlying61 rfl (by kernel_rfl)) rfl ?_
        exact ⟨_, er, nx, bb⟩
       ·
        replace H := bd H; obtain ⟨ano, A29, H⟩ := H; replace H := bd H; obtain ⟨adb, A30, H⟩ := H; replace H := nn H; obtain ⟨c31, H⟩ := H
        have aeQ := decide_eq_true c31
        have aeR : decide (0 < Tj.length) = true := decide_eq_true (by omega)
        clear c31
        replace H := nl H; obtain ⟨arS, H⟩ := H
        obtain ⟨aFE, aks⟩ := nm (yD ++ [(⟨adb, qg ByteArray.empty Tj 0⟩ : gK)])
        rw [← aks.out] at H
        have H' := ak H; clear H
        try go_wp2
        replace IC := ak (Kd.jX IC.out)
        replace jS := ak (Kd.jX jS.out)
        replace nG := ak (bH nG.out)
        replace pG := ak (bH pG.out)
        replace HB := ak (iy HB.out)
        obtain ⟨arT, arU, aeS⟩ := Kd.aX IC.out
        (first | subst aeS | (injection aeS with sQ yO sS; have yP := sQ.symm; have yQ := sS.symm; clear sQ yO sS; subst yP; subst yQ))
        have anr : 0 ≤ (0 : Int) := (by omega)
        have ant : 0 < (Tj.length : Int) := of_decide_eq_true (by assumption)
        obtain ⟨arV, ay0, Qc⟩ := Kd.jI (Kd.au IC.out).2.2 0 anr ant
        cases ay0
        have aCc : (0 < Tj.length) = True := eq_true (by omega)
        (try rw [show ((0 : Int)).toNat = 0 from rfl] at Qc)
        (try rw [Addr.add_zero'] at Qc)
        replace anr := eq_true anr
        replace ant := eq_true ant
        refine DL (n := 13) (S := fun w' => w'.cell? ⟨QS, 0, none⟩ = some (.string Vt) ∧ w'.cell? ⟨QS, 1, none⟩ = some (.string Vu) ∧ w'.cell? ⟨QS, 2, none⟩ = some (Bc) ∧ w'.cell? arV = some (.string (qg ByteArray.empty Tj 0))) (ds := [10, 12]) #[false, false, false, false, false, false, false, false, false, false, false, false, false] (by kernel_rfl) rfl rfl ⟨(aA pG.out 0).trans rfl, (aA pG.out 1).trans rfl, (aA pG.out 2).trans rfl, Qc⟩ (fun hHeld => ?_); refine vF bJ.aaY bJ.Vw (fun vk Za => ?_)
        generalize wc.drew = w33 at IC jS nG pG HB Qc hHeld ⊢
        refine pl 0 ?_
        refine pl 2 ?_
        refine pl 5 ?_
        refine pl 6 ?_
        refine tk 1 ?_
        refine tk 7 ?_
        refine o1 3 (fun K hK => ?_)
        refine Ac Tryz.func179 (by kernel_rfl) rfl #[.string arQ] (by rfl) rfl rfl ma ?_
        with_reducible refine (bW.calls A29.out).mono ?_
        rintro e w' ⟨rfl, ⟨nd, rfl⟩⟩
        refine ⟨_, rfl, ?_⟩
        refine hK.out _ _ ⟨(aA pG.out 0).trans rfl, (aA pG.out 1).trans rfl, (aA pG.out 2).trans rfl, hHeld.2.2.2⟩ (fun hHeld => ?_)
        clear hK K
        refine nrm ?_
        refine o1 4 (fun K hK => ?_)
        refine Ac Tryz.func180 (by kernel_rfl) rfl #[.string ano] (by rfl) rfl rfl ma ?_
        with_reducible refine (iK.calls A30.out).mono ?_
        rintro e w35 ⟨rfl, hb⟩
        have anu := (hb.cell (World.block_lt_of_cell? _ _ (hHeld.2.2.2))).trans (hHeld.2.2.2)
        refine ⟨_, rfl, ?_⟩
        replace IC := rb IC hb
        replace jS := rb jS hb
        replace nG := kb nG hb
        replace pG := kb pG hb
        replace HB := bz HB hb
        try clear hb
        refine hK.out _ _ ⟨(aA pG.out 0).trans rfl, (aA pG.out 1).trans rfl, (aA pG.out 2).trans rfl, anu⟩ (fun hHeld => ?_)
        clear hK K
        refine nrm ?_
        refine pl 8 ?_
        refine o1 9 (fun K hK => ?_)
        refine DN (w1 := ?_) (v := ?_) (by rfl) rfl ?_ ?_
        rotate_left 2
        ·
         go_simp
         constructor
         ·
          rfl
         ·
          rfl
        refine hK.out _ _ ⟨(aA (bn pG.out _) 0).trans rfl, (aA (bn pG.out _) 1).trans rfl, (aA (bn pG.out _) 2).trans rfl, (World.cell?_alloc_lt _ _ _ (World.block_lt_of_cell? _ _ (hHeld.2.2.2))).trans (hHeld.2.2.2)⟩ (fun hHeld => ?_)
        clear hK K
        refine nrm ?_
        refine IE (i := 10) (N := some 81) #[true, true, true, true, true, true, true, true, true, true, true, false, false] rfl rfl (pR vk.out (by kernel_rfl)) (by decide) (fun K hK => ?_)
        refine Kd.oO pU (w0 := w) w.heap.size (by rfl) (.tmp 72) (.tmp 80) 25 69 (.agg #[(.string ⟨#[]⟩), (.string ⟨#[]⟩)]) 32 rfl Tryz.underlying25 xB rfl (by decide) (by omega) Bc yD (⟨adb, qg ByteArray.empty Tj 0⟩ : gK) [.string adb, .string (qg ByteArray.empty Tj 0)] (fun _ => True) (fun _ => False) rfl rfl ?aP (fun _ hk => hk.elim) ?aF ?aO ?aB ?aS ?aL ?_
        (case aP => exact uU _ _ _ (⟨adb, qg ByteArray.empty Tj 0⟩ : gK))
        (case aB => exact bb)
        (case aF => exact (fun _ _ => trivial))
        (case aO => exact (ur jS.out))
        (case aS => exact (aj bb))
        (case aL => have := arS.out; omega)
        intro aFF w36 ho hb hg hat
        rw [← aks.out] at ho
        have xK := ak (Kd.nZ (ur IC.out) (Kd.jM (ur jS.out)) (by decide) hg)
        have xM := ak (bM (g := Kz) (o := .cells #[.string Hl, .string Ho, .slice none 0 0] 61 (0, 0)) (ub nG.out) hg (Kd.nO jS.out nG.out (by decide)))
        have yC := ak (bM (g := QS) (o := .cells #[.string Vt, .string Vu, Bc] 61 (0, 0)) (ub pG.out) hg (Kd.nO jS.out pG.out (by decide)))
        have Ad := ak (hb)
        have C9 := ak (ho)
        clear IC nG pG HB jS
        have IC := xK
        have nG := xM
        have pG := yC
        have HB := Ad
        have arW := C9
        clear xK xM yC Ad C9 ho hb hg hat
        obtain ⟨ahP, ahQ, ac7⟩ := Kd.aX arW.out
        (first | subst ac7 | (injection ac7 with sQ yO sS; have yP := sQ.symm; have yQ := sS.symm; clear sQ yO sS; subst yP; subst yQ))
        refine hK.out _ _ ?_
        clear hK K
        refine rW (a' := ?_) ?_ ?_
        rotate_left
        ·
         show Act.put _ (some 81) _ = _
         simp only [Act.put, sK, sN, l_c, eu, f_]
         rfl
        refine pl 11 ?_
        refine IE (i := 12) (N := none) #[true, true, true, true, true, true, true, true, true, true, true, true, true] rfl rfl (pR vk.out (by kernel_rfl)) (by decide) (fun K hK => ?_)
        have aFG : w36.cell? ⟨QS, 2, none⟩ = some (Bc) := (aA pG.out 2).trans rfl
        have aCd := iG pG.out 2
        have axA := Bh.out
        have axB := Bj.out
        refine IG (w1 := ?_) (by rfl) rfl ?_ ?_
        rotate_left
        ·
         go_simp
         rfl
        refine hK.out _ _ ?_
        clear hK K
        refine II (zT vk.out (by kernel_rfl)) ?_
        try go_wp2
        go_roundg ayZ
        case measure => have := yB.out; have := arR.out; omega
        case rel => exact ⟨_, _, _, _, _, _, rs, rs, H', ⟨by have := yB.out; have := arR.out; omega⟩, ⟨rr⟩, ⟨bq⟩, ⟨bq⟩, ⟨bb⟩⟩
    ·
     replace H := sb H
     rcases H with ⟨rfl, H⟩ | ⟨rfl, H⟩
     ·
      replace H := bd H; obtain ⟨arJ, A40, H⟩ := H; replace H := sb H
      rcases H with ⟨rfl, H⟩ | ⟨rfl, H⟩
      ·
       obtain ⟨rfl, rfl, rfl, rfl⟩ := s4 H
       have aCe := Bj.out
       have aCf := Bh.out
       have z43 := ku pG.out
       obtain ⟨BF, BG, Xp⟩ := Kd.aX jS.out
       subst Xp
       go_wp2_with (go_at_call 182; refine mB (bC.calls (cu ((Kd.au jS.out).2.2)) ((Kd.au jS.out).2.1) A40.out) ?_; intro w45 hb; replace jS := rb jS hb; replace nG := kb nG hb; replace pG := kb pG hb; replace HB := bz HB hb; clear hb; have z46 := ku pG.out; have z47 := ku nG.out)
       refine bodyPost_ret (l7 rfl _ _ Kz 61 #[.string Vt, .string Vu, .slice BF yD.length BG] (0, 0) _ rfl bq Tryz.underlying61 rfl (by kernel_rfl)) rfl ?_
       exact ⟨_, er, rr, bb⟩
      ·
       obtain ⟨rfl, rfl, rfl, rfl⟩ := s4 H
       have akt := Bj.out
       have aku := Bh.out
       have z49 := ku pG.out
       obtain ⟨Ez, EC, anv⟩ := Kd.aX jS.out
       subst anv
       go_wp2_with (go_at_call 182; refine mB (bC.calls (cu ((Kd.au jS.out).2.2)) ((Kd.au jS.out).2.1) A40.out) ?_; intro w51 hb; replace jS := rb jS hb; replace nG := kb nG hb; replace pG := kb pG hb; replace HB := bz HB hb; clear hb; have z52 := ku nG.out)
       refine bodyPost_ret (l7 rfl _ _ Kz 61 #[.string (⟨#[]⟩ : ByteArray), .string (⟨#[]⟩ : ByteArray), .slice none 0 0] (0, 0) _ rfl bq Tryz.underlying61 rfl (by kernel_rfl)) rfl ?_
       exact ⟨_, er, nx, bb⟩
     ·
      obtain ⟨rfl, rfl, rfl, rfl⟩ := s4 H
      have arX := Bh.out
      have arY := Bj.out
      have z54 := ku nG.out
      go_wp2
      refine bodyPost_ret (l7 rfl _ _ Kz 61 #[.string (⟨#[]⟩ : ByteArray), .string (⟨#[]⟩ : ByteArray), .slice none 0 0] (0, 0) _ rfl bq Tryz.underlying61 rfl (by kernel_rfl)) rfl ?_
      exact ⟨_, er, nx, bb⟩
 ·
  obtain ⟨rfl, rfl, rfl, rfl⟩ := s4 H
  go_enter Tryz.func155, Tryz.ntmps155
  go_wp2_with (first | (refine gG 2 ?_; refine bX HB 2 #[.string (⟨#[]⟩ : ByteArray), .string (⟨#[]⟩ : ByteArray), .slice none 0 0] 61 ?_; intro Kz w55 nG arN hb; replace HB := bs HB hb; clear hb) | (refine gD Tryz.func159 (aQ.calls A2.out) ?_; intro w55 hb; replace nG := kb nG hb; replace HB := bz HB hb; clear hb; have z56 := ku nG.out))
  refine bodyPost_ret (l7 rfl _ _ Kz 61 #[.string (⟨#[]⟩ : ByteArray), .string (⟨#[]⟩ : ByteArray), .slice none 0 0] (0, 0) _ rfl bq Tryz.underlying61 rfl (by kernel_rfl)) rfl ?_
  exact ⟨_, er, nx, bb⟩
mutual
def dh.l0 : Nat → ByteArray → Int → Option (Bool)
 | 0, _, _ => none
 | k + 1, x0, x3 => if x3 < (x0.size : Int) then (dh.j1 k x0 x3 (decide (x3 ≤ 20))) else (dh.j1 k x0 x3 false)
def dh.j1 : Nat → ByteArray → Int → Bool → Option (Bool)
 | 0, _, _, _ => none
 | k + 1, x0, x3, x11 => if x11 = true then (if 0 ≤ x3 then (if x3 < (x0.size : Int) then ((iq.f (bt x0 x3)).bind fun arZ => (if arZ = true then (dh.l0 k x0 (wrap64 (x3 + 1))) else (some false))) else (none)) else (none)) else (if (x0.size : Int) ≥ 1 then (some (decide ((x0.size : Int) ≤ 20))) else (some false))
end
def dh.f (k : Nat) (a0 : ByteArray) : Option (Bool) := dh.l0 k a0 0
theorem dh.calls {k : Nat} {a0 : ByteArray} {r : Bool} {w : World} (h : dh.f k a0 = some r) :
  Calls Tryz.prog 157 #[.string a0] w fun e w' => e = .returned (.bool r) ∧ dW w w' := by
 unfold dh.f at h; have H := h
 clear h
 have H' := ak H; clear H
 go_enter Tryz.func157, Tryz.ntmps157
 go_wp2
 go_loopg [3] k (fun kq v3 w' => ∃ (dZ : Int), v3 = .int .i64 dZ ∧ ah (dh.l0 kq a0 dZ = some r) ∧ ah (kq ≤ k) ∧ dW w w')
 case atStart => exact ⟨_, rs, H', ⟨Nat.le_refl _⟩, dn⟩
 case round =>
  clear H'
  obtain ⟨dZ, rfl, HA, yB, ⟨m1, rfl⟩⟩ := hrel
  cases gk with
  | zero => exact zz HA.out
  | succ k1 =>
   obtain ⟨H⟩ := HA
   simp only [dh.l0] at H
   have HC2 := ak H
   clear H
   go_upto_region 2 with (fail)
   go_cut [11] (fun v11 wc => ∃ (kq : Nat) (wG : Bool), v11 = .bool wG ∧ ah (dh.j1 kq a0 dZ wG = some r) ∧ ah (kq ≤ k1) ∧ dW w wc)
   case first =>
    have H := HC2.out
    clear HC2
    replace H := sd H
    rcases H with ⟨iP, H⟩ | ⟨iP, H⟩
    ·
     (first | rw [iP] | (simp only [eu, f_]; rw [iP]) | skip)
     have H' := ak H; clear H
     go_wp2
     go_meet
     case rel => exact ⟨_, _, rs, H', ⟨kl⟩, dn⟩
    ·
     (first | rw [iP] | (simp only [eu, f_]; rw [iP]) | skip)
     have H' := ak H; clear H
     go_wp2
     go_meet
     case rel => exact ⟨_, _, rs, H', ⟨kl⟩, dn⟩
   case rest =>
    clear HC2
    obtain ⟨kq, wG, rfl, HA, HJ1, ⟨mc1, rfl⟩⟩ := hcut
    cases kq with
    | zero => exact zz HA.out
    | succ Py =>
     obtain ⟨H⟩ := HA
     simp only [dh.j1] at H
     replace H := sb H
     rcases H with ⟨rfl, H⟩ | ⟨rfl, H⟩
     ·
      replace H := oN H; obtain ⟨nR, H⟩ := H; replace H := oN H; obtain ⟨oJ, H⟩ := H; replace H := bd H; obtain ⟨arZ, A8, H⟩ := H; replace H := sb H
      rcases H with ⟨rfl, H⟩ | ⟨rfl, H⟩
      ·
       have H' := ak H; clear H
       obtain ⟨p7, q7, hx7⟩ := bx a0 dZ
       go_wp2_with (refine gA Tryz.func183 (iq.calls A8.out) ?_; intro nd)
       go_roundg Py
       case measure => exact kl
       case rel => exact ⟨_, rs, H', ⟨kl⟩, dn⟩
      ·
       obtain rfl := s1 H
       obtain ⟨p7, q7, hx7⟩ := bx a0 dZ
       go_wp2_with (refine gA Tryz.func183 (iq.calls A8.out) ?_; intro nd)
       go_ret
       exact ⟨rs, dn⟩
     ·
      replace H := sp H
      rcases H with ⟨c10, H⟩ | ⟨c10, H⟩
      ·
       have pF : decide (1 ≤ (a0.size : Int)) = true := decide_eq_true c10
       have uI : decide (1 ≤ a0.size) = true := decide_eq_true (by omega)
       clear c10
       obtain rfl := s1 H
       go_wp2
       go_ret
       exact ⟨rs, dn⟩
      ·
       have pF : decide (1 ≤ (a0.size : Int)) = false := decide_eq_false c10
       have uI : decide (1 ≤ a0.size) = false := decide_eq_false (by omega)
       clear c10
       obtain rfl := s1 H
       go_wp2
       go_ret
       exact ⟨rs, dn⟩
def n_.f (k : Nat) (fC : ByteArray) (fH : ByteArray) (aC : List (gK)) : Option (ByteArray × Bool) := (kM.f k aC (⟨#[98, 111, 117, 110, 100, 97, 114, 121]⟩ : ByteArray)).bind fun aeT => ((bC.f k fC fH aC).bind fun ar0 => (if ar0 = true then (if fC.toList = ([109, 117, 108, 116, 105, 112, 97, 114, 116] : List UInt8) then (if aeT.2 = true then ((dh.f k aeT.1).bind fun ar1 => (if ar1 = true then (some (aeT.1, true)) else (some ((⟨#[]⟩ : ByteArray), false)))) else (some ((⟨#[]⟩ : ByteArray), false))) else (some ((⟨#[]⟩ : ByteArray), false))) else (some ((⟨#[]⟩ : ByteArray), false))))
theorem n_.calls {k fM : Nat} {fC fH r1 : ByteArray} {iC : Option Addr} {aC : List (gK)} {r2 : Bool} {w : World} (jY : Kd.C pU w iC aC.length aC) (jZ : aC.length ≤ fM) (h : n_.f k fC fH aC = some (r1, r2)) :
  Calls Tryz.prog 156 #[.agg #[.string fC, .string fH, .slice iC aC.length fM]] w fun e w' => e = .returned (.tuple #[.string r1, .bool r2]) ∧ Below w.heap.size w w' := by
 have Xh := Tryz.underlying61
 have jQ := ak jY
 have nC := ak jZ
 clear jY jZ
 have HB := ak (Below.refl w.heap.size w)
 unfold n_.f at h; have H := h
 clear h
 replace H := bd H
 obtain ⟨⟨aFH, aFI⟩, A2, H⟩ := H
 (try dsimp only at H)
 replace H := bd H; obtain ⟨ar0, A3, H⟩ := H; replace H := sb H
 rcases H with ⟨rfl, H⟩ | ⟨rfl, H⟩
 ·
  replace H := sq H
  rcases H with ⟨nR, Kv, H⟩ | ⟨c5, nR, Kv, H⟩
  ·
   replace H := sb H
   rcases H with ⟨rfl, H⟩ | ⟨rfl, H⟩
   ·
    replace H := bd H; obtain ⟨ar1, A7, H⟩ := H; replace H := sb H
    rcases H with ⟨rfl, H⟩ | ⟨rfl, H⟩
    ·
     obtain ⟨rfl, rfl⟩ := s2 H
     go_enter Tryz.func156, Tryz.ntmps156
     go_wp2_with (first | (refine bX HB 1 #[.string fC, .string fH, .slice iC aC.length fM] 61 ?_; intro aa0 w9 pI aa1 hb; replace HB := bs HB hb; clear hb; have z10 := ku pI.out) | (refine gB Tryz.func154 (kM.calls (cu (Kd.aW jQ.out HB.out)) nC.out A2.out) ?_; intro U2 hb; replace pI := kb pI hb; replace HB := bz HB hb; clear hb; have z12 := ku pI.out) | (refine gB Tryz.func182 (bC.calls (cu (Kd.aW jQ.out HB.out)) nC.out A3.out) ?_; intro w13 hb; replace pI := kb pI hb; replace HB := bz HB hb; clear hb; have z14 := ku pI.out) | (go_at_call 157; refine mA (dh.calls A7.out) ?_; intro nd))
     go_ret2
     exact ⟨er, bb⟩
    ·
     obtain ⟨rfl, rfl⟩ := s2 H
     go_enter Tryz.func156, Tryz.ntmps156
     go_wp2_with (first | (refine bX HB 1 #[.string fC, .string fH, .slice iC aC.length fM] 61 ?_; intro aa0 w15 pI aa1 hb; replace HB := bs HB hb; clear hb; have z16 := ku pI.out) | (refine gB Tryz.func154 (kM.calls (cu (Kd.aW jQ.out HB.out)) nC.out A2.out) ?_; intro w17 hb; replace pI := kb pI hb; replace HB := bz HB hb; clear hb; have z18 := ku pI.out) | (refine gB Tryz.func182 (bC.calls (cu (Kd.aW jQ.out HB.out)) nC.out A3.out) ?_; intro YM hb; replace pI := kb pI hb; replace HB := bz HB hb; clear hb; have z20 := ku pI.out) | (go_at_call 157; refine mA (dh.calls A7.out) ?_; intro nd))
     go_ret2
     exact ⟨er, bb⟩
   ·
    obtain ⟨rfl, rfl⟩ := s2 H
    go_enter Tryz.func156, Tryz.ntmps156
    go_wp2_with (first | (refine bX HB 1 #[.string fC, .string fH, .slice iC aC.length fM] 61 ?_; intro aa0 w21 pI aa1 hb; replace HB := bs HB hb; clear hb; have z22 := ku pI.out) | (refine gB Tryz.func154 (kM.calls (cu (Kd.aW jQ.out HB.out)) nC.out A2.out) ?_; intro w23 hb; replace pI := kb pI hb; replace HB := bz HB hb; clear hb; have z24 := ku pI.out) | (refine gB Tryz.func182 (bC.calls (cu (Kd.aW jQ.out HB.out)) nC.out A3.out) ?_; intro w25 hb; replace pI := kb pI hb; replace HB := bz HB hb; clear hb; have z26 := ku pI.out))
    go_ret2
    exact ⟨er, bb⟩
  ·
   obtain ⟨rfl, rfl⟩ := s2 H
   go_enter Tryz.func156, Tryz.ntmps156
   go_wp2_with (first | (refine bX HB 1 #[.string fC, .string fH, .slice iC aC.length fM] 61 ?_; intro aa0 w27 pI aa1 hb; replace HB := bs HB hb; clear hb; have ajt := ku pI.out) | (refine gB Tryz.func154 (kM.calls (cu (Kd.aW jQ.out HB.out)) nC.out A2.out) ?_; intro w29 hb; replace pI := kb pI hb; replace HB := bz HB hb; clear hb; have z30 := ku pI.out) | (refine gB Tryz.func182 (bC.calls (cu (Kd.aW jQ.out HB.out)) nC.out A3.out) ?_; intro w31 hb; replace pI := kb pI hb; replace HB := bz HB hb; clear hb; have z32 := ku pI.out))
   go_ret2
   exact ⟨er, bb⟩
 ·
  obtain ⟨rfl, rfl⟩ := s2 H
  go_enter Tryz.func156, Tryz.ntmps156
  go_wp2_with (first | (refine bX HB 1 #[.string fC, .string fH, .slice iC aC.length fM] 61 ?_; intro aa0 w33 pI aa1 hb; replace HB := bs HB hb; clear hb; have z34 := ku pI.out) | (refine gB Tryz.func154 (kM.calls (cu (Kd.aW jQ.out HB.out)) nC.out A2.out) ?_; intro w35 hb; replace pI := kb pI hb; replace HB := bz HB hb; clear hb; have z36 := ku pI.out) | (refine gB Tryz.func182 (bC.calls (cu (Kd.aW jQ.out HB.out)) nC.out A3.out) ?_; intro w37 hb; replace pI := kb pI hb; replace HB := bz HB hb; clear hb))
  go_ret2
  exact ⟨er, bb⟩
def kV.f (k : Nat) (l0 : List (gK)) : Option (ByteArray × Bool) := (kM.f k l0 (⟨#[67, 111, 110, 116, 101, 110, 116, 45, 84, 121, 112, 101]⟩ : ByteArray)).bind fun akv => ((bJ.f k akv.1).bind fun aa2 => ((n_.f k aa2.1 aa2.2.1 aa2.2.2.1).bind fun aa3 => (if akv.2 = true then (if aa2.2.2.2 = true then (some (aa3.1, aa3.2)) else (some (aa3.1, false))) else (some (aa3.1, false)))))
theorem kV.calls {k c0 : Nat} {A0 : Option Addr} {l0 : List (gK)} {r1 : ByteArray} {r2 : Bool} {w : World} (hr0 : Kd.C pU w A0 l0.length l0) (hc0 : l0.length ≤ c0) (h : kV.f k l0 = some (r1, r2)) :
  Calls Tryz.prog 108 #[.slice A0 l0.length c0] w fun e w' => e = .returned (.tuple #[.string r1, .bool r2]) ∧ Below w.heap.size w w' := by
 have Xh := Tryz.underlying61
 have HR0 := ak hr0
 have zq := ak hc0
 clear hr0 hc0
 have HB := ak (Below.refl w.heap.size w)
 unfold kV.f at h; have H := h
 clear h
 replace H := bd H
 obtain ⟨⟨aFJ, aFK⟩, A2, H⟩ := H
 (try dsimp only at H)
 replace H := bd H
 obtain ⟨⟨anw, anx, ade, aFL⟩, A3, H⟩ := H
 (try dsimp only at H)
 replace H := bd H
 obtain ⟨⟨aFM, aFN⟩, A4, H⟩ := H
 (try dsimp only at H)
 replace H := sb H
 rcases H with ⟨rfl, H⟩ | ⟨rfl, H⟩
 ·
  replace H := sb H
  rcases H with ⟨rfl, H⟩ | ⟨rfl, H⟩
  ·
   obtain ⟨rfl, rfl⟩ := s2 H
   go_enter Tryz.func108, Tryz.ntmps108
   go_wp2_with (first | (refine gB Tryz.func154 (kM.calls (cu HR0.out) zq.out A2.out) ?_; intro w7 hb; replace HB := bs HB hb; clear hb) | (refine gV Tryz.func155 (bJ.calls A3.out) ?_; rintro ar2 w8 ⟨ho0, hb⟩; have wJ := ak (Kd.aG ho0 (aj (ul HB.out))); replace HB := bs HB hb; clear hb; (try clear ho0)) | (refine bX HB 6 #[.string (⟨#[]⟩ : ByteArray), .string (⟨#[]⟩ : ByteArray), .slice none 0 0] 61 ?_; intro akw w9 Gp akx hb; replace wJ := rb wJ hb; replace HB := bs HB hb; clear hb; have z10 := ku Gp.out; obtain ⟨pq, oK, NQ⟩ := Kd.aX wJ.out; subst NQ) | (refine gB Tryz.func156 (n_.calls ?gJ ((Kd.au wJ.out).2.1) A4.out) ?_; (case gJ => refine (Kd.au (e := 69) (base := w.heap.size) (ok := fun k_ => True) (n := ade.length) (c := oK) ?_).2.2; exact (rh wJ)); intro w12 hb; replace wJ := rg wJ hb; replace Gp := kp Gp #[.string anw, .string anx, .slice pq ade.length oK] hb; replace HB := bz HB hb; clear hb))
   go_ret2
   exact ⟨er, bb⟩
  ·
   obtain ⟨rfl, rfl⟩ := s2 H
   go_enter Tryz.func108, Tryz.ntmps108
   go_wp2_with (first | (refine gB Tryz.func154 (kM.calls (cu HR0.out) zq.out A2.out) ?_; intro w13 hb; replace HB := bs HB hb; clear hb) | (refine gV Tryz.func155 (bJ.calls A3.out) ?_; rintro ar2 Tc ⟨ho0, hb⟩; have wJ := ak (Kd.aG ho0 (aj (ul HB.out))); replace HB := bs HB hb; clear hb; (try clear ho0)) | (refine bX HB 6 #[.string (⟨#[]⟩ : ByteArray), .string (⟨#[]⟩ : ByteArray), .slice none 0 0] 61 ?_; intro akw w15 Gp akx hb; replace wJ := rb wJ hb; replace HB := bs HB hb; clear hb; have z16 := ku Gp.out; obtain ⟨FW, ED, Tm⟩ := Kd.aX wJ.out; subst Tm) | (refine gB Tryz.func156 (n_.calls ?gJ ((Kd.au wJ.out).2.1) A4.out) ?_; (case gJ => refine (Kd.au (e := 69) (base := w.heap.size) (ok := fun k_ => True) (n := ade.length) (c := ED) ?_).2.2; exact (rh wJ)); intro w18 hb; replace wJ := rg wJ hb; replace Gp := kp Gp #[.string anw, .string anx, .slice FW ade.length ED] hb; replace HB := bz HB hb; clear hb))
   go_ret2
   exact ⟨er, bb⟩
 ·
  obtain ⟨rfl, rfl⟩ := s2 H
  go_enter Tryz.func108, Tryz.ntmps108
  go_wp2_with (first | (refine gB Tryz.func154 (kM.calls (cu HR0.out) zq.out A2.out) ?_; intro YM hb; replace HB := bs HB hb; clear hb) | (refine gV Tryz.func155 (bJ.calls A3.out) ?_; rintro ar2 w20 ⟨ho0, hb⟩; have wJ := ak (Kd.aG ho0 (aj (ul HB.out))); replace HB := bs HB hb; clear hb; (try clear ho0)) | (refine bX HB 6 #[.string (⟨#[]⟩ : ByteArray), .string (⟨#[]⟩ : ByteArray), .slice none 0 0] 61 ?_; intro akw w21 Gp akx hb; replace wJ := rb wJ hb; replace HB := bs HB hb; clear hb; have z22 := ku Gp.out; obtain ⟨QT, Pz, anz⟩ := Kd.aX wJ.out; subst anz) | (refine gB Tryz.func156 (n_.calls ?gJ ((Kd.au wJ.out).2.1) A4.out) ?_; (case gJ => refine (Kd.au (e := 69) (base := w.heap.size) (ok := fun k_ => True) (n := ade.length) (c := Pz) ?_).2.2; exact (rh wJ)); intro w24 hb; replace wJ := rg wJ hb; replace Gp := kp Gp #[.string anw, .string anx, .slice QT ade.length Pz] hb; replace HB := bz HB hb; clear hb))
  go_ret2
  exact ⟨er, bb⟩
end Go.Proofs.YtncdadcmghglkaaGreatDoor.PFnPartValid
