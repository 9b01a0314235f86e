/- Printed walks; conditions: those in each statement. -/
import Derived.Test.YtncdadcmghglkaaGreatDoorVFnPartValidQt
import Derived.Test.YtncdadcmghglkaaGreatDoorVFnPartValidYt
import Derived.Test.YtncdadcmghglkaaGreatDoorPFnPartValidx0
import Derived.Test.YtncdadcmghglkaaGreatDoorPFnPartValidx2
-- fixed
-- short
-- dense
-- sq
-- sq2
namespace Go.Proofs.YtncdadcmghglkaaGreatDoor.PFnPartValid
open Go.RowKit Go.Proofs.YtncdadcmghglkaaGreatDoor.X Go.Proofs.YtncdadcmghglkaaGreatDoorW.bK Go.Proofs.YtncdadcmghglkaaGreatDoorW.gY Go.Proofs.YtncdadcmghglkaaGreatDoorW.iU
attribute [local go_sem] lu lC ng ni jO jP lD lF   -- for this text's walks alone
set_option linter.unusedVariables false
set_option maxHeartbeats 8000000
set_option maxRecDepth 100000
set_option linter.unusedSimpArgs false
def oh.f (k : Nat) (fC : ByteArray) (fH : ByteArray) : Option (Bool) := (qV.f k fC fH).bind fun avy => (some (!avy))
theorem oh.calls {k : Nat} {fC fH : ByteArray} {r : Bool} {w : World} (h : oh.f k fC fH = some r) :
  Calls Tryz.prog 119 #[.agg #[.string fC, .string fH]] w fun e w' => e = .returned (.bool r) ∧ Below w.heap.size w w' := by
 have DK := Tryz.underlying69
 have HB := ak (Below.refl w.heap.size w)
 unfold oh.f at h; have H := h
 clear h
 replace H := bd H; obtain ⟨avy, A2, H⟩ := H
 obtain rfl := s1 H
 go_enter Tryz.func119, Tryz.ntmps119
 go_wp2_with (first | (refine bX HB 1 #[.string fC, .string fH] 69 ?_; intro aDF w3 agp aDG hb; replace HB := bs HB hb; clear hb; have z4 := AX agp.out) | (refine gB Tryz.func120 (qV.calls A2.out) ?_; intro w5 hb; replace agp := kb agp hb; replace HB := bz HB hb; clear hb))
 go_ret
 exact ⟨er, bb⟩
def dw.l0 : Nat → List (gK) → Int → Int → Option (Int)
 | 0, _, _, _ => none
 | k + 1, x0, x7, x8 => if x8 < x7 then (if 0 ≤ x8 then (if x8 < (x0.length : Int) then ((oh.f k ((dY x0 x8).f0) ((dY x0 x8).f1)).bind fun avz => (if avz = true then (some x8) else (dw.l0 k x0 x7 (wrap64 (x8 + 1))))) else (none)) else (none)) else (some (-1))
def dw.f (k : Nat) (l0 : List (gK))  : Option (Int) := dw.l0 k l0 (l0.length : Int) 0
theorem dw.calls {k c0 : Nat} {A0 : Option Addr} {l0 : List (gK)} {r : Int} {w : World} (hr0 : Kd.C pU w A0 l0.length l0) (hc0 : l0.length ≤ c0) (h : dw.f k l0 = some r) :
  Calls Tryz.prog 122 #[.slice A0 l0.length c0, .func (.func 119) #[] #[]] w fun e w' => e = .returned (.int .i64 r) ∧ Below w.heap.size w w' := by
 have DK := Tryz.underlying69
 have HR0 := ak hr0
 have zq := ak hc0
 clear hr0 hc0
 have HB := ak (Below.refl w.heap.size w)
 unfold dw.f at h; have H := h
 clear h
 have H' := ak H; clear H
 go_enter Tryz.func122, Tryz.ntmps122
 go_wp2
 go_loopg [8] k (fun kq v8 w' => ∃ (lK : Int), v8 = .int .i64 lK ∧ ah (dw.l0 kq l0 (l0.length : Int) lK = some r) ∧ ah (kq ≤ k) ∧ ah (Below w.heap.size w w'))
 case atStart => exact ⟨_, rs, H', ⟨Nat.le_refl _⟩, ⟨ul HB.out⟩⟩
 case round =>
  clear H'
  obtain ⟨lK, rfl, HA, yB, HB⟩ := hrel
  cases gk with
  | zero => exact zz HA.out
  | succ k1 =>
   obtain ⟨H⟩ := HA
   simp only [dw.l0] at H
   replace H := sd H
   rcases H with ⟨iP, H⟩ | ⟨iP, H⟩
   ·
    replace H := oN H; obtain ⟨rC, H⟩ := H; replace H := oN H; obtain ⟨nR, H⟩ := H; replace H := bd H; obtain ⟨avz, A6, H⟩ := H; replace H := sb H
    rcases H with ⟨rfl, H⟩ | ⟨rfl, H⟩
    ·
     obtain rfl := s1 H
     have ZE := zi lK
     have ZF := zj lK l0.length
     obtain ⟨avA, aoP, Lp, Lr⟩ := qC HR0.out lK ZE ZF
     cases aoP
     replace Lp := cl HB.out Lp
     replace Lr := cl HB.out Lr
     replace ZE := eq_true ZE
     replace ZF := eq_true ZF
     go_wp2_with (go_at_call 119; refine mB (oh.calls A6.out) ?_; intro w8 hb; replace HB := bs HB hb; clear hb)
     go_ret
     exact ⟨er, ul HB.out⟩
    ·
     have H' := ak H; clear H
     have ZE := zi lK
     have ZF := zj lK l0.length
     obtain ⟨avA, aoP, Lp, Lr⟩ := qC HR0.out lK ZE ZF
     cases aoP
     replace Lp := cl HB.out Lp
     replace Lr := cl HB.out Lr
     replace ZE := eq_true ZE
     replace ZF := eq_true ZF
     go_wp2_with (go_at_call 119; refine mB (oh.calls A6.out) ?_; intro w9 hb; replace HB := bs HB hb; clear hb)
     go_roundg k1
     case measure => exact kl
     case rel => exact ⟨_, rs, H', ⟨kl⟩, ⟨ul HB.out⟩⟩
   ·
    obtain rfl := s1 H
    go_wp2
    go_ret
    exact ⟨er, ul HB.out⟩
def kD.f (k : Nat) (l0 : List (gK))  : Option (Bool) := (dw.f k l0).bind fun avC => (some (decide (avC ≥ 0)))
theorem kD.calls {k c0 : Nat} {A0 : Option Addr} {l0 : List (gK)} {r : Bool} {w : World} (hr0 : Kd.C pU w A0 l0.length l0) (hc0 : l0.length ≤ c0) (h : kD.f k l0 = some r) :
  Calls Tryz.prog 118 #[.slice A0 l0.length c0, .func (.func 119) #[] #[]] w fun e w' => e = .returned (.bool r) ∧ Below w.heap.size w w' := by
 have HR0 := ak hr0
 have zq := ak hc0
 clear hr0 hc0
 have HB := ak (Below.refl w.heap.size w)
 unfold kD.f at h; have H := h
 clear h
 replace H := bd H; obtain ⟨avC, A3, H⟩ := H
 obtain rfl := s1 H
 go_enter Tryz.func118, Tryz.ntmps118
 go_wp2_with (refine gB Tryz.func122 (dw.calls (cu HR0.out) zq.out A3.out) ?_; intro w4 hb; replace HB := bs HB hb; clear hb)
 go_ret
 exact ⟨er, ul HB.out⟩
def oG.f (k : Nat) (l0 : List (gK)) : Option (Bool) := if (l0.length : Int) ≤ 20 then ((kD.f k l0).bind fun t124 => (some (!t124))) else (some false)
theorem oG.calls {k c0 : Nat} {A0 : Option Addr} {l0 : List (gK)} {r : Bool} {w : World} (hr0 : Kd.C pU w A0 l0.length l0) (hc0 : l0.length ≤ c0) (h : oG.f k l0 = some r) :
  Calls Tryz.prog 82 #[.slice A0 l0.length c0] w fun e w' => e = .returned (.bool r) ∧ Below w.heap.size w w' := by
 have HR0 := ak hr0
 have zq := ak hc0
 clear hr0 hc0
 have HB := ak (Below.refl w.heap.size w)
 unfold oG.f at h; have H := h
 clear h
 replace H := sp H
 rcases H with ⟨c2, H⟩ | ⟨c2, H⟩
 ·
  have o_ := decide_eq_true c2
  have wu : decide (l0.length ≤ 20) = true := decide_eq_true (by omega)
  clear c2
  replace H := bd H; obtain ⟨t124, A3, H⟩ := H
  obtain rfl := s1 H
  go_enter Tryz.func82, Tryz.ntmps82
  go_wp2_with (go_at_call 118; refine mB (kD.calls (cu HR0.out) zq.out A3.out) ?_; intro w4 hb; replace HB := bs HB hb; clear hb)
  go_ret
  exact ⟨er, ul HB.out⟩
 ·
  have o_ := decide_eq_false c2
  have wu : decide (l0.length ≤ 20) = false := decide_eq_false (by omega)
  clear c2
  obtain rfl := s1 H
  go_enter Tryz.func82, Tryz.ntmps82
  go_wp2
  go_ret
  exact ⟨er, ul HB.out⟩
mutual
def aK.j0 : Nat → ByteArray → Int → Option (List ByteArray)
 | 0, _, _ => none
 | k + 1, x3, x4 => aK.l0 k x3 x4 (([] : List ByteArray))
def aK.l0 : Nat → ByteArray → Int → List ByteArray → Option (List ByteArray)
 | 0, _, _, _ => none
 | k + 1, x3, x4, x5 => if (x3.size : Int) > 40 then (aK.l1 k x3 x5 (-1) x4) else (if x5.length < 8796093022208 then (some (x5 ++ [x3])) else (none))
def aK.l1 : Nat → ByteArray → List ByteArray → Int → Int → Option (List ByteArray)
 | 0, _, _, _, _ => none
 | k + 1, x3, x5, x6, x7 => if (wrap64 (x7 + 1)) < (x3.size : Int) then (if 0 ≤ x7 then (if x7 < (x3.size : Int) then (if (bt x3 x7) = 32 then (if 0 ≤ (wrap64 (x7 - 1)) then (if (wrap64 (x7 - 1)) < (x3.size : Int) then (if (bt x3 (wrap64 (x7 - 1))) = 32 then (aK.l1 k x3 x5 x6 (wrap64 (x7 + 1))) else (if 0 ≤ (wrap64 (x7 + 1)) then (if (bt x3 (wrap64 (x7 + 1))) = 32 then (aK.l1 k x3 x5 x6 (wrap64 (x7 + 1))) else (if x6 < 0 then (aK.l1 k x3 x5 x7 (wrap64 (x7 + 1))) else (if x7 ≤ 40 then (aK.l1 k x3 x5 x7 (wrap64 (x7 + 1))) else (aK.l1 k x3 x5 x6 (wrap64 (x7 + 1)))))) else (none))) else (none)) else (none)) else (aK.l1 k x3 x5 x6 (wrap64 (x7 + 1)))) else (none)) else (none)) else (if x6 < 0 then (if x5.length < 8796093022208 then (some (x5 ++ [x3])) else (none)) else (if 0 ≤ x6 then (if x6 ≤ (x3.size : Int) then (if x5.length < 8796093022208 then (aK.l0 k (x3.extract (x6 : Int).toNat x3.size) 2 (x5 ++ [x3.extract 0 (x6 : Int).toNat])) else (none)) else (none)) else (none)))
end
def aK.f (k : Nat) (fC : ByteArray) (fH : ByteArray) : Option (List ByteArray) := if fC.size + 1 ≤ 9223372036854775807 then (if fH.toList = ([] : List UInt8) then (aK.j0 k (fC ++ (⟨#[58]⟩ : ByteArray)) (wrap64 ((fC.size : Int) + 3))) else (if 1 + fH.size ≤ 9223372036854775807 then (if (fC ++ (⟨#[58]⟩ : ByteArray)).size + ((⟨#[32]⟩ : ByteArray) ++ fH).size ≤ 9223372036854775807 then (aK.j0 k ((fC ++ (⟨#[58]⟩ : ByteArray)) ++ ((⟨#[32]⟩ : ByteArray) ++ fH)) (wrap64 ((fC.size : Int) + 3))) else (none)) else (none))) else (none)
theorem aK.calls {k : Nat} {fC fH : ByteArray} {r : List ByteArray} {w : World} (h : aK.f k fC fH = some r) :
  Calls Tryz.prog 83 #[.agg #[.string fC, .string fH]] w fun e w' => ∃ rY : Value, e = .returned (rY) ∧ Kd.R Kd.string 9 w' w.heap.size (fun _ => True) rY r ∧ Below w.heap.size w w' := by
 have DK := Tryz.underlying69
 have HB := ak (Below.refl w.heap.size w)
 unfold aK.f at h; have H := h
 clear h
 replace H := nn H; obtain ⟨c2, H⟩ := H
 have o_ := eq_true c2
 have wu := decide_eq_true c2
 try have Zt : (9223372036854775807 < fC.size + 1) = False := eq_false (Nat.not_lt.2 c2)
 have QD := ak H
 clear H
 go_enter Tryz.func83, Tryz.ntmps83
 try go_wp2_with (refine bX HB 1 #[.string fC, .string fH] 69 ?_; intro O7 w4 qY aDH hb; replace HB := bs HB hb; clear hb)
 refine rO [] [0, 3, 1, 2, 7, 4, 5, 6, 8] (fun w' => w'.cell? ⟨O7, 0, none⟩ = some (.string fC) ∧ w'.cell? ⟨O7, 1, none⟩ = some (.string fH)) ?_
 intro w5 hb
 replace qY := kb qY hb
 replace HB := bs HB hb
 refine ⟨sx, ?_⟩
 repeat refine yS ?_
 refine on ?_
 have z6 := AX qY.out
 go_upto_if 17 with (fail)
 go_cut [3] (fun v3 wc => ∃ (kq : Nat) (lV : ByteArray), v3 = .string lV ∧ ah (aK.j0 kq lV (wrap64 ((fC.size : Int) + 3)) = some r) ∧ ah (kq ≤ k) ∧ ah (wc.heap[O7]? = some (.cells #[.string fC, .string fH] 69 (0, 0))) ∧ ah (Below w.heap.size w wc))
 case first =>
  have H := QD.out
  clear QD
  replace H := sp H
  rcases H with ⟨c7, H⟩ | ⟨c7, H⟩
  ·
   have sH := beq_iff_eq.mpr c7
   have c7e : (fH.toList).isEmpty = true := List.isEmpty_iff.mpr c7
   have Nw := bne_eq_false_iff_eq.mpr c7
   clear c7
   (first | rw [sH] | (simp only [eu, f_]; rw [sH]) | skip)
   (first | (rw [c7e]; simp only [Bool.not_true, Bool.not_false]) | skip)
   have H' := ak H; clear H
   go_wp2
   go_meet
   case rel => exact ⟨_, _, rs, H', ⟨JF⟩, ⟨ub qY.out⟩, ⟨bb⟩⟩
  ·
   have sH := beq_eq_false_iff_ne.mpr c7
   have c7e : (fH.toList).isEmpty = false := List.isEmpty_eq_false_iff.mpr c7
   have Nw := bne_iff_ne.mpr c7
   (first | rw [sH] | (simp only [eu, f_]; rw [sH]) | skip)
   (first | (rw [c7e]; simp only [Bool.not_true, Bool.not_false]) | skip)
   replace H := nn H; obtain ⟨c8, H⟩ := H
   have uj := eq_true c8
   have DU := decide_eq_true c8
   try have atn : (9223372036854775807 < 1 + fH.size) = False := eq_false (Nat.not_lt.2 c8)
   replace H := nn H; obtain ⟨c9, H⟩ := H
   have zu := eq_true c9
   have Gn := decide_eq_true c9
   try have aIT : (9223372036854775807 < fC.size + 1 + (1 + fH.size)) = False := by have h_ := (eq_false (Nat.not_lt.2 c9) : (9223372036854775807 < (fC ++ (⟨#[58]⟩ : ByteArray)).size + ((⟨#[32]⟩ : ByteArray) ++ fH).size) = False); simp only [ByteArray.size_append] at h_; exact h_
   try have auD : (9223372036854775807 < (fC ++ (⟨#[58]⟩ : ByteArray)).size + ((⟨#[32]⟩ : ByteArray) ++ fH).size) = False := eq_false (Nat.not_lt.2 c9)
   have H' := ak H; clear H
   have z10 := AX qY.out
   go_wp2
   go_meet
   case rel => exact ⟨_, _, rs, H', ⟨JF⟩, ⟨ub qY.out⟩, ⟨bb⟩⟩
 case rest =>
  clear QD
  try clear c2
  try clear o_
  try clear wu
  try clear Zt
  obtain ⟨kq, lV, rfl, HA, HJ2, qY, HB⟩ := hcut
  cases kq with
  | zero => exact zz HA.out
  | succ WX =>
   obtain ⟨H⟩ := HA
   simp only [aK.j0] at H
   obtain ⟨aIU, al1⟩ := nm ([] : List ByteArray)
   rw [← al1.out] at H
   have H' := ak H; clear H
   go_wp2_with (refine F8 23 Kd.string 9 al1 ?_; intro v127 U2 aeK hb; have avD := ak (Kd.aG aeK (aj bb)); replace qY := kb qY hb; replace HB := bz HB hb; clear hb aeK)
   go_loopg [3, 4, 5] WX (fun kq v3 v4 v5 w' => ∃ (lV : ByteArray) (pO : Int) (uO : List ByteArray), v3 = .string lV ∧ v4 = .int .i64 pO ∧ ah (aK.l0 kq lV pO uO = some r) ∧ ah (kq ≤ WX) ∧ ah (Kd.R Kd.string 9 w' w.heap.size (fun _ => True) v5 uO) ∧ ah (w'.heap[O7]? = some (.cells #[.string fC, .string fH] 69 (0, 0))) ∧ ah (Below w.heap.size w w'))
   case atStart => exact ⟨_, _, _, rs, rs, H', ⟨Nat.le_refl _⟩, ⟨ur avD.out⟩, ⟨ub qY.out⟩, ⟨bb⟩⟩
   case round =>
    clear H'
    try clear c2
    try clear o_
    try clear wu
    try clear Zt
    obtain ⟨lV, pO, uO, rfl, rfl, HA, HK2, rE, qY, HB⟩ := hrel
    cases gk with
    | zero => exact zz HA.out
    | succ k2 =>
     obtain ⟨H⟩ := HA
     simp only [aK.l0] at H
     replace H := sp H
     rcases H with ⟨c13, H⟩ | ⟨c13, H⟩
     ·
      have xk : decide (40 < (lV.size : Int)) = true := decide_eq_true c13
      have AV : decide (40 < lV.size) = true := decide_eq_true (by omega)
      clear c13
      have H' := ak H; clear H
      go_wp2
      go_loopg [6, 7] k2 (fun kq v6 v7 w' => ∃ (DX : Int) (qW : Int), v6 = .int .i64 DX ∧ v7 = .int .i64 qW ∧ ah (aK.l1 kq lV uO DX qW = some r) ∧ ah (kq ≤ k2) ∧ ah (Kd.R Kd.string 9 w' w.heap.size (fun _ => True) u5 uO) ∧ ah (w'.heap[O7]? = some (.cells #[.string fC, .string fH] 69 (0, 0))) ∧ ah (Below w.heap.size w w'))
      case atStart => exact ⟨_, _, rs, rs, H', ⟨Nat.le_refl _⟩, ⟨ur rE.out⟩, ⟨ub qY.out⟩, ⟨bb⟩⟩
      case round =>
       clear H'
       try clear c2
       try clear o_
       try clear wu
       try clear Zt
       try clear c13
       try clear xk
       try clear AV
       obtain ⟨DX, qW, rfl, rfl, HA, HK3, rE, qY, HB⟩ := hrel
       cases gk with
       | zero => exact zz HA.out
       | succ k3 =>
        obtain ⟨H⟩ := HA
        simp only [aK.l1] at H
        replace H := sp H
        rcases H with ⟨c14, H⟩ | ⟨c14, H⟩
        ·
         have rQ := decide_eq_true c14
         (try (have xO : decide ((qW + 1) < (lV.size : Int)) = true := decide_eq_true (by have h_ := c14; unfold wrap64 at h_; omega)))
         clear c14
         replace H := oN H; obtain ⟨xq, H⟩ := H; replace H := oN H; obtain ⟨AP, H⟩ := H; replace H := sq H
         rcases H with ⟨AQ, QI, H⟩ | ⟨c18, AQ, QI, H⟩
         ·
          obtain ⟨V7, agq⟩ : ∃ j_ : Int, (wrap64 (qW - 1)) = j_ := ⟨_, rfl⟩
          replace H : (if 0 ≤ (V7) then (if (V7) < (lV.size : Int) then (if (bt lV (V7)) = 32 then (aK.l1 k3 lV uO DX (wrap64 (qW + 1))) else (if 0 ≤ (wrap64 (qW + 1)) then (if (bt lV (wrap64 (qW + 1))) = 32 then (aK.l1 k3 lV uO DX (wrap64 (qW + 1))) else (if DX < 0 then (aK.l1 k3 lV uO qW (wrap64 (qW + 1))) else (if qW ≤ 40 then (aK.l1 k3 lV uO qW (wrap64 (qW + 1))) else (aK.l1 k3 lV uO DX (wrap64 (qW + 1)))))) else (none))) else (none)) else (none)) = some r := by first | (rw [agq] at H; exact H) | (simp only [agq] at H ⊢; exact H)
          have aA5 : (IntKind.i64.wrap (qW - 1)) = V7 := (eu _).trans agq
          replace H := oN H; obtain ⟨TS, H⟩ := H; replace H := oN H; obtain ⟨Fg, H⟩ := H; replace H := sq H
          rcases H with ⟨BI, OY, H⟩ | ⟨c23, BI, OY, H⟩
          ·
           have H' := ak H; clear H
           obtain ⟨p17, q17, agr⟩ := bx lV qW
           obtain ⟨p22, q22, ai4⟩ := bx lV (V7)
           go_wp2
           go_roundg k3
           case measure => exact kl
           case rel => exact ⟨_, _, rs, rs, H', ⟨kl⟩, ⟨ur rE.out⟩, ⟨ub qY.out⟩, ⟨bb⟩⟩
          ·
           obtain ⟨Ru, O8⟩ : ∃ j_ : Int, (wrap64 (qW + 1)) = j_ := ⟨_, rfl⟩
           replace H : (if 0 ≤ (Ru) then (if (bt lV (Ru)) = 32 then (aK.l1 k3 lV uO DX Ru) else (if DX < 0 then (aK.l1 k3 lV uO qW Ru) else (if qW ≤ 40 then (aK.l1 k3 lV uO qW Ru) else (aK.l1 k3 lV uO DX Ru)))) else (none)) = some r := by first | (rw [O8] at H; exact H) | (simp only [O8] at H ⊢; exact H)
           (try rw [O8] at rQ)
           have aA6 : (IntKind.i64.wrap (qW + 1)) = Ru := (eu _).trans O8
           replace H := oN H; obtain ⟨QE, H⟩ := H; replace H := sq H
           rcases H with ⟨Gf, aaT, H⟩ | ⟨c27, Gf, aaT, H⟩
           ·
            have H' := ak H; clear H
            obtain ⟨p17, q17, agr⟩ := bx lV qW
            obtain ⟨p22, q22, ai4⟩ := bx lV (V7)
            obtain ⟨p26, q26, aoQ⟩ := bx lV (Ru)
            go_wp2
            go_roundg k3
            case measure => exact kl
            case rel => exact ⟨_, _, rs, (by first | rfl | (simp; done) | (simp only [← O8] <;> (first | rfl | simp)) | (simp [*]; done)), H', ⟨kl⟩, ⟨ur rE.out⟩, ⟨ub qY.out⟩, ⟨bb⟩⟩
           ·
            replace H := sd H
            rcases H with ⟨Gg, H⟩ | ⟨Gg, H⟩
            ·
             have H' := ak H; clear H
             obtain ⟨p17, q17, agr⟩ := bx lV qW
             obtain ⟨p22, q22, ai4⟩ := bx lV (V7)
             obtain ⟨p26, q26, aoQ⟩ := bx lV (Ru)
             go_wp2
             go_roundg k3
             case measure => exact kl
             case rel => exact ⟨_, _, rs, (by first | rfl | (simp; done) | (simp only [← O8] <;> (first | rfl | simp)) | (simp [*]; done)), H', ⟨kl⟩, ⟨ur rE.out⟩, ⟨ub qY.out⟩, ⟨bb⟩⟩
            ·
             replace H := sd H
             rcases H with ⟨abP, H⟩ | ⟨abP, H⟩
             ·
              have H' := ak H; clear H
              obtain ⟨p17, q17, agr⟩ := bx lV qW
              obtain ⟨p22, q22, ai4⟩ := bx lV (V7)
              obtain ⟨p26, q26, aoQ⟩ := bx lV (Ru)
              go_wp2
              go_roundg k3
              case measure => exact kl
              case rel => exact ⟨_, _, rs, (by first | rfl | (simp; done) | (simp only [← O8] <;> (first | rfl | simp)) | (simp [*]; done)), H', ⟨kl⟩, ⟨ur rE.out⟩, ⟨ub qY.out⟩, ⟨bb⟩⟩
             ·
              have H' := ak H; clear H
              obtain ⟨p17, q17, agr⟩ := bx lV qW
              obtain ⟨p22, q22, ai4⟩ := bx lV (V7)
              obtain ⟨p26, q26, aoQ⟩ := bx lV (Ru)
              go_wp2
              go_roundg k3
              case measure => exact kl
              case rel => exact ⟨_, _, rs, (by first | rfl | (simp; done) | (simp only [← O8] <;> (first | rfl | simp)) | (simp [*]; done)), H', ⟨kl⟩, ⟨ur rE.out⟩, ⟨ub qY.out⟩, ⟨bb⟩⟩
         ·
          have H' := ak H; clear H
          obtain ⟨p17, q17, agr⟩ := bx lV qW
          go_wp2
          go_roundg k3
          case measure => exact kl
          case rel => exact ⟨_, _, rs, rs, H', ⟨kl⟩, ⟨ur rE.out⟩, ⟨ub qY.out⟩, ⟨bb⟩⟩
        ·
         have rQ := decide_eq_false c14
         (try (have xO : decide ((qW + 1) < (lV.size : Int)) = false := decide_eq_false (by have h_ := c14; unfold wrap64 at h_; omega)))
         clear c14
         replace H := sd H
         rcases H with ⟨aaV, H⟩ | ⟨aaV, H⟩
         ·
          replace H := nl H; obtain ⟨aeA, H⟩ := H
          obtain ⟨aIV, al2⟩ := nm (uO ++ [lV])
          rw [← al2.out] at H
          obtain rfl := s1 H
          go_wp2_with ((with_reducible refine dN (b := .append) (xs := #[.tmp 73, .tmp 75]) rfl ?_); at_builtin; refine Kd.oP Kd.string (w0 := w) w.heap.size rfl (.tmp 73) (.tmp 75) 23 9 (.string ⟨#[]⟩) 16 rfl Tryz.underlying23 info9 rfl (by decide) (by omega) u5 uO lV [.string lV] (fun _ => True) (fun _ => False) rfl rfl ?aP (fun _ hk => hk.elim) ?aF ?aO ?aB ?aS ?aL ?_; (case aP => exact rfl); (case aB => exact bb); (case aF => exact (fun _ _ => trivial)); (case aO => exact (ur rE.out)); (case aS => exact (aj bb)); (case aL => have := aeA.out; omega); intro aIW w32 ho hb hg hat; rw [← al2.out] at ho; have avE := ak (ho); replace qY := ak (bM (g := O7) (o := .cells #[.string fC, .string fH] 69 (0, 0)) (ub qY.out) hg (Kd.nO rE.out qY.out (by decide))); replace HB := ak (hb); clear ho hb hg hat rE)
          go_ret
          exact ⟨_, er, ur avE.out, bb⟩
         ·
          replace H := Ba H; obtain ⟨OW, XA, H⟩ := H; replace H := Ba H; obtain ⟨XB, XC, H⟩ := H; replace H := nl H; obtain ⟨afD, H⟩ := H
          obtain ⟨aIX, al3⟩ := nm (uO ++ [lV.extract 0 (DX : Int).toNat])
          rw [← al3.out] at H
          have al4 := eq_true (of_decide_eq_true (by assumption) : 0 ≤ DX)
          have aDI := eq_true (of_decide_eq_true (by assumption) : DX ≤ (lV.size : Int))
          have H' := ak H; clear H
          try go_wp2
          replace rE := ak (Kd.jX rE.out)
          replace qY := ak (bH qY.out)
          replace HB := ak (iy HB.out)
          refine ro [4, 5] [0, 1, 2, 3, 6, 7, 8, 4, 5, 9, 10, 11] (fun w' => True) trivial ?_
          generalize wr.drew = w38 at rE qY HB ⊢
          repeat refine yS ?_
          refine ld (N := some 68) (gk.trans rfl) rfl rfl (fun K hK => ?_)
          refine DN (w1 := ?_) (v := ?_) (by rfl) rfl ?_ ?_
          rotate_left 2
          ·
           go_simp
           constructor
           ·
            rfl
           ·
            rfl
          refine hK.out _ _ trivial ?_
          clear hK K
          refine no (a' := ?_) ?_ ?_
          rotate_left
          ·
           show Act.put _ (some 68) _ = _
           simp only [Act.put, sK, sN, l_c, eu, f_]
           rfl
          refine ld (N := some 69) (gk.trans rfl) rfl rfl (fun K hK => ?_)
          refine Kd.oO Kd.string (w0 := w) w.heap.size (by rfl) (.tmp 64) (.tmp 68) 23 9 (.string ⟨#[]⟩) 16 rfl Tryz.underlying23 info9 rfl (by decide) (by omega) u5 uO (lV.extract 0 (DX : Int).toNat) [.string (lV.extract 0 (DX : Int).toNat)] (fun _ => True) (fun _ => False) rfl rfl ?aP (fun _ hk => hk.elim) ?aF ?aO ?aB ?aS ?aL ?_
          (case aP => exact rfl)
          (case aB => exact bb)
          (case aF => exact (fun _ _ => trivial))
          (case aO => exact (ur rE.out))
          (case aS => exact (aj bb))
          (case aL => have := afD.out; omega)
          intro aIY w39 ho hb hg hat
          rw [← al3.out] at ho
          have xK := ak (bM (g := O7) (o := .cells #[.string fC, .string fH] 69 (0, 0)) (ub qY.out) hg (Kd.nO rE.out qY.out (by decide)))
          have xM := ak (hb)
          have yC := ak (ho)
          clear qY HB rE
          have qY := xK
          have HB := xM
          have avF := yC
          clear xK xM yC ho hb hg hat
          refine hK.out _ _ trivial ?_
          clear hK K
          refine no (a' := ?_) ?_ ?_
          rotate_left
          ·
           show Act.put _ (some 69) _ = _
           simp only [Act.put, sK, sN, l_c, eu, f_]
           rfl
          repeat refine yS ?_
          refine on ?_
          try go_wp2
          go_roundg k3
          case measure => exact kl
          case rel => exact ⟨_, _, _, rs, rs, H', ⟨kl⟩, ⟨ur avF.out⟩, ⟨ub qY.out⟩, ⟨bb⟩⟩
     ·
      have xk : decide (40 < (lV.size : Int)) = false := decide_eq_false c13
      have AV : decide (40 < lV.size) = false := decide_eq_false (by omega)
      clear c13
      replace H := nl H; obtain ⟨XD, H⟩ := H
      obtain ⟨aIZ, al5⟩ := nm (uO ++ [lV])
      rw [← al5.out] at H
      obtain rfl := s1 H
      go_wp2_with ((with_reducible refine dN (b := .append) (xs := #[.tmp 73, .tmp 75]) rfl ?_); at_builtin; refine Kd.oP Kd.string (w0 := w) w.heap.size rfl (.tmp 73) (.tmp 75) 23 9 (.string ⟨#[]⟩) 16 rfl Tryz.underlying23 info9 rfl (by decide) (by omega) u5 uO lV [.string lV] (fun _ => True) (fun _ => False) rfl rfl ?aP (fun _ hk => hk.elim) ?aF ?aO ?aB ?aS ?aL ?_; (case aP => exact rfl); (case aB => exact bb); (case aF => exact (fun _ _ => trivial)); (case aO => exact (ur rE.out)); (case aS => exact (aj bb)); (case aL => have := XD.out; omega); intro v130 w41 ho hb hg hat; rw [← al5.out] at ho; have avG := ak (ho); replace qY := ak (bM (g := O7) (o := .cells #[.string fC, .string fH] 69 (0, 0)) (ub qY.out) hg (Kd.nO rE.out qY.out (by decide))); replace HB := ak (hb); clear ho hb hg hat rE)
      go_ret
      exact ⟨_, er, ur avG.out, bb⟩
def jr.l0 : Nat → List ByteArray → List (gK) → Int → Int → Option (List ByteArray × Bool)
 | 0, _, _, _, _ => none
 | k + 1, x4, x11, x12, CO => if CO < x12 then (if 0 ≤ CO then (if CO < (x11.length : Int) then ((aK.f k ((dY x11 CO).f0) ((dY x11 CO).f1)).bind fun ady => (if x4.length + ady.length < 8796093022208 then (jr.l0 k (x4 ++ ady) x11 x12 (wrap64 (CO + 1))) else (none))) else (none)) else (none)) else (some (x4, true))
def jr.f (k : Nat) (l0 : List (gK)) : Option (List ByteArray × Bool) := (oG.f k l0).bind fun t138 => (if t138 = true then (jr.l0 k (([] : List ByteArray)) l0 (l0.length : Int) 0) else (some (([] : List ByteArray), false)))
theorem jr.calls {k c0 : Nat} {A0 : Option Addr} {l0 : List (gK)} {r1 : List ByteArray} {r2 : Bool} {w : World} (hr0 : Kd.C pU w A0 l0.length l0) (hc0 : l0.length ≤ c0) (h : jr.f k l0 = some (r1, r2)) :
  Calls Tryz.prog 39 #[.slice A0 l0.length c0] w fun e w' => ∃ rY : Value, e = .returned (.tuple #[rY, .bool r2]) ∧ Kd.R Kd.string 9 w' w.heap.size (fun _ => True) rY r1 ∧ Below w.heap.size w w' := by
 have DK := Tryz.underlying69
 have HR0 := ak hr0
 have zq := ak hc0
 clear hr0 hc0
 have HB := ak (Below.refl w.heap.size w)
 unfold jr.f at h; have H := h
 clear h
 replace H := bd H; obtain ⟨t138, A2, H⟩ := H; replace H := sb H
 rcases H with ⟨rfl, H⟩ | ⟨rfl, H⟩
 ·
  obtain ⟨aI9, amd⟩ := nm ([] : List ByteArray)
  rw [← amd.out] at H
  have H' := ak H; clear H
  go_enter Tryz.func39, Tryz.ntmps39
  go_wp2_with (first | (refine gB Tryz.func82 (oG.calls (cu HR0.out) zq.out A2.out) ?_; intro w4 hb; replace HB := bs HB hb; clear hb) | (refine F8 10 Kd.string 9 amd ?_; intro aI_ w5 YI hb; have avR := ak (Kd.aG YI (aj (ul HB.out))); replace HB := bs HB hb; clear hb YI))
  go_loopg [4, 13] k (fun kq v4 v13 w' => ∃ (fG : List ByteArray) (jA : Int), v13 = .int .i64 jA ∧ ah (jr.l0 kq fG l0 (l0.length : Int) jA = some (r1, r2)) ∧ ah (kq ≤ k) ∧ ah (Kd.R Kd.string 9 w' w.heap.size (fun _ => True) v4 fG) ∧ ah (Below w.heap.size w w'))
  case atStart => exact ⟨_, _, rs, H', ⟨Nat.le_refl _⟩, ⟨ur avR.out⟩, ⟨ul HB.out⟩⟩
  case round =>
   clear H'
   obtain ⟨fG, jA, rfl, HA, yB, iY, HB⟩ := hrel
   cases gk with
   | zero => exact zz HA.out
   | succ k1 =>
    obtain ⟨H⟩ := HA
    simp only [jr.l0] at H
    replace H := sd H
    rcases H with ⟨sH, H⟩ | ⟨sH, H⟩
    ·
     replace H := oN H; obtain ⟨uj, H⟩ := H; replace H := oN H; obtain ⟨zu, H⟩ := H; replace H := bd H; obtain ⟨ady, Xa, H⟩ := H; replace H := nl H; obtain ⟨QV, H⟩ := H
     obtain ⟨aJa, ame⟩ := nm (fG ++ ady)
     rw [← ame.out] at H
     have H' := ak H; clear H
     have aoW := zi jA
     have aoX := zj jA l0.length
     obtain ⟨aDU, aBg, acv, acw⟩ := qC HR0.out jA aoW aoX
     cases aBg
     replace acv := cl HB.out acv
     replace acw := cl HB.out acw
     replace aoW := eq_true aoW
     replace aoX := eq_true aoX
     go_wp2_with (first | (refine bX HB 6 #[.string (⟨#[]⟩ : ByteArray), .string (⟨#[]⟩ : ByteArray)] 69 ?_; intro avS w12 Um aDV hb; replace iY := rb iY hb; replace HB := bs HB hb; clear hb; have z13 := AX Um.out) | (refine gV Tryz.func83 (aK.calls Xa.out) ?_; rintro v145 Tc ⟨ho0, hb⟩; have Yc := ak (Kd.aG (Kd.fK ho0 (Kd.jH (rh iY))) (aj bb)); replace iY := ak (Kd.fA (rh iY) (Kd.eH ho0) hb); replace Um := kp Um #[.string ((dY l0 jA).f0), .string ((dY l0 jA).f1)] hb; replace HB := bz HB hb; clear hb; (try clear ho0); obtain ⟨adl, adn, Zx⟩ := Kd.aX Yc.out; subst Zx) | ((with_reducible refine dN (b := .append) (xs := #[.tmp 17, .tmp 19]) rfl ?_); at_builtin; refine Kd.nP Kd.string (w0 := w) w.heap.size rfl (.tmp 17) (.tmp 19) 23 9 (.string ⟨#[]⟩) 16 rfl Tryz.underlying23 info9 rfl (by decide) (by omega) u4 fG ady _ _ _ (fun k_ => some k_ ≠ (.slice adl ady.length adn : Value).ownBlock) (fun _ => False) rfl rfl ?aO ?aR (fun _ _ h => h) (fun _ h => h.elim) ?aF ?aB ?aS ?aL ?_; (case aR => repeat (first | exact (Kd.au Yc.out).2.2 | (with_reducible refine Kd.pV ?_ _) | (with_reducible refine Kd.pW ?_ _) | (with_reducible refine Kd.sU ?_))); (case aB => exact bb); (case aF => exact (fun k_ hk => Kd.fresh' (Kd.jH (ur Yc.out)) k_ hk)); (case aO => exact (ur (Kd.aY iY.out (fun _ hk => hk.2)))); (case aS => exact (aj bb)); (case aL => have := QV.out; omega); intro v148 w15 ho hb hg hat; rw [← ame.out] at ho; have avT := ak (ho); replace Um := ak (bM (g := avS) (o := .cells #[.string ((dY l0 jA).f0), .string ((dY l0 jA).f1)] 69 (0, 0)) (ub Um.out) hg (Kd.nO iY.out Um.out (by decide))); replace Yc := ak (Kd.qo (ok := (fun _ => True)) (ur Yc.out) hg hat); replace HB := ak (hb); clear ho hb hg hat iY))
     go_roundg k1
     case measure => exact kl
     case rel => exact ⟨_, _, rs, H', ⟨kl⟩, ⟨ur (Kd.aY avT.out (fun _ hk => trivial))⟩, ⟨bb⟩⟩
    ·
     obtain ⟨rfl, rfl⟩ := s2 H
     go_wp2
     go_ret2
     exact ⟨_, er, ur iY.out, ul HB.out⟩
 ·
  obtain ⟨rfl, rfl⟩ := s2 H
  go_enter Tryz.func39, Tryz.ntmps39
  go_wp2_with (refine gB Tryz.func82 (oG.calls (cu HR0.out) zq.out A2.out) ?_; intro w17 hb; replace HB := bs HB hb; clear hb)
  go_ret2
  exact ⟨_, er, nx, ul HB.out⟩
def jg.f (a0 : ByteArray) : Option (ByteArray) := if a0.size ≤ 140737488355328 then some (strOfNums ((bytesOf a0).map Tf)) else none
set_option maxHeartbeats 1000000 in
set_option maxRecDepth 100000 in
theorem jg.calls {a0 r : ByteArray} {w : World} (h : jg.f a0 = some r) :
  Calls Tryz.prog 93 #[.string a0] w fun e w' => e = .returned (.string r) ∧ Below w.heap.size w w' := by
 unfold jg.f at h
 split at h
 ·
  rename_i hb
  injection h with h
  subst h
  have kb := fun W => OV (P := Tryz.prog) 9 22 5 Tryz.underlying9 Tryz.underlying22 Tryz.underlying5 a0 W
  go_enter Tryz.func93, Tryz.ntmps93
  go_wp2
  go_loopw [10] (fun i W => ∃ k : Nat, k ≤ a0.size ∧ i = .int .i64 k ∧ NM w w.heap.size (FV (bytesOf a0) k) W) (fun i _ => a0.size - (intOf i).toNat)
  case atStart => exact ⟨0, Nat.zero_le _, rfl, by simpa [FV] using Kq w 5 a0⟩
  case round =>
   obtain ⟨k, hk, rfl, hR⟩ := hrel
   have HR := ak hR
   by_cases hlt : k < a0.size
   ·
    have hc := hR.cell k (by rw [nD, bytesOf_length]; exact hlt)
    have hf := hR.free k (by rw [nD, bytesOf_length]; exact hlt)
    rw [Vj _ _ (by rw [bytesOf_length]; exact hlt)] at hc
    clear hR
    have hr := Iz a0 k
    have hs := ak (TR (bytesOf a0) k (by rw [bytesOf_length]; exact hlt))
    have hu := ak (NP (bytesOf a0) k (by rw [bytesOf_length]; exact hlt))
    generalize (bytesOf a0).getD k 0 = c at hc hr hs hu
    go_wp2
    ·
     go_roundw
     case rel => exact ⟨k + 1, by omega, by go_num, by
      rw [hu.out, Tf, if_pos ⟨by omega, by omega⟩]
      exact HR.out.store (Nat.le_refl _) k (by rw [nD, bytesOf_length]; exact hlt) _⟩
     case measure => simp [intOf]; omega
    ·
     go_roundw
     case rel => exact ⟨k + 1, by omega, by go_num, by rw [hs.out (by omega)]; exact HR.out⟩
     case measure => simp [intOf]; omega
    ·
     go_roundw
     case rel => exact ⟨k + 1, by omega, by go_num, by rw [hs.out (by omega)]; exact HR.out⟩
     case measure => simp [intOf]; omega
   ·
    clear hR
    have kd := run_convert_bytes_arg (P := Tryz.prog) wr 22 5 Tryz.underlying22 Tryz.underlying5 w.heap.size 0 a0.size (grownCap w a0.size 0 5) (FV (bytesOf a0) k) (by rw [nD, bytesOf_length]) (fun i hi => by
     rw [Nat.zero_add]; exact HR.out.cell i (by rw [nD, bytesOf_length]; exact hi)) 9 Tryz.underlying9
    go_wp2
    go_ret
    have hk2 : k = a0.size := by omega
    exact ⟨by rw [hk2, Xv (bytesOf a0) a0.size (bytesOf_length a0)]; rfl, HR.out.below⟩
 ·
  cases h
def uq.f (a0 : ByteArray) (a1 : ByteArray) : Option (Bool) := (jg.f a0).bind fun avU => ((jg.f a1).bind fun avV => (some (avU.toList == avV.toList)))
theorem uq.calls {a0 a1 : ByteArray} {r : Bool} {w : World} (h : uq.f a0 a1 = some r) :
  Calls Tryz.prog 124 #[.string a0, .string a1] w fun e w' => e = .returned (.bool r) ∧ Below w.heap.size w w' := by
 have HB := ak (Below.refl w.heap.size w)
 unfold uq.f at h; have H := h
 clear h
 replace H := bd H; obtain ⟨avU, A3, H⟩ := H; replace H := bd H; obtain ⟨avV, A4, H⟩ := H
 obtain rfl := s1 H
 go_enter Tryz.func124, Tryz.ntmps124
 go_wp2_with (first | (refine gB Tryz.func93 (jg.calls A3.out) ?_; intro w5 hb; replace HB := bs HB hb; clear hb) | (refine gB Tryz.func93 (jg.calls A4.out) ?_; intro w6 hb; replace HB := bs HB hb; clear hb))
 go_ret
 exact ⟨er, ul HB.out⟩
def oW.f (fC : ByteArray) (fH : ByteArray) (a1 : ByteArray) : Option (Bool) := (uq.f fC a1).bind fun avW => (some avW)
theorem oW.calls {fC fH a1 : ByteArray} {gq1 : Nat} {r : Bool} {w : World} (hq1 : w.heap[gq1]? = some (.cells #[.string a1] 9 (0, 0))) (h : oW.f fC fH a1 = some r) :
  Calls Tryz.prog 123 #[.agg #[.string fC, .string fH], .pointer (some ⟨gq1, 0, none⟩)] w fun e w' => e = .returned (.bool r) ∧ Below w.heap.size w w' := by
 have DK := Tryz.underlying69
 have wC := ak hq1
 clear hq1
 have HB := ak (Below.refl w.heap.size w)
 unfold oW.f at h; have H := h
 clear h
 replace H := bd H; obtain ⟨avW, A3, H⟩ := H
 obtain rfl := s1 H
 go_enter Tryz.func123, Tryz.ntmps123
 go_wp2_with (first | (refine bY HB 2 #[.string fC, .string fH] 69 ?_; intro aDW w4 agv aDX hg hb; have agw := Au wC hg; have agx := Aw wC hg; replace wC := kb wC hb; replace HB := bz HB hb; clear hb hg; have aJb := agx.out; have aJc := agw.out; have z6 := AX agv.out; have aBh : w4.cell? ⟨gq1, 0, none⟩ = some (.string a1) := (aA wC.out 0).trans rfl; have aBi := iG wC.out 0) | (refine gB Tryz.func124 (uq.calls A3.out) ?_; intro w8 hb; replace wC := kb wC hb; replace agv := kb agv hb; replace HB := bz HB hb; clear hb))
 go_ret
 exact ⟨er, bb⟩
def fJ.l0 : Nat → List (gK) → Int → Int → ByteArray → Option (Int)
 | 0, _, _, _, _ => none
 | k + 1, x0, x7, x8, QC => if x8 < x7 then (if 0 ≤ x8 then (if x8 < (x0.length : Int) then ((oW.f ((dY x0 x8).f0) ((dY x0 x8).f1) QC).bind fun avX => (if avX = true then (some x8) else (fJ.l0 k x0 x7 (wrap64 (x8 + 1)) QC))) else (none)) else (none)) else (some (-1))
def fJ.f (k : Nat) (l0 : List (gK)) (FU : ByteArray) : Option (Int) := fJ.l0 k l0 (l0.length : Int) 0 FU
theorem fJ.calls {k c0 Iy : Nat} {A0 : Option Addr} {l0 : List (gK)} {FU : ByteArray} {r : Int} {w : World} (hr0 : Kd.C pU w A0 l0.length l0) (hc0 : l0.length ≤ c0) (OL : w.heap[Iy]? = some (.cells #[.string FU] 9 (0, 0))) (h : fJ.f k l0 FU = some r) :
  Calls Tryz.prog 122 #[.slice A0 l0.length c0, .func (.func 123) #[] #[.pointer (some ⟨Iy, 0, none⟩)]] w fun e w' => e = .returned (.int .i64 r) ∧ Below w.heap.size w w' := by
 have DK := Tryz.underlying69
 have HR0 := ak hr0
 have zq := ak hc0
 clear hr0 hc0
 have wC := ak OL
 clear OL
 have HB := ak (Below.refl w.heap.size w)
 unfold fJ.f at h; have H := h
 clear h
 have H' := ak H; clear H
 go_enter Tryz.func122, Tryz.ntmps122
 go_wp2
 go_loopg [8] k (fun kq v8 w' => ∃ (lK : Int), v8 = .int .i64 lK ∧ ah (fJ.l0 kq l0 (l0.length : Int) lK FU = some r) ∧ ah (kq ≤ k) ∧ ah (w'.heap[Iy]? = some (.cells #[.string FU] 9 (0, 0))) ∧ ah (Below w.heap.size w w'))
 case atStart => exact ⟨_, rs, H', ⟨Nat.le_refl _⟩, ⟨ub wC.out⟩, ⟨bb⟩⟩
 case round =>
  clear H'
  obtain ⟨lK, rfl, HA, yB, wC, HB⟩ := hrel
  cases gk with
  | zero => exact zz HA.out
  | succ k1 =>
   obtain ⟨H⟩ := HA
   simp only [fJ.l0] at H
   replace H := sd H
   rcases H with ⟨iP, H⟩ | ⟨iP, H⟩
   ·
    replace H := oN H; obtain ⟨rC, H⟩ := H; replace H := oN H; obtain ⟨nR, H⟩ := H; replace H := bd H; obtain ⟨avX, A6, H⟩ := H; replace H := sb H
    rcases H with ⟨rfl, H⟩ | ⟨rfl, H⟩
    ·
     obtain rfl := s1 H
     have ZV := zi lK
     have ZW := zj lK l0.length
     obtain ⟨avY, e154, L6, L8⟩ := qC HR0.out lK ZV ZW
     cases e154
     replace L6 := cl HB.out L6
     replace L8 := cl HB.out L8
     replace ZV := eq_true ZV
     replace ZW := eq_true ZW
     go_wp2_with (go_at_call 123; refine mB (oW.calls (ub wC.out) A6.out) ?_; intro w8 hb; replace wC := kb wC hb; replace HB := bz HB hb; clear hb)
     go_ret
     exact ⟨er, bb⟩
    ·
     have H' := ak H; clear H
     have ZV := zi lK
     have ZW := zj lK l0.length
     obtain ⟨avY, e154, L6, L8⟩ := qC HR0.out lK ZV ZW
     cases e154
     replace L6 := cl HB.out L6
     replace L8 := cl HB.out L8
     replace ZV := eq_true ZV
     replace ZW := eq_true ZW
     go_wp2_with (go_at_call 123; refine mB (oW.calls (ub wC.out) A6.out) ?_; intro w9 hb; replace wC := kb wC hb; replace HB := bz HB hb; clear hb)
     go_roundg k1
     case measure => exact kl
     case rel => exact ⟨_, rs, H', ⟨kl⟩, ⟨ub wC.out⟩, ⟨bb⟩⟩
   ·
    obtain rfl := s1 H
    go_wp2
    go_ret
    exact ⟨er, bb⟩
def lQ.f (k : Nat) (l0 : List (gK)) (a1 : ByteArray) : Option (Int) := (fJ.f k l0 a1).bind fun t157 => (some t157)
theorem lQ.calls {k c0 : Nat} {A0 : Option Addr} {l0 : List (gK)} {a1 : ByteArray} {r : Int} {w : World} (hr0 : Kd.C pU w A0 l0.length l0) (hc0 : l0.length ≤ c0) (h : lQ.f k l0 a1 = some r) :
  Calls Tryz.prog 88 #[.slice A0 l0.length c0, .string a1] w fun e w' => e = .returned (.int .i64 r) ∧ Below w.heap.size w w' := by
 have HR0 := ak hr0
 have zq := ak hc0
 clear hr0 hc0
 have HB := ak (Below.refl w.heap.size w)
 unfold lQ.f at h; have H := h
 clear h
 replace H := bd H; obtain ⟨t157, A3, H⟩ := H
 obtain rfl := s1 H
 go_enter Tryz.func88, Tryz.ntmps88
 go_wp2_with (first | (refine bX HB 3 #[.string a1] 9 ?_; intro aDY w4 agy aDZ hb; replace HB := bs HB hb; clear hb) | (refine gB Tryz.func122 (fJ.calls (cu (Kd.aW HR0.out HB.out)) zq.out (ub agy.out) A3.out) ?_; intro w5 hb; replace agy := kb agy hb; replace HB := bz HB hb; clear hb))
 go_ret
 exact ⟨er, bb⟩
def nS.f (k : Nat) (l0 : List (gK)) (a1 : ByteArray) : Option (ByteArray × Bool) := (lQ.f k l0 a1).bind fun Yd => (if Yd < 0 then (some ((⟨#[]⟩ : ByteArray), false)) else (if 0 ≤ Yd then (if Yd < (l0.length : Int) then (some ((dY l0 Yd).f1, true)) else (none)) else (none)))
theorem nS.calls {k c0 : Nat} {A0 : Option Addr} {l0 : List (gK)} {a1 r1 : ByteArray} {r2 : Bool} {w : World} (hr0 : Kd.C pU w A0 l0.length l0) (hc0 : l0.length ≤ c0) (h : nS.f k l0 a1 = some (r1, r2)) :
  Calls Tryz.prog 47 #[.slice A0 l0.length c0, .string a1] w fun e w' => e = .returned (.tuple #[.string r1, .bool r2]) ∧ Below w.heap.size w w' := by
 have HR0 := ak hr0
 have zq := ak hc0
 clear hr0 hc0
 have HB := ak (Below.refl w.heap.size w)
 unfold nS.f at h; have H := h
 clear h
 replace H := bd H; obtain ⟨Yd, A3, H⟩ := H; replace H := sd H
 rcases H with ⟨rC, H⟩ | ⟨rC, H⟩
 ·
  obtain ⟨rfl, rfl⟩ := s2 H
  go_enter Tryz.func47, Tryz.ntmps47
  go_wp2_with (refine gB Tryz.func88 (lQ.calls (cu HR0.out) zq.out A3.out) ?_; intro w5 hb; replace HB := bs HB hb; clear hb)
  go_ret2
  exact ⟨er, ul HB.out⟩
 ·
  replace H := oN H; obtain ⟨oJ, H⟩ := H; replace H := oN H; obtain ⟨sH, H⟩ := H
  obtain ⟨rfl, rfl⟩ := s2 H
  go_enter Tryz.func47, Tryz.ntmps47
  go_wp2_with (refine gB Tryz.func88 (lQ.calls (cu HR0.out) zq.out A3.out) ?_; intro w8 hb; replace HB := bs HB hb; clear hb; have aoY : 0 ≤ (Yd : Int) := of_decide_eq_true (by assumption); have aoZ : Yd < (l0.length : Int) := of_decide_eq_true (by assumption); obtain ⟨aD0, aBj, Wx, Wy⟩ := qC HR0.out Yd aoY aoZ; cases aBj; replace Wx := (HB.out.cell (World.block_lt_of_cell? w _ Wx)).trans Wx; replace Wy := (HB.out.cell (World.block_lt_of_cell? w _ Wy)).trans Wy; replace aoY := eq_true aoY; replace aoZ := eq_true aoZ)
  go_ret2
  exact ⟨er, ul HB.out⟩
def jG.l0 : Nat → ByteArray → List Int → Int → Option (ByteArray × Int × Bool)
 | 0, _, _, _ => none
 | k + 1, x0, x5, x6 => if x6 < (x0.size : Int) then (if 0 ≤ x6 then (if (bt x0 x6) = 34 then (some (strOfNums x5, wrap64 (x6 + 1), true)) else (if (bt x0 x6) = 92 then (if (wrap64 (x6 + 1)) = (x0.size : Int) then (some ((⟨#[]⟩ : ByteArray), 0, false)) else (if 0 ≤ (wrap64 (x6 + 1)) then (if (wrap64 (x6 + 1)) < (x0.size : Int) then (if x5.length < 140737488355328 then (jG.l0 k x0 (x5 ++ [bt x0 (wrap64 (x6 + 1))]) (wrap64 ((wrap64 (x6 + 1)) + 1))) else (none)) else (none)) else (none))) else (if x5.length < 140737488355328 then (jG.l0 k x0 (x5 ++ [bt x0 x6]) (wrap64 (x6 + 1))) else (none)))) else (none)) else (some ((⟨#[]⟩ : ByteArray), 0, false))
def jG.f (k : Nat) (a0 : ByteArray) : Option (ByteArray × Int × Bool) := jG.l0 k a0 (([] : List Int)) 1
theorem jG.calls {k : Nat} {a0 r1 : ByteArray} {r2 : Int} {r3 : Bool} {w : World} (h : jG.f k a0 = some (r1, r2, r3)) :
  Calls Tryz.prog 134 #[.string a0] w fun e w' => e = .returned (.tuple #[.string r1, .int .i64 r2, .bool r3]) ∧ Below w.heap.size w w' := by
 have HB := ak (Below.refl w.heap.size w)
 unfold jG.f at h; have H := h
 clear h
 obtain ⟨y160, amf⟩ := nm ([] : List Int)
 rw [← amf.out] at H
 have H' := ak H; clear H
 go_enter Tryz.func134, Tryz.ntmps134
 go_wp2_with (refine F8 7 (Kd.int .u8) 5 amf ?_; intro aJd w2 ho3 hb; have avZ := ak (Kd.aG ho3 (aj (ul HB.out))); replace HB := bs HB hb; clear hb ho3)
 go_loopg [5, 6] k (fun kq v5 v6 w' => ∃ (fF : List Int) (jW : Int), v6 = .int .i64 jW ∧ ah (jG.l0 kq a0 fF jW = some (r1, r2, r3)) ∧ ah (kq ≤ k) ∧ ah (Kd.R (Kd.int .u8) 5 w' w.heap.size (fun _ => True) v5 fF) ∧ ah (Below w.heap.size w w'))
 case atStart => exact ⟨_, _, rs, H', ⟨Nat.le_refl _⟩, ⟨ur avZ.out⟩, ⟨ul HB.out⟩⟩
 case round =>
  clear H'
  obtain ⟨fF, jW, rfl, HA, yB, rE, HB⟩ := hrel
  cases gk with
  | zero => exact zz HA.out
  | succ k1 =>
   obtain ⟨H⟩ := HA
   simp only [jG.l0] at H
   replace H := sd H
   rcases H with ⟨rC, H⟩ | ⟨rC, H⟩
   ·
    replace H := oN H; obtain ⟨nR, H⟩ := H; replace H := sq H
    rcases H with ⟨sH, Nw, H⟩ | ⟨c7, sH, Nw, H⟩
    ·
     obtain ⟨rfl, rfl, rfl⟩ := s3 H
     obtain ⟨p6, q6, hx6⟩ := bx a0 jW
     have aJe := r_ (P := Tryz.prog) Tryz.underlying22 Tryz.underlying5 Tryz.underlying9 (Kd.wI rE.out)
     go_wp2
     go_ret3
     exact ⟨er, ul HB.out⟩
    ·
     replace H := sq H
     rcases H with ⟨pF, uI, H⟩ | ⟨c10, pF, uI, H⟩
     ·
      replace H := sq H
      rcases H with ⟨vV, Fh, H⟩ | ⟨c11, vV, Fh, H⟩
      ·
       obtain ⟨rfl, rfl, rfl⟩ := s3 H
       obtain ⟨p6, q6, hx6⟩ := bx a0 jW
       obtain ⟨p9, q9, YP⟩ := bx a0 jW
       go_wp2
       go_ret3
       exact ⟨er, ul HB.out⟩
      ·
       obtain ⟨PI, Fq⟩ : ∃ j_ : Int, (wrap64 (jW + 1)) = j_ := ⟨_, rfl⟩
       replace H : (if 0 ≤ (PI) then (if (PI) < (a0.size : Int) then (if fF.length < 140737488355328 then (jG.l0 k1 a0 (fF ++ [bt a0 (PI)]) (wrap64 ((PI) + 1))) else (none)) else (none)) else (none)) = some (r1, r2, r3) := by first | (rw [Fq] at H; exact H) | (simp only [Fq] at H ⊢; exact H)
       (try rw [Fq] at vV)
       (try rw [Fq] at Fh)
       have aor : (IntKind.i64.wrap (jW + 1)) = PI := (eu _).trans Fq
       replace H := oN H; obtain ⟨xk, H⟩ := H; replace H := oN H; obtain ⟨rQ, H⟩ := H; replace H := nl H; obtain ⟨afb, H⟩ := H
       obtain ⟨aJf, amg⟩ := nm (fF ++ [bt a0 (PI)])
       rw [← amg.out] at H
       have H' := ak H; clear H
       obtain ⟨p6, q6, hx6⟩ := bx a0 jW
       obtain ⟨p9, q9, YP⟩ := bx a0 jW
       obtain ⟨p15, q15, aJg⟩ := bx a0 (PI)
       go_wp2_with (at_builtin; refine aP 34 38 (Kd.int .u8) 22 5 (.int .u8 0) 1 Tryz.underlying22 info5 HB (ur rE.out) amg (by have := afb.out; omega) ?_; intro v164 w17 ho hb hg hat; have av1 := ak (ho); replace HB := ak (hb); clear ho hb hg hat rE)
       go_roundg k1
       case measure => exact kl
       case rel => exact ⟨_, _, (by first | rfl | (simp; done) | (simp only [← Fq] <;> (first | rfl | simp)) | (simp [*]; done)), H', ⟨kl⟩, ⟨ur av1.out⟩, ⟨ul HB.out⟩⟩
     ·
      replace H := nl H; obtain ⟨aeG, H⟩ := H
      obtain ⟨aJh, amh⟩ := nm (fF ++ [bt a0 jW])
      rw [← amh.out] at H
      have H' := ak H; clear H
      obtain ⟨p6, q6, hx6⟩ := bx a0 jW
      obtain ⟨p9, q9, YP⟩ := bx a0 jW
      obtain ⟨p18, q18, av2⟩ := bx a0 jW
      go_wp2_with (at_builtin; refine aP 34 38 (Kd.int .u8) 22 5 (.int .u8 0) 1 Tryz.underlying22 info5 HB (ur rE.out) amh (by have := aeG.out; omega) ?_; intro v167 w20 ho hb hg hat; have av3 := ak (ho); replace HB := ak (hb); clear ho hb hg hat rE)
      go_roundg k1
      case measure => exact kl
      case rel => exact ⟨_, _, rs, H', ⟨kl⟩, ⟨ur av3.out⟩, ⟨ul HB.out⟩⟩
   ·
    obtain ⟨rfl, rfl, rfl⟩ := s3 H
    go_wp2
    go_ret3
    exact ⟨er, ul HB.out⟩
def kK.l0 : Nat → ByteArray → Int → Int → Option (Int)
 | 0, _, _, _ => none
 | k + 1, x0, x1, x5 => if x5 < (x0.size : Int) then (if 0 ≤ x5 then (if (bt x0 x5) = 34 then (if x5 ≤ (x0.size : Int) then ((jG.f k (x0.extract (x5 : Int).toNat x0.size)).bind fun ami => (if ami.2.2 = true then (kK.l0 k x0 x1 (wrap64 ((wrap64 (x5 + (wrap64 (ami.2.1 - 1)))) + 1))) else (some (-1)))) else (none)) else (if (bt x0 x5) = x1 then (some x5) else (kK.l0 k x0 x1 (wrap64 (x5 + 1))))) else (none)) else (some (-1))
def kK.f (k : Nat) (a0 : ByteArray) (a1 : Int) : Option (Int) := kK.l0 k a0 a1 0
theorem kK.calls {k : Nat} {a0 : ByteArray} {a1 r : Int} {w : World} (h : kK.f k a0 a1 = some r) :
  Calls Tryz.prog 125 #[.string a0, .int .u8 a1] w fun e w' => e = .returned (.int .i64 r) ∧ Below w.heap.size w w' := by
 have HB := ak (Below.refl w.heap.size w)
 unfold kK.f at h; have H := h
 clear h
 have H' := ak H; clear H
 go_enter Tryz.func125, Tryz.ntmps125
 go_wp2
 go_loopg [5] k (fun kq v5 w' => ∃ (fF : Int), v5 = .int .i64 fF ∧ ah (kK.l0 kq a0 a1 fF = some r) ∧ ah (kq ≤ k) ∧ ah (Below w.heap.size w w'))
 case atStart => exact ⟨_, rs, H', ⟨Nat.le_refl _⟩, ⟨ul HB.out⟩⟩
 case round =>
  clear H'
  obtain ⟨fF, rfl, HA, yB, HB⟩ := hrel
  cases gk with
  | zero => exact zz HA.out
  | succ k1 =>
   obtain ⟨H⟩ := HA
   simp only [kK.l0] at H
   replace H := sd H
   rcases H with ⟨iP, H⟩ | ⟨iP, H⟩
   ·
    replace H := oN H; obtain ⟨rC, H⟩ := H; replace H := sq H
    rcases H with ⟨oJ, yT, H⟩ | ⟨c6, oJ, yT, H⟩
    ·
     have sH := eq_true (of_decide_eq_true (by assumption) : 0 ≤ fF)
     replace H := Ba H; obtain ⟨uj, DU, H⟩ := H; replace H := bd H
     obtain ⟨⟨aJi, aJj, t171⟩, A9, H⟩ := H
     (try dsimp only at H)
     replace H := sb H
     rcases H with ⟨rfl, H⟩ | ⟨rfl, H⟩
     ·
      have H' := ak H; clear H
      obtain ⟨p5, q5, hx5⟩ := bx a0 fF
      go_wp2_with (refine gB Tryz.func134 (jG.calls A9.out) ?_; intro U2 hb; replace HB := bs HB hb; clear hb)
      go_roundg k1
      case measure => exact kl
      case rel => exact ⟨_, rs, H', ⟨kl⟩, ⟨ul HB.out⟩⟩
     ·
      obtain rfl := s1 H
      obtain ⟨p5, q5, hx5⟩ := bx a0 fF
      go_wp2_with (refine gB Tryz.func134 (jG.calls A9.out) ?_; intro w12 hb; replace HB := bs HB hb; clear hb)
      go_ret
      exact ⟨er, ul HB.out⟩
    ·
     replace H := sq H
     rcases H with ⟨xk, AV, H⟩ | ⟨c13, xk, AV, H⟩
     ·
      obtain rfl := s1 H
      obtain ⟨p5, q5, hx5⟩ := bx a0 fF
      go_wp2
      go_ret
      exact ⟨er, ul HB.out⟩
     ·
      have H' := ak H; clear H
      obtain ⟨p5, q5, hx5⟩ := bx a0 fF
      go_wp2
      go_roundg k1
      case measure => exact kl
      case rel => exact ⟨_, rs, H', ⟨kl⟩, ⟨ul HB.out⟩⟩
   ·
    obtain rfl := s1 H
    go_wp2
    go_ret
    exact ⟨er, ul HB.out⟩
def dV.l0 : Nat → ByteArray → Int → List ByteArray → Option (List ByteArray)
 | 0, _, _, _ => none
 | k + 1, x0, x1, x5 => (kK.f k x0 x1).bind fun t175 => (if t175 < 0 then (if x5.length < 8796093022208 then (some (x5 ++ [x0])) else (none)) else (if 0 ≤ t175 then (if t175 ≤ (x0.size : Int) then (if x5.length < 8796093022208 then (if 0 ≤ (wrap64 (t175 + 1)) then (if (wrap64 (t175 + 1)) ≤ (x0.size : Int) then (dV.l0 k (x0.extract ((wrap64 (t175 + 1)) : Int).toNat x0.size) x1 (x5 ++ [x0.extract 0 (t175 : Int).toNat])) else (none)) else (none)) else (none)) else (none)) else (none)))
def dV.f (k : Nat) (a0 : ByteArray) (a1 : Int) : Option (List ByteArray) := dV.l0 k a0 a1 (([] : List ByteArray))
theorem dV.calls {k : Nat} {a0 : ByteArray} {a1 : Int} {r : List ByteArray} {w : World} (h : dV.f k a0 a1 = some r) :
  Calls Tryz.prog 90 #[.string a0, .int .u8 a1] w fun e w' => ∃ rY : Value, e = .returned (rY) ∧ Kd.R Kd.string 9 w' w.heap.size (fun _ => True) rY r ∧ Below w.heap.size w w' := by
 have HB := ak (Below.refl w.heap.size w)
 unfold dV.f at h; have H := h
 clear h
 obtain ⟨aJk, amj⟩ := nm ([] : List ByteArray)
 rw [← amj.out] at H
 have H' := ak H; clear H
 go_enter Tryz.func90, Tryz.ntmps90
 go_wp2_with (refine F8 7 Kd.string 9 amj ?_; intro v173 w3 TU hb; have av4 := ak (Kd.aG TU (aj (ul HB.out))); replace HB := bs HB hb; clear hb TU)
 go_loopg [0, 5] k (fun kq v0 v5 w' => ∃ (sJ : ByteArray) (fF : List ByteArray), v0 = .string sJ ∧ ah (dV.l0 kq sJ a1 fF = some r) ∧ ah (kq ≤ k) ∧ ah (Kd.R Kd.string 9 w' w.heap.size (fun _ => True) v5 fF) ∧ ah (Below w.heap.size w w'))
 case atStart => exact ⟨_, _, rs, H', ⟨Nat.le_refl _⟩, ⟨ur av4.out⟩, ⟨ul HB.out⟩⟩
 case round =>
  clear H'
  obtain ⟨sJ, fF, rfl, HA, yB, rE, HB⟩ := hrel
  cases gk with
  | zero => exact zz HA.out
  | succ k1 =>
   obtain ⟨H⟩ := HA
   simp only [dV.l0] at H
   replace H := bd H; obtain ⟨t175, A5, H⟩ := H; replace H := sd H
   rcases H with ⟨oJ, H⟩ | ⟨oJ, H⟩
   ·
    replace H := nl H; obtain ⟨aoJ, H⟩ := H
    obtain ⟨aJl, amk⟩ := nm (fF ++ [sJ])
    rw [← amk.out] at H
    obtain rfl := s1 H
    go_wp2_with (first | (refine gB Tryz.func125 (kK.calls A5.out) ?_; intro w8 hb; replace rE := rb rE hb; replace HB := bs HB hb; clear hb) | (at_builtin; refine aP 13 15 Kd.string 23 9 (.string ⟨#[]⟩) 16 Tryz.underlying23 info9 HB (ur rE.out) amk (by have := aoJ.out; omega) ?_; intro aJm w9 ho hb hg hat; have av5 := ak (ho); replace HB := ak (hb); clear ho hb hg hat rE))
    go_ret
    exact ⟨_, er, ur av5.out, ul HB.out⟩
   ·
    replace H := Ba H; obtain ⟨pF, uI, H⟩ := H; replace H := Ba H; obtain ⟨vV, Fh, H⟩ := H; replace H := nl H; obtain ⟨XM, H⟩ := H
    obtain ⟨aBk, aml⟩ := nm (fF ++ [sJ.extract 0 (t175 : Int).toNat])
    rw [← aml.out] at H
    obtain ⟨Vm, IB⟩ : ∃ j_ : Int, (wrap64 (t175 + 1)) = j_ := ⟨_, rfl⟩
    replace H : (if 0 ≤ (Vm) then (if (Vm) ≤ (sJ.size : Int) then (dV.l0 k1 (sJ.extract ((Vm) : Int).toNat sJ.size) a1 aBk) else (none)) else (none)) = some r := by first | (rw [IB] at H; exact H) | (simp only [IB] at H ⊢; exact H)
    (try rw [IB] at A5)
    have anc : (IntKind.i64.wrap (t175 + 1)) = Vm := (eu _).trans IB
    replace H := Ba H; obtain ⟨rQ, xO, H⟩ := H; replace H := Ba H; obtain ⟨xq, Gi, H⟩ := H
    have H' := ak H; clear H
    try go_wp2_with (refine gB Tryz.func125 (kK.calls A5.out) ?_; intro w16 hb; replace rE := rb rE hb; replace HB := bs HB hb; clear hb)
    replace rE := ak (Kd.jX rE.out)
    replace HB := ak (iy HB.out)
    refine ro [4, 5] [0, 1, 2, 3, 6, 7, 8, 9, 4, 5, 10, 11] (fun w' => True) trivial ?_
    generalize w16.drew = w17 at rE HB ⊢
    repeat refine yS ?_
    refine ld (N := some 21) (gk.trans rfl) rfl rfl (fun K hK => ?_)
    refine DN (w1 := ?_) (v := ?_) (by rfl) rfl ?_ ?_
    rotate_left 2
    ·
     go_simp
     constructor
     ·
      rfl
     ·
      rfl
    refine hK.out _ _ trivial ?_
    clear hK K
    refine no (a' := ?_) ?_ ?_
    rotate_left
    ·
     show Act.put _ (some 21) _ = _
     simp only [Act.put, sK, sN, l_c, eu, f_]
     rfl
    refine ld (N := some 22) (gk.trans rfl) rfl rfl (fun K hK => ?_)
    refine Kd.oO Kd.string (w0 := w) w.heap.size (by rfl) (.tmp 17) (.tmp 21) 23 9 (.string ⟨#[]⟩) 16 rfl Tryz.underlying23 info9 rfl (by decide) (by omega) u5 fF (sJ.extract 0 (t175 : Int).toNat) [.string (sJ.extract 0 (t175 : Int).toNat)] (fun _ => True) (fun _ => False) rfl rfl ?aP (fun _ hk => hk.elim) ?aF ?aO ?aB ?aS ?aL ?_
    (case aP => exact rfl)
    (case aB => exact (ul HB.out))
    (case aF => exact (fun _ _ => trivial))
    (case aO => exact (ur rE.out))
    (case aS => exact (aj (ul HB.out)))
    (case aL => have := XM.out; omega)
    intro aJn w18 ho hb hg hat
    rw [← aml.out] at ho
    have xK := ak (hb)
    have xM := ak (ho)
    clear HB rE
    have HB := xK
    have av6 := xM
    clear xK xM ho hb hg hat
    refine hK.out _ _ trivial ?_
    clear hK K
    refine no (a' := ?_) ?_ ?_
    rotate_left
    ·
     show Act.put _ (some 22) _ = _
     simp only [Act.put, sK, sN, l_c, eu, f_]
     rfl
    repeat refine yS ?_
    refine on ?_
    try go_wp2
    go_roundg k1
    case measure => exact kl
    case rel => exact ⟨_, _, (by first | rfl | (simp; done) | (simp only [← IB] <;> (first | rfl | simp)) | (simp [*]; done)), H', ⟨kl⟩, ⟨ur av6.out⟩, ⟨ul HB.out⟩⟩
def strings_Cut.f (a0 : ByteArray) (a1 : ByteArray) : Option (ByteArray × ByteArray × Bool) := if a0.size < 4294967281 then some (⟨(Lib.cut a0.data.toList a1.data.toList).1.toArray⟩, ⟨(Lib.cut a0.data.toList a1.data.toList).2.1.toArray⟩, (Lib.cut a0.data.toList a1.data.toList).2.2) else none
theorem strings_Cut.calls {a0 a1 r1 r2 : ByteArray} {r3 : Bool} {w : World} (CX : MaxOk w) (h : strings_Cut.f a0 a1 = some (r1, r2, r3)) :
  Calls Tryz.prog 91 #[.string a0, .string a1] w fun e w' => e = .returned (.tuple #[.string r1, .string r2, .bool r3]) ∧ dW w w' := by
 unfold strings_Cut.f at h
 split at h
 ·
  rename_i hs
  injection h with h
  injection h with h1 h
  injection h with h2 h3
  subst h1; subst h2; subst h3
  obtain ⟨m, hm⟩ := CX
  exact (Tryz.strings_Cut a0 a1 m w hs hm).mono fun e w' ⟨he, n, hn⟩ => ⟨he, ⟨⟨n, hn⟩⟩⟩
 ·
  cases h
def lS.f (a0 : Int) : Option (Bool) := (bP.f a0).bind fun t182 => (if t182 = true then (some true) else ((dO.f a0).bind fun t183 => (if t183 = true then (some true) else (if a0 = 33 then (some true) else (if a0 ≥ 35 then (if a0 ≤ 39 then (some true) else (if a0 = 42 then (some true) else (if a0 = 43 then (some true) else (if a0 = 45 then (some true) else (if a0 = 47 then (some true) else (if a0 = 61 then (some true) else (if a0 = 63 then (some true) else (if a0 ≥ 94 then (if a0 ≤ 96 then (some true) else (if a0 ≥ 123 then (some (decide (a0 ≤ 126))) else (some false))) else (if a0 ≥ 123 then (some (decide (a0 ≤ 126))) else (some false)))))))))) else (if a0 = 42 then (some true) else (if a0 = 43 then (some true) else (if a0 = 45 then (some true) else (if a0 = 47 then (some true) else (if a0 = 61 then (some true) else (if a0 = 63 then (some true) else (if a0 ≥ 94 then (if a0 ≤ 96 then (some true) else (if a0 ≥ 123 then (some (decide (a0 ≤ 126))) else (some false))) else (if a0 ≥ 123 then (some (decide (a0 ≤ 126))) else (some false))))))))))))))
theorem lS.calls {a0 : Int} {r : Bool} {w : World} (h : lS.f a0 = some r) :
  Calls Tryz.prog 135 #[.int .u8 a0] w fun e w' => e = .returned (.bool r) ∧ dW w w' := by
 unfold lS.f at h; have H := h
 clear h
 replace H := bd H; obtain ⟨t182, A2, H⟩ := H; replace H := sb H
 rcases H with ⟨rfl, H⟩ | ⟨rfl, H⟩
 ·
  obtain rfl := s1 H
  go_enter Tryz.func135, Tryz.ntmps135
  go_wp2_with (refine gA Tryz.func140 (bP.calls A2.out) ?_; intro nd)
  go_ret
  exact ⟨rs, dn⟩
 ·
  replace H := bd H; obtain ⟨t183, A4, H⟩ := H; replace H := sb H
  rcases H with ⟨rfl, H⟩ | ⟨rfl, H⟩
  ·
   obtain rfl := s1 H
   go_enter Tryz.func135, Tryz.ntmps135
   go_wp2_with (first | (refine gA Tryz.func140 (bP.calls A2.out) ?_; intro nd) | (go_at_call 141; refine mA (dO.calls A4.out) ?_; intro nd))
   go_ret
   exact ⟨rs, dn⟩
  ·
   replace H := sq H
   rcases H with ⟨oJ, yT, H⟩ | ⟨c6, oJ, yT, H⟩
   ·
    obtain rfl := s1 H
    go_enter Tryz.func135, Tryz.ntmps135
    go_wp2_with (first | (refine gA Tryz.func140 (bP.calls A2.out) ?_; intro nd) | (go_at_call 141; refine mA (dO.calls A4.out) ?_; intro nd))
    go_ret
    exact ⟨rs, dn⟩
   ·
    replace H := sp H
    rcases H with ⟨c7, H⟩ | ⟨c7, H⟩
    ·
     have sH : decide (35 ≤ a0) = true := decide_eq_true c7
     clear c7
     replace H := sd H
     rcases H with ⟨uj, H⟩ | ⟨uj, H⟩
     ·
      obtain rfl := s1 H
      go_enter Tryz.func135, Tryz.ntmps135
      go_wp2_with (first | (refine gA Tryz.func140 (bP.calls A2.out) ?_; intro nd) | (go_at_call 141; refine mA (dO.calls A4.out) ?_; intro nd))
      go_ret
      exact ⟨rs, dn⟩
     ·
      replace H := sq H
      rcases H with ⟨zu, Gn, H⟩ | ⟨c9, zu, Gn, H⟩
      ·
       obtain rfl := s1 H
       go_enter Tryz.func135, Tryz.ntmps135
       go_wp2_with (first | (refine gA Tryz.func140 (bP.calls A2.out) ?_; intro nd) | (go_at_call 141; refine mA (dO.calls A4.out) ?_; intro nd))
       go_ret
       exact ⟨rs, dn⟩
      ·
       replace H := sq H
       rcases H with ⟨pF, uI, H⟩ | ⟨c10, pF, uI, H⟩
       ·
        obtain rfl := s1 H
        go_enter Tryz.func135, Tryz.ntmps135
        go_wp2_with (first | (refine gA Tryz.func140 (bP.calls A2.out) ?_; intro nd) | (go_at_call 141; refine mA (dO.calls A4.out) ?_; intro nd))
        go_ret
        exact ⟨rs, dn⟩
       ·
        replace H := sq H
        rcases H with ⟨vV, Fh, H⟩ | ⟨c11, vV, Fh, H⟩
        ·
         obtain rfl := s1 H
         go_enter Tryz.func135, Tryz.ntmps135
         go_wp2_with (first | (refine gA Tryz.func140 (bP.calls A2.out) ?_; intro nd) | (go_at_call 141; refine mA (dO.calls A4.out) ?_; intro nd))
         go_ret
         exact ⟨rs, dn⟩
        ·
         replace H := sq H
         rcases H with ⟨yV, DV, H⟩ | ⟨c12, yV, DV, H⟩
         ·
          obtain rfl := s1 H
          go_enter Tryz.func135, Tryz.ntmps135
          go_wp2_with (first | (refine gA Tryz.func140 (bP.calls A2.out) ?_; intro nd) | (go_at_call 141; refine mA (dO.calls A4.out) ?_; intro nd))
          go_ret
          exact ⟨rs, dn⟩
         ·
          replace H := sq H
          rcases H with ⟨xk, AV, H⟩ | ⟨c13, xk, AV, H⟩
          ·
           obtain rfl := s1 H
           go_enter Tryz.func135, Tryz.ntmps135
           go_wp2_with (first | (refine gA Tryz.func140 (bP.calls A2.out) ?_; intro nd) | (go_at_call 141; refine mA (dO.calls A4.out) ?_; intro nd))
           go_ret
           exact ⟨rs, dn⟩
          ·
           replace H := sq H
           rcases H with ⟨rQ, xO, H⟩ | ⟨c14, rQ, xO, H⟩
           ·
            obtain rfl := s1 H
            go_enter Tryz.func135, Tryz.ntmps135
            go_wp2_with (first | (refine gA Tryz.func140 (bP.calls A2.out) ?_; intro nd) | (go_at_call 141; refine mA (dO.calls A4.out) ?_; intro nd))
            go_ret
            exact ⟨rs, dn⟩
           ·
            replace H := sp H
            rcases H with ⟨c15, H⟩ | ⟨c15, H⟩
            ·
             have xq : decide (94 ≤ a0) = true := decide_eq_true c15
             clear c15
             replace H := sd H
             rcases H with ⟨AP, H⟩ | ⟨AP, H⟩
             ·
              obtain rfl := s1 H
              go_enter Tryz.func135, Tryz.ntmps135
              go_wp2_with (first | (refine gA Tryz.func140 (bP.calls A2.out) ?_; intro nd) | (go_at_call 141; refine mA (dO.calls A4.out) ?_; intro nd))
              go_ret
              exact ⟨rs, dn⟩
             ·
              replace H := sp H
              rcases H with ⟨c17, H⟩ | ⟨c17, H⟩
              ·
               have uQ : decide (123 ≤ a0) = true := decide_eq_true c17
               clear c17
               obtain rfl := s1 H
               go_enter Tryz.func135, Tryz.ntmps135
               go_wp2_with (first | (refine gA Tryz.func140 (bP.calls A2.out) ?_; intro nd) | (go_at_call 141; refine mA (dO.calls A4.out) ?_; intro nd))
               go_ret
               exact ⟨rs, dn⟩
              ·
               have uQ : decide (123 ≤ a0) = false := decide_eq_false c17
               clear c17
               obtain rfl := s1 H
               go_enter Tryz.func135, Tryz.ntmps135
               go_wp2_with (first | (refine gA Tryz.func140 (bP.calls A2.out) ?_; intro nd) | (go_at_call 141; refine mA (dO.calls A4.out) ?_; intro nd))
               go_ret
               exact ⟨rs, dn⟩
            ·
             have xq : decide (94 ≤ a0) = false := decide_eq_false c15
             clear c15
             replace H := sp H
             rcases H with ⟨c18, H⟩ | ⟨c18, H⟩
             ·
              have AQ : decide (123 ≤ a0) = true := decide_eq_true c18
              clear c18
              obtain rfl := s1 H
              go_enter Tryz.func135, Tryz.ntmps135
              go_wp2_with (first | (refine gA Tryz.func140 (bP.calls A2.out) ?_; intro nd) | (go_at_call 141; refine mA (dO.calls A4.out) ?_; intro nd))
              go_ret
              exact ⟨rs, dn⟩
             ·
              have AQ : decide (123 ≤ a0) = false := decide_eq_false c18
              clear c18
              obtain rfl := s1 H
              go_enter Tryz.func135, Tryz.ntmps135
              go_wp2_with (first | (refine gA Tryz.func140 (bP.calls A2.out) ?_; intro nd) | (go_at_call 141; refine mA (dO.calls A4.out) ?_; intro nd))
              go_ret
              exact ⟨rs, dn⟩
    ·
     have sH : decide (35 ≤ a0) = false := decide_eq_false c7
     clear c7
     replace H := sq H
     rcases H with ⟨BD, Fb, H⟩ | ⟨c19, BD, Fb, H⟩
     ·
      obtain rfl := s1 H
      go_enter Tryz.func135, Tryz.ntmps135
      go_wp2_with (first | (refine gA Tryz.func140 (bP.calls A2.out) ?_; intro nd) | (go_at_call 141; refine mA (dO.calls A4.out) ?_; intro nd))
      go_ret
      exact ⟨rs, dn⟩
     ·
      replace H := sq H
      rcases H with ⟨TS, Xx, H⟩ | ⟨c20, TS, Xx, H⟩
      ·
       obtain rfl := s1 H
       go_enter Tryz.func135, Tryz.ntmps135
       go_wp2_with (first | (refine gA Tryz.func140 (bP.calls A2.out) ?_; intro nd) | (go_at_call 141; refine mA (dO.calls A4.out) ?_; intro nd))
       go_ret
       exact ⟨rs, dn⟩
      ·
       replace H := sq H
       rcases H with ⟨Fg, aj2, H⟩ | ⟨c21, Fg, aj2, H⟩
       ·
        obtain rfl := s1 H
        go_enter Tryz.func135, Tryz.ntmps135
        go_wp2_with (first | (refine gA Tryz.func140 (bP.calls A2.out) ?_; intro nd) | (go_at_call 141; refine mA (dO.calls A4.out) ?_; intro nd))
        go_ret
        exact ⟨rs, dn⟩
       ·
        replace H := sq H
        rcases H with ⟨Gm, aaP, H⟩ | ⟨c22, Gm, aaP, H⟩
        ·
         obtain rfl := s1 H
         go_enter Tryz.func135, Tryz.ntmps135
         go_wp2_with (first | (refine gA Tryz.func140 (bP.calls A2.out) ?_; intro nd) | (go_at_call 141; refine mA (dO.calls A4.out) ?_; intro nd))
         go_ret
         exact ⟨rs, dn⟩
        ·
         replace H := sq H
         rcases H with ⟨BI, OY, H⟩ | ⟨c23, BI, OY, H⟩
         ·
          obtain rfl := s1 H
          go_enter Tryz.func135, Tryz.ntmps135
          go_wp2_with (first | (refine gA Tryz.func140 (bP.calls A2.out) ?_; intro nd) | (go_at_call 141; refine mA (dO.calls A4.out) ?_; intro nd))
          go_ret
          exact ⟨rs, dn⟩
         ·
          replace H := sq H
          rcases H with ⟨QK, aeZ, H⟩ | ⟨c24, QK, aeZ, H⟩
          ·
           obtain rfl := s1 H
           go_enter Tryz.func135, Tryz.ntmps135
           go_wp2_with (first | (refine gA Tryz.func140 (bP.calls A2.out) ?_; intro nd) | (go_at_call 141; refine mA (dO.calls A4.out) ?_; intro nd))
           go_ret
           exact ⟨rs, dn⟩
          ·
           replace H := sp H
           rcases H with ⟨c25, H⟩ | ⟨c25, H⟩
           ·
            have QE : decide (94 ≤ a0) = true := decide_eq_true c25
            clear c25
            replace H := sd H
            rcases H with ⟨OO, H⟩ | ⟨OO, H⟩
            ·
             obtain rfl := s1 H
             go_enter Tryz.func135, Tryz.ntmps135
             go_wp2_with (first | (refine gA Tryz.func140 (bP.calls A2.out) ?_; intro nd) | (go_at_call 141; refine mA (dO.calls A4.out) ?_; intro nd))
             go_ret
             exact ⟨rs, dn⟩
            ·
             replace H := sp H
             rcases H with ⟨c27, H⟩ | ⟨c27, H⟩
             ·
              have Gf : decide (123 ≤ a0) = true := decide_eq_true c27
              clear c27
              obtain rfl := s1 H
              go_enter Tryz.func135, Tryz.ntmps135
              go_wp2_with (first | (refine gA Tryz.func140 (bP.calls A2.out) ?_; intro nd) | (go_at_call 141; refine mA (dO.calls A4.out) ?_; intro nd))
              go_ret
              exact ⟨rs, dn⟩
             ·
              have Gf : decide (123 ≤ a0) = false := decide_eq_false c27
              clear c27
              obtain rfl := s1 H
              go_enter Tryz.func135, Tryz.ntmps135
              go_wp2_with (first | (refine gA Tryz.func140 (bP.calls A2.out) ?_; intro nd) | (go_at_call 141; refine mA (dO.calls A4.out) ?_; intro nd))
              go_ret
              exact ⟨rs, dn⟩
           ·
            have QE : decide (94 ≤ a0) = false := decide_eq_false c25
            clear c25
            replace H := sp H
            rcases H with ⟨c28, H⟩ | ⟨c28, H⟩
            ·
             have Gg : decide (123 ≤ a0) = true := decide_eq_true c28
             clear c28
             obtain rfl := s1 H
             go_enter Tryz.func135, Tryz.ntmps135
             go_wp2_with (first | (refine gA Tryz.func140 (bP.calls A2.out) ?_; intro nd) | (go_at_call 141; refine mA (dO.calls A4.out) ?_; intro nd))
             go_ret
             exact ⟨rs, dn⟩
            ·
             have Gg : decide (123 ≤ a0) = false := decide_eq_false c28
             clear c28
             obtain rfl := s1 H
             go_enter Tryz.func135, Tryz.ntmps135
             go_wp2_with (first | (refine gA Tryz.func140 (bP.calls A2.out) ?_; intro nd) | (go_at_call 141; refine mA (dO.calls A4.out) ?_; intro nd))
             go_ret
             exact ⟨rs, dn⟩
mutual
def dS.l0 : Nat → ByteArray → List ByteArray → Int → Bool → Option (List ByteArray × Bool)
 | 0, _, _, _, _ => none
 | k + 1, x0, x4, x5, x6 => if x5 < (x0.size : Int) then (if 0 ≤ x5 then (if (bt x0 x5) = 32 then (dS.l0 k x0 x4 (wrap64 (x5 + 1)) true) else (if x6 = true then (if (bt x0 x5) = 34 then (if x5 ≤ (x0.size : Int) then ((jG.f k (x0.extract (x5 : Int).toNat x0.size)).bind fun agz => (if agz.2.2 = true then (if x4.length < 8796093022208 then (dS.l0 k x0 (x4 ++ [agz.1]) (wrap64 (x5 + agz.2.1)) false) else (none)) else (some (([] : List ByteArray), false)))) else (none)) else (dS.l1 k x0 x4 x5 x5)) else (some (([] : List ByteArray), false)))) else (none)) else (some (x4, true))
def dS.l1 : Nat → ByteArray → List ByteArray → Int → Int → Option (List ByteArray × Bool)
 | 0, _, _, _, _ => none
 | k + 1, x0, x4, x5, x10 => if x10 < (x0.size : Int) then (if 0 ≤ x10 then ((lS.f (bt x0 x10)).bind fun t194 => (if t194 = true then (dS.l1 k x0 x4 x5 (wrap64 (x10 + 1))) else (if x10 = x5 then (some (([] : List ByteArray), false)) else (if 0 ≤ x5 then (if x5 ≤ x10 then (if x10 ≤ (x0.size : Int) then (if x4.length < 8796093022208 then (dS.l0 k x0 (x4 ++ [x0.extract (x5 : Int).toNat (x10 : Int).toNat]) x10 false) else (none)) else (none)) else (none)) else (none))))) else (none)) else (if x10 = x5 then (some (([] : List ByteArray), false)) else (if 0 ≤ x5 then (if x5 ≤ x10 then (if x10 ≤ (x0.size : Int) then (if x4.length < 8796093022208 then (dS.l0 k x0 (x4 ++ [x0.extract (x5 : Int).toNat (x10 : Int).toNat]) x10 false) else (none)) else (none)) else (none)) else (none)))
end
def dS.f (k : Nat) (a0 : ByteArray) : Option (List ByteArray × Bool) := (bI.f k a0).bind fun av7 => (if av7 = true then (dS.l0 k a0 (([] : List ByteArray)) 0 true) else (some (([] : List ByteArray), false)))
theorem dS.calls {k : Nat} {a0 : ByteArray} {r1 : List ByteArray} {r2 : Bool} {w : World} (h : dS.f k a0 = some (r1, r2)) :
  Calls Tryz.prog 94 #[.string a0] w fun e w' => ∃ rY : Value, e = .returned (.tuple #[rY, .bool r2]) ∧ Kd.R Kd.string 9 w' w.heap.size (fun _ => True) rY r1 ∧ Below w.heap.size w w' := by
 have HB := ak (Below.refl w.heap.size w)
 unfold dS.f at h; have H := h
 clear h
 replace H := bd H; obtain ⟨av7, A2, H⟩ := H; replace H := sb H
 rcases H with ⟨rfl, H⟩ | ⟨rfl, H⟩
 ·
  obtain ⟨aJo, amm⟩ := nm ([] : List ByteArray)
  rw [← amm.out] at H
  have H' := ak H; clear H
  go_enter Tryz.func94, Tryz.ntmps94
  go_wp2_with (first | (refine gA Tryz.func89 (bI.calls A2.out) ?_; intro nd) | (refine F8 14 Kd.string 9 amm ?_; intro aJp w4 ho5 hb; have av8 := ak (Kd.aG ho5 (aj (ul HB.out))); replace HB := bs HB hb; clear hb ho5))
  go_loopg [4, 5, 6] k (fun kq v4 v5 v6 w' => ∃ (fG : List ByteArray) (fF : Int) (jW : Bool), v5 = .int .i64 fF ∧ v6 = .bool jW ∧ ah (dS.l0 kq a0 fG fF jW = some (r1, r2)) ∧ ah (kq ≤ k) ∧ ah (Kd.R Kd.string 9 w' w.heap.size (fun _ => True) v4 fG) ∧ ah (Below w.heap.size w w'))
  case atStart => exact ⟨_, _, _, rs, rs, H', ⟨Nat.le_refl _⟩, ⟨ur av8.out⟩, ⟨ul HB.out⟩⟩
  case round =>
   clear H'
   obtain ⟨fG, fF, jW, rfl, rfl, HA, yB, iY, HB⟩ := hrel
   cases gk with
   | zero => exact zz HA.out
   | succ k1 =>
    obtain ⟨H⟩ := HA
    simp only [dS.l0] at H
    replace H := sd H
    rcases H with ⟨oJ, H⟩ | ⟨oJ, H⟩
    ·
     replace H := oN H; obtain ⟨sH, H⟩ := H; replace H := sq H
     rcases H with ⟨zu, Gn, H⟩ | ⟨c9, zu, Gn, H⟩
     ·
      have H' := ak H; clear H
      obtain ⟨p8, q8, hx8⟩ := bx a0 fF
      go_wp2
      go_roundg k1
      case measure => exact kl
      case rel => exact ⟨_, _, _, rs, rs, H', ⟨kl⟩, ⟨ur iY.out⟩, ⟨ul HB.out⟩⟩
     ·
      replace H := sb H
      rcases H with ⟨rfl, H⟩ | ⟨rfl, H⟩
      ·
       replace H := sq H
       rcases H with ⟨yV, DV, H⟩ | ⟨c12, yV, DV, H⟩
       ·
        have xk := eq_true (of_decide_eq_true (by assumption) : 0 ≤ fF)
        replace H := Ba H; obtain ⟨rQ, xO, H⟩ := H; replace H := bd H
        obtain ⟨⟨aBl, aJq, aJr⟩, A15, H⟩ := H
        (try dsimp only at H)
        replace H := sb H
        rcases H with ⟨rfl, H⟩ | ⟨rfl, H⟩
        ·
         replace H := nl H; obtain ⟨ae1, H⟩ := H
         obtain ⟨aJs, amn⟩ := nm (fG ++ [aBl])
         rw [← amn.out] at H
         have H' := ak H; clear H
         obtain ⟨p8, q8, hx8⟩ := bx a0 fF
         obtain ⟨p11, q11, Xr⟩ := bx a0 fF
         go_wp2_with (first | (refine gB Tryz.func134 (jG.calls A15.out) ?_; intro w18 hb; replace iY := rb iY hb; replace HB := bs HB hb; clear hb) | (at_builtin; refine aP 68 70 Kd.string 23 9 (.string ⟨#[]⟩) 16 Tryz.underlying23 info9 HB (ur iY.out) amn (by have := ae1.out; omega) ?_; intro aJt YM ho hb hg hat; have av9 := ak (ho); replace HB := ak (hb); clear ho hb hg hat iY))
         go_roundg k1
         case measure => exact kl
         case rel => exact ⟨_, _, _, rs, rs, H', ⟨kl⟩, ⟨ur av9.out⟩, ⟨ul HB.out⟩⟩
        ·
         obtain ⟨rfl, rfl⟩ := s2 H
         obtain ⟨p8, q8, hx8⟩ := bx a0 fF
         obtain ⟨p11, q11, Xr⟩ := bx a0 fF
         go_wp2_with (refine gB Tryz.func134 (jG.calls A15.out) ?_; intro w20 hb; replace iY := rb iY hb; replace HB := bs HB hb; clear hb)
         go_ret2
         exact ⟨_, er, nx, ul HB.out⟩
       ·
        have H' := ak H; clear H
        obtain ⟨p8, q8, hx8⟩ := bx a0 fF
        obtain ⟨p11, q11, Xr⟩ := bx a0 fF
        go_wp2
        go_loopg [10] k1 (fun kq v10 w' => ∃ (O_ : Int), v10 = .int .i64 O_ ∧ ah (dS.l1 kq a0 fG fF O_ = some (r1, r2)) ∧ ah (kq ≤ k1) ∧ ah (Kd.R Kd.string 9 w' w.heap.size (fun _ => True) u4 fG) ∧ ah (Below w.heap.size w w'))
        case atStart => exact ⟨_, rs, H', ⟨Nat.le_refl _⟩, ⟨ur iY.out⟩, ⟨ul HB.out⟩⟩
        case round =>
         clear H'
         try clear oJ
         try clear sH
         try clear p8
         try clear q8
         try clear hx8
         try clear c9
         try clear zu
         try clear Gn
         try clear p11
         try clear q11
         try clear Xr
         try clear c12
         try clear yV
         try clear DV
         try clear p11
         try clear p8
         try clear q11
         try clear q8
         obtain ⟨O_, rfl, HA, HK2, iY, HB⟩ := hrel
         cases gk with
         | zero => exact zz HA.out
         | succ k2 =>
          obtain ⟨H⟩ := HA
          simp only [dS.l1] at H
          replace H := sd H
          rcases H with ⟨Fg, H⟩ | ⟨Fg, H⟩
          ·
           replace H := oN H; obtain ⟨Gm, H⟩ := H; replace H := bd H; obtain ⟨t194, X3, H⟩ := H; replace H := sb H
           rcases H with ⟨rfl, H⟩ | ⟨rfl, H⟩
           ·
            have H' := ak H; clear H
            obtain ⟨p23, q23, av_⟩ := bx a0 O_
            go_wp2_with (go_at_call 135; refine mA (lS.calls X3.out) ?_; intro nd)
            go_roundg k2
            case measure => exact kl
            case rel => exact ⟨_, rs, H', ⟨kl⟩, ⟨ur iY.out⟩, ⟨ul HB.out⟩⟩
           ·
            replace H := sq H
            rcases H with ⟨OO, aaI, H⟩ | ⟨c26, OO, aaI, H⟩
            ·
             obtain ⟨rfl, rfl⟩ := s2 H
             obtain ⟨p23, q23, av_⟩ := bx a0 O_
             go_wp2_with (go_at_call 135; refine mA (lS.calls X3.out) ?_; intro nd)
             go_ret2
             exact ⟨_, er, nx, ul HB.out⟩
            ·
             replace H := Ba H; obtain ⟨Gf, aaT, H⟩ := H; replace H := Ba H; obtain ⟨Gg, aaU, H⟩ := H; replace H := Ba H; obtain ⟨abP, aD1, H⟩ := H; replace H := nl H; obtain ⟨awc, H⟩ := H
             obtain ⟨aJu, amo⟩ := nm (fG ++ [a0.extract (fF : Int).toNat (O_ : Int).toNat])
             rw [← amo.out] at H
             have H' := ak H; clear H
             obtain ⟨p23, q23, av_⟩ := bx a0 O_
             go_wp2_with (first | (go_at_call 135; refine mA (lS.calls X3.out) ?_; intro nd) | (at_builtin; refine aP 35 40 Kd.string 23 9 (.string ⟨#[]⟩) 16 Tryz.underlying23 info9 HB (ur iY.out) amo (by have := awc.out; omega) ?_; intro v196 w31 ho hb hg hat; have awd := ak (ho); replace HB := ak (hb); clear ho hb hg hat iY))
             go_roundg k2
             case measure => exact kl
             case rel => exact ⟨_, _, _, rs, rs, H', ⟨kl⟩, ⟨ur awd.out⟩, ⟨ul HB.out⟩⟩
          ·
           replace H := sq H
           rcases H with ⟨Xz, aeI, H⟩ | ⟨c32, Xz, aeI, H⟩
           ·
            obtain ⟨rfl, rfl⟩ := s2 H
            go_wp2
            go_ret2
            exact ⟨_, er, nx, ul HB.out⟩
           ·
            replace H := Ba H; obtain ⟨OW, XA, H⟩ := H; replace H := Ba H; obtain ⟨XB, XC, H⟩ := H; replace H := Ba H; obtain ⟨aeJ, akh, H⟩ := H; replace H := nl H; obtain ⟨awe, H⟩ := H
            obtain ⟨aJv, amq⟩ := nm (fG ++ [a0.extract (fF : Int).toNat (O_ : Int).toNat])
            rw [← amq.out] at H
            have H' := ak H; clear H
            go_wp2_with (at_builtin; refine aP 35 40 Kd.string 23 9 (.string ⟨#[]⟩) 16 Tryz.underlying23 info9 HB (ur iY.out) amq (by have := awe.out; omega) ?_; intro aJw w37 ho hb hg hat; have awf := ak (ho); replace HB := ak (hb); clear ho hb hg hat iY)
            go_roundg k2
            case measure => exact kl
            case rel => exact ⟨_, _, _, rs, rs, H', ⟨kl⟩, ⟨ur awf.out⟩, ⟨ul HB.out⟩⟩
      ·
       obtain ⟨rfl, rfl⟩ := s2 H
       obtain ⟨p8, q8, hx8⟩ := bx a0 fF
       go_wp2
       go_ret2
       exact ⟨_, er, nx, ul HB.out⟩
    ·
     obtain ⟨rfl, rfl⟩ := s2 H
     go_wp2
     go_ret2
     exact ⟨_, er, ur iY.out, ul HB.out⟩
 ·
  obtain ⟨rfl, rfl⟩ := s2 H
  go_enter Tryz.func94, Tryz.ntmps94
  go_wp2_with (refine gA Tryz.func89 (bI.calls A2.out) ?_; intro nd)
  go_ret2
  exact ⟨_, er, nx, ul HB.out⟩
def ig.f (k : Nat) (a0 : ByteArray) : Option (Bool) := (jE.f k a0).bind fun t201 => (if t201 = true then ((jg.f a0).bind fun awg => (some (awg.toList == a0.toList))) else (some false))
theorem ig.calls {k : Nat} {a0 : ByteArray} {r : Bool} {w : World} (h : ig.f k a0 = some r) :
  Calls Tryz.prog 136 #[.string a0] w fun e w' => e = .returned (.bool r) ∧ Below w.heap.size w w' := by
 have HB := ak (Below.refl w.heap.size w)
 unfold ig.f at h; have H := h
 clear h
 replace H := bd H; obtain ⟨t201, A2, H⟩ := H; replace H := sb H
 rcases H with ⟨rfl, H⟩ | ⟨rfl, H⟩
 ·
  replace H := bd H; obtain ⟨awg, A4, H⟩ := H
  obtain rfl := s1 H
  go_enter Tryz.func136, Tryz.ntmps136
  go_wp2_with (first | (refine gA Tryz.func160 (jE.calls A2.out) ?_; intro nd) | (go_at_call 93; refine mB (jg.calls A4.out) ?_; intro w5 hb; replace HB := bs HB hb; clear hb))
  go_ret
  exact ⟨er, ul HB.out⟩
 ·
  obtain rfl := s1 H
  go_enter Tryz.func136, Tryz.ntmps136
  go_wp2_with (refine gA Tryz.func160 (jE.calls A2.out) ?_; intro nd)
  go_ret
  exact ⟨er, ul HB.out⟩
def dX.l0 : Nat → ByteArray → Int → Int → Option (Bool)
 | 0, _, _, _ => none
 | k + 1, x0, x7, x8 => if x8 < x7 then (if 0 ≤ x8 then (if x8 < (x0.size : Int) then ((lS.f (bt x0 x8)).bind fun t203 => (if t203 = true then (dX.l0 k x0 x7 (wrap64 (x8 + 1))) else (some false))) else (none)) else (none)) else (some true)
def dX.f (k : Nat) (a0 : ByteArray)  : Option (Bool) := dX.l0 k a0 (a0.size : Int) 0
theorem dX.calls {k : Nat} {a0 : ByteArray} {r : Bool} {w : World} (h : dX.f k a0 = some r) :
  Calls Tryz.prog 138 #[.string a0, .func (.func 135) #[] #[]] w fun e w' => e = .returned (.bool r) ∧ dW w w' := by
 unfold dX.f at h; have H := h
 clear h
 have H' := ak H; clear H
 go_enter Tryz.func138, Tryz.ntmps138
 go_wp2
 go_loopg [8] k (fun kq v8 w' => ∃ (lK : Int), v8 = .int .i64 lK ∧ ah (dX.l0 kq a0 (a0.size : Int) lK = some r) ∧ ah (kq ≤ k) ∧ dW w w')
 case atStart => exact ⟨_, rs, H', ⟨Nat.le_refl _⟩, dn⟩
 case round =>
  clear H'
  obtain ⟨lK, rfl, HA, yB, ⟨m1, rfl⟩⟩ := hrel
  cases gk with
  | zero => exact zz HA.out
  | succ k1 =>
   obtain ⟨H⟩ := HA
   simp only [dX.l0] at H
   replace H := sd H
   rcases H with ⟨iP, H⟩ | ⟨iP, H⟩
   ·
    replace H := oN H; obtain ⟨rC, H⟩ := H; replace H := oN H; obtain ⟨nR, H⟩ := H; replace H := bd H; obtain ⟨t203, A7, H⟩ := H; replace H := sb H
    rcases H with ⟨rfl, H⟩ | ⟨rfl, H⟩
    ·
     have H' := ak H; clear H
     obtain ⟨p6, q6, hx6⟩ := bx a0 lK
     go_wp2_with (go_at_call 135; refine mA (lS.calls A7.out) ?_; intro nd)
     go_roundg k1
     case measure => exact kl
     case rel => exact ⟨_, rs, H', ⟨kl⟩, dn⟩
    ·
     obtain rfl := s1 H
     obtain ⟨p6, q6, hx6⟩ := bx a0 lK
     go_wp2_with (go_at_call 135; refine mA (lS.calls A7.out) ?_; intro nd)
     go_ret
     exact ⟨rs, dn⟩
   ·
    obtain rfl := s1 H
    go_wp2
    go_ret
    exact ⟨rs, dn⟩
def qJ.f (k : Nat) (a0 : ByteArray) : Option (Bool) := if (a0.size : Int) ≥ 1 then (if (a0.size : Int) ≤ 40 then ((dX.f k a0).bind fun awh => (some awh)) else (some false)) else (some false)
theorem qJ.calls {k : Nat} {a0 : ByteArray} {r : Bool} {w : World} (h : qJ.f k a0 = some r) :
  Calls Tryz.prog 193 #[.string a0] w fun e w' => e = .returned (.bool r) ∧ dW w w' := by
 unfold qJ.f at h; have H := h
 clear h
 replace H := sp H
 rcases H with ⟨c2, H⟩ | ⟨c2, H⟩
 ·
  have o_ : decide (1 ≤ (a0.size : Int)) = true := decide_eq_true c2
  have wu : decide (1 ≤ a0.size) = true := decide_eq_true (by omega)
  clear c2
  replace H := sp H
  rcases H with ⟨c3, H⟩ | ⟨c3, H⟩
  ·
   have iP := decide_eq_true c3
   have yU : decide (a0.size ≤ 40) = true := decide_eq_true (by omega)
   clear c3
   replace H := bd H; obtain ⟨awh, A4, H⟩ := H
   obtain rfl := s1 H
   go_enter Tryz.func193, Tryz.ntmps193
   go_wp2_with (go_at_call 138; refine mA (dX.calls A4.out) ?_; intro nd)
   go_ret
   exact ⟨rs, dn⟩
  ·
   have iP := decide_eq_false c3
   have yU : decide (a0.size ≤ 40) = false := decide_eq_false (by omega)
   clear c3
   obtain rfl := s1 H
   go_enter Tryz.func193, Tryz.ntmps193
   go_wp2
   go_ret
   exact ⟨rs, dn⟩
 ·
  have o_ : decide (1 ≤ (a0.size : Int)) = false := decide_eq_false c2
  have wu : decide (1 ≤ a0.size) = false := decide_eq_false (by omega)
  clear c2
  obtain rfl := s1 H
  go_enter Tryz.func193, Tryz.ntmps193
  go_wp2
  go_ret
  exact ⟨rs, dn⟩
def jh.l0 : Nat → ByteArray → List Int → Int → Int → Option (ByteArray)
 | 0, _, _, _, _ => none
 | k + 1, x0, x3, x15, x16 => if x16 < x15 then (if 0 ≤ x16 then (if x16 < (x0.size : Int) then (if (bt x0 x16) = 34 then (if x3.length < 140737488355328 then ((some (x3 ++ [92] : List Int)).bind fun ai9 => (if ai9.length < 140737488355328 then (jh.l0 k x0 (ai9 ++ [bt x0 x16]) x15 (wrap64 (x16 + 1))) else (none))) else (none)) else (if (bt x0 x16) = 92 then (if x3.length < 140737488355328 then ((some (x3 ++ [92] : List Int)).bind fun ai_ => (if ai_.length < 140737488355328 then (jh.l0 k x0 (ai_ ++ [bt x0 x16]) x15 (wrap64 (x16 + 1))) else (none))) else (none)) else (if x3.length < 140737488355328 then (jh.l0 k x0 (x3 ++ [bt x0 x16]) x15 (wrap64 (x16 + 1))) else (none)))) else (none)) else (none)) else (if x3.length < 140737488355328 then (some (strOfNums (x3 ++ [34]))) else (none))
def jh.f (k : Nat) (a0 : ByteArray) : Option (ByteArray) := (bI.f k a0).bind fun awi => (if awi = true then ((qJ.f k a0).bind fun t206 => (if t206 = true then (some a0) else (jh.l0 k a0 (([34] : List Int)) (a0.size : Int) 0))) else (some (⟨#[]⟩ : ByteArray)))
theorem jh.calls {k : Nat} {a0 r : ByteArray} {w : World} (h : jh.f k a0 = some r) :
  Calls Tryz.prog 166 #[.string a0] w fun e w' => e = .returned (.string r) ∧ Below w.heap.size w w' := by
 have HB := ak (Below.refl w.heap.size w)
 unfold jh.f at h; have H := h
 clear h
 replace H := bd H; obtain ⟨awi, A2, H⟩ := H; replace H := sb H
 rcases H with ⟨rfl, H⟩ | ⟨rfl, H⟩
 ·
  replace H := bd H; obtain ⟨t206, A4, H⟩ := H; replace H := sb H
  rcases H with ⟨rfl, H⟩ | ⟨rfl, H⟩
  ·
   obtain rfl := s1 H
   go_enter Tryz.func166, Tryz.ntmps166
   go_wp2_with (first | (refine gA Tryz.func89 (bI.calls A2.out) ?_; intro nd) | (refine gA Tryz.func193 (qJ.calls A4.out) ?_; intro nd))
   go_ret
   exact ⟨er, ul HB.out⟩
  ·
   obtain ⟨aJx, amr⟩ := nm ([34] : List Int)
   rw [← amr.out] at H
   have H' := ak H; clear H
   go_enter Tryz.func166, Tryz.ntmps166
   go_wp2_with (first | (refine gA Tryz.func89 (bI.calls A2.out) ?_; intro nd) | (refine gA Tryz.func193 (qJ.calls A4.out) ?_; intro nd) | (refine SX 13 (Kd.int .u8) 5 [.int .u8 34] amr (dK.one (show Kd.M (Kd.int .u8) _ _ _ 34 [.int .u8 34] from rfl) (dK.none _ _)) ?_; intro v208 w6 ho7 hb; have awj := ak (Kd.aG ho7 (aj (ul HB.out))); replace HB := bs HB hb; clear hb ho7))
   go_loopg [3, 16] k (fun kq v3 v16 w' => ∃ (dZ : List Int) (zB : Int), v16 = .int .i64 zB ∧ ah (jh.l0 kq a0 dZ (a0.size : Int) zB = some r) ∧ ah (kq ≤ k) ∧ ah (Kd.R (Kd.int .u8) 5 w' w.heap.size (fun _ => True) v3 dZ) ∧ ah (Below w.heap.size w w'))
   case atStart => exact ⟨_, _, rs, H', ⟨Nat.le_refl _⟩, ⟨ur awj.out⟩, ⟨ul HB.out⟩⟩
   case round =>
    clear H'
    obtain ⟨dZ, zB, rfl, HA, yB, qm, HB⟩ := hrel
    cases gk with
    | zero => exact zz HA.out
    | succ k1 =>
     obtain ⟨H⟩ := HA
     simp only [jh.l0] at H
     replace H := sd H
     rcases H with ⟨uj, H⟩ | ⟨uj, H⟩
     ·
      replace H := oN H; obtain ⟨zu, H⟩ := H; replace H := oN H; obtain ⟨pF, H⟩ := H; replace H := sq H
      rcases H with ⟨yV, DV, H⟩ | ⟨c12, yV, DV, H⟩
      ·
       replace H := nl H; obtain ⟨awk, H⟩ := H
       replace H := ny H
       obtain ⟨ai9, awl, H⟩ := H
       replace H := nl H; obtain ⟨awm, H⟩ := H
       obtain ⟨aJy, ams⟩ := nm (ai9 ++ [bt a0 zB])
       rw [← ams.out] at H
       have H' := ak H; clear H
       obtain ⟨p11, q11, Xr⟩ := bx a0 zB
       go_wp2_with (first | (at_builtin; refine aP 29 30 (Kd.int .u8) 22 5 (.int .u8 0) 1 Tryz.underlying22 info5 HB (ur qm.out) awl (by have := awk.out; omega) ?_; intro aJz w16 ho hb hg hat; have amu := ak (ho); replace HB := ak (hb); clear ho hb hg hat qm; have p14 : 0 ≤ (zB : Int) := of_decide_eq_true (by assumption); have q14 : zB < (a0.size : Int) := of_decide_eq_true (by assumption); have anh := xg a0 zB; replace p14 := eq_true p14; replace q14 := eq_true q14) | (at_builtin; refine aP 32 36 (Kd.int .u8) 22 5 (.int .u8 0) 1 Tryz.underlying22 info5 HB (ur amu.out) ams (by have := awm.out; omega) ?_; intro aJA w17 ho hb hg hat; have awn := ak (ho); replace HB := ak (hb); clear ho hb hg hat amu))
       go_roundg k1
       case measure => exact kl
       case rel => exact ⟨_, _, rs, H', ⟨kl⟩, ⟨ur awn.out⟩, ⟨ul HB.out⟩⟩
      ·
       replace H := sq H
       rcases H with ⟨BD, Fb, H⟩ | ⟨c19, BD, Fb, H⟩
       ·
        replace H := nl H; obtain ⟨aen, H⟩ := H
        replace H := ny H
        obtain ⟨ai_, awo, H⟩ := H
        replace H := nl H; obtain ⟨awp, H⟩ := H
        obtain ⟨aJB, amv⟩ := nm (ai_ ++ [bt a0 zB])
        rw [← amv.out] at H
        have H' := ak H; clear H
        obtain ⟨p11, q11, Xr⟩ := bx a0 zB
        obtain ⟨p18, q18, av2⟩ := bx a0 zB
        go_wp2_with (first | (at_builtin; refine aP 29 30 (Kd.int .u8) 22 5 (.int .u8 0) 1 Tryz.underlying22 info5 HB (ur qm.out) awo (by have := aen.out; omega) ?_; intro aJC w23 ho hb hg hat; have amw := ak (ho); replace HB := ak (hb); clear ho hb hg hat qm; have p21 : 0 ≤ (zB : Int) := of_decide_eq_true (by assumption); have q21 : zB < (a0.size : Int) := of_decide_eq_true (by assumption); have aJD := xg a0 zB; replace p21 := eq_true p21; replace q21 := eq_true q21) | (at_builtin; refine aP 32 36 (Kd.int .u8) 22 5 (.int .u8 0) 1 Tryz.underlying22 info5 HB (ur amw.out) amv (by have := awp.out; omega) ?_; intro aJE w24 ho hb hg hat; have awq := ak (ho); replace HB := ak (hb); clear ho hb hg hat amw))
        go_roundg k1
        case measure => exact kl
        case rel => exact ⟨_, _, rs, H', ⟨kl⟩, ⟨ur awq.out⟩, ⟨ul HB.out⟩⟩
       ·
        replace H := nl H; obtain ⟨awr, H⟩ := H
        obtain ⟨aJF, amx⟩ := nm (dZ ++ [bt a0 zB])
        rw [← amx.out] at H
        have H' := ak H; clear H
        obtain ⟨p11, q11, Xr⟩ := bx a0 zB
        obtain ⟨p18, q18, av2⟩ := bx a0 zB
        obtain ⟨p25, q25, hx25⟩ := bx a0 zB
        go_wp2_with (at_builtin; refine aP 32 36 (Kd.int .u8) 22 5 (.int .u8 0) 1 Tryz.underlying22 info5 HB (ur qm.out) amx (by have := awr.out; omega) ?_; intro aJG w27 ho hb hg hat; have awt := ak (ho); replace HB := ak (hb); clear ho hb hg hat qm)
        go_roundg k1
        case measure => exact kl
        case rel => exact ⟨_, _, rs, H', ⟨kl⟩, ⟨ur awt.out⟩, ⟨ul HB.out⟩⟩
     ·
      replace H := nl H; obtain ⟨X9, H⟩ := H
      obtain ⟨aJH, amy⟩ := nm (dZ ++ [34])
      rw [← amy.out] at H
      obtain rfl := s1 H
      go_wp2_with (at_builtin; refine aP 39 40 (Kd.int .u8) 22 5 (.int .u8 0) 1 Tryz.underlying22 info5 HB (ur qm.out) amy (by have := X9.out; omega) ?_; intro v226 w29 ho hb hg hat; have awu := ak (ho); replace HB := ak (hb); clear ho hb hg hat qm; have aD2 := r_ (P := Tryz.prog) Tryz.underlying22 Tryz.underlying5 Tryz.underlying9 (Kd.wI awu.out))
      go_ret
      exact ⟨er, ul HB.out⟩
 ·
  obtain rfl := s1 H
  go_enter Tryz.func166, Tryz.ntmps166
  go_wp2_with (refine gA Tryz.func89 (bI.calls A2.out) ?_; intro nd)
  go_ret
  exact ⟨er, ul HB.out⟩
end Go.Proofs.YtncdadcmghglkaaGreatDoor.PFnPartValid
