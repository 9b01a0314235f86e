/- Printed walks; conditions: those in each statement. -/
import Derived.Test.YtncdadcmghglkaaGreatDoorVFnKidValidQt
import Derived.Test.YtncdadcmghglkaaGreatDoorVFnKidValidYt
import Derived.Test.YtncdadcmghglkaaGreatDoorPFnKidValidx0
import Derived.Test.YtncdadcmghglkaaGreatDoorPFnKidValidx1
import Derived.Test.YtncdadcmghglkaaGreatDoorPFnKidValidx2
import Derived.Test.YtncdadcmghglkaaGreatDoorPFnKidValidx3
-- short
-- dense
-- sq
-- sq2
namespace Go.Proofs.YtncdadcmghglkaaGreatDoor.PFnKidValid
open Go.RowKit Go.Proofs.YtncdadcmghglkaaGreatDoor.X Go.Proofs.YtncdadcmghglkaaGreatDoorW.bI Go.Proofs.YtncdadcmghglkaaGreatDoorW.gq Go.Proofs.YtncdadcmghglkaaGreatDoorW.iJ
attribute [local go_sem] kJ kK mD mF jv jw kL kM   -- for this text's walks alone
set_option linter.unusedVariables false
set_option maxHeartbeats 8000000
set_option maxRecDepth 100000
set_option linter.unusedSimpArgs false
def kX.f (a0 : Int) : Option (Bool) := (bH.f a0).bind fun t173 => (if t173 = true then (some true) else ((dH.f a0).bind fun avm => (if avm = true then (some true) else (if a0 = 33 then (some true) else (if a0 ≥ 35 then (if a0 ≤ 39 then (some true) else (if a0 = 42 then (some true) else (if a0 = 43 then (some true) else (if a0 = 45 then (some true) else (if a0 = 47 then (some true) else (if a0 = 61 then (some true) else (if a0 = 63 then (some true) else (if a0 ≥ 94 then (if a0 ≤ 96 then (some true) else (if a0 ≥ 123 then (some (decide (a0 ≤ 126))) else (some false))) else (if a0 ≥ 123 then (some (decide (a0 ≤ 126))) else (some false)))))))))) else (if a0 = 42 then (some true) else (if a0 = 43 then (some true) else (if a0 = 45 then (some true) else (if a0 = 47 then (some true) else (if a0 = 61 then (some true) else (if a0 = 63 then (some true) else (if a0 ≥ 94 then (if a0 ≤ 96 then (some true) else (if a0 ≥ 123 then (some (decide (a0 ≤ 126))) else (some false))) else (if a0 ≥ 123 then (some (decide (a0 ≤ 126))) else (some false))))))))))))))
theorem kX.calls {a0 : Int} {r : Bool} {w : World} (h : kX.f a0 = some r) :
  Calls Tryz.prog 135 #[.int .u8 a0] w fun e w' => e = .returned (.bool r) ∧ dS w w' := by
 unfold kX.f at h; have H := h
 clear h
 replace H := bd H; obtain ⟨t173, A2, H⟩ := H; replace H := sb H
 rcases H with ⟨rfl, H⟩ | ⟨rfl, H⟩
 ·
  obtain rfl := s1 H
  go_enter Tryz.func135, Tryz.ntmps135
  go_wp2_with (refine gA Tryz.func140 (bH.calls A2.out) ?_; intro nd)
  go_ret
  exact ⟨rs, dn⟩
 ·
  replace H := bd H; obtain ⟨avm, A4, H⟩ := H; replace H := sb H
  rcases H with ⟨rfl, H⟩ | ⟨rfl, H⟩
  ·
   obtain rfl := s1 H
   go_enter Tryz.func135, Tryz.ntmps135
   go_wp2_with (first | (refine gA Tryz.func140 (bH.calls A2.out) ?_; intro nd) | (go_at_call 141; refine mA (dH.calls A4.out) ?_; intro nd))
   go_ret
   exact ⟨rs, dn⟩
  ·
   replace H := sq H
   rcases H with ⟨oz, xH, H⟩ | ⟨c6, oz, xH, H⟩
   ·
    obtain rfl := s1 H
    go_enter Tryz.func135, Tryz.ntmps135
    go_wp2_with (first | (refine gA Tryz.func140 (bH.calls A2.out) ?_; intro nd) | (go_at_call 141; refine mA (dH.calls A4.out) ?_; intro nd))
    go_ret
    exact ⟨rs, dn⟩
   ·
    replace H := sp H
    rcases H with ⟨c7, H⟩ | ⟨c7, H⟩
    ·
     have sD : decide (35 ≤ a0) = true := decide_eq_true c7
     clear c7
     replace H := sd H
     rcases H with ⟨tu, H⟩ | ⟨tu, H⟩
     ·
      obtain rfl := s1 H
      go_enter Tryz.func135, Tryz.ntmps135
      go_wp2_with (first | (refine gA Tryz.func140 (bH.calls A2.out) ?_; intro nd) | (go_at_call 141; refine mA (dH.calls A4.out) ?_; intro nd))
      go_ret
      exact ⟨rs, dn⟩
     ·
      replace H := sq H
      rcases H with ⟨yh, Fz, H⟩ | ⟨c9, yh, Fz, H⟩
      ·
       obtain rfl := s1 H
       go_enter Tryz.func135, Tryz.ntmps135
       go_wp2_with (first | (refine gA Tryz.func140 (bH.calls A2.out) ?_; intro nd) | (go_at_call 141; refine mA (dH.calls A4.out) ?_; intro nd))
       go_ret
       exact ⟨rs, dn⟩
      ·
       replace H := sq H
       rcases H with ⟨oC, sS, H⟩ | ⟨c10, oC, sS, H⟩
       ·
        obtain rfl := s1 H
        go_enter Tryz.func135, Tryz.ntmps135
        go_wp2_with (first | (refine gA Tryz.func140 (bH.calls A2.out) ?_; intro nd) | (go_at_call 141; refine mA (dH.calls A4.out) ?_; intro nd))
        go_ret
        exact ⟨rs, dn⟩
       ·
        replace H := sq H
        rcases H with ⟨uH, EC, H⟩ | ⟨c11, uH, EC, H⟩
        ·
         obtain rfl := s1 H
         go_enter Tryz.func135, Tryz.ntmps135
         go_wp2_with (first | (refine gA Tryz.func140 (bH.calls A2.out) ?_; intro nd) | (go_at_call 141; refine mA (dH.calls A4.out) ?_; intro nd))
         go_ret
         exact ⟨rs, dn⟩
        ·
         replace H := sq H
         rcases H with ⟨xI, Dn, H⟩ | ⟨c12, xI, Dn, H⟩
         ·
          obtain rfl := s1 H
          go_enter Tryz.func135, Tryz.ntmps135
          go_wp2_with (first | (refine gA Tryz.func140 (bH.calls A2.out) ?_; intro nd) | (go_at_call 141; refine mA (dH.calls A4.out) ?_; intro nd))
          go_ret
          exact ⟨rs, dn⟩
         ·
          replace H := sq H
          rcases H with ⟨wo, zU, H⟩ | ⟨c13, wo, zU, H⟩
          ·
           obtain rfl := s1 H
           go_enter Tryz.func135, Tryz.ntmps135
           go_wp2_with (first | (refine gA Tryz.func140 (bH.calls A2.out) ?_; intro nd) | (go_at_call 141; refine mA (dH.calls A4.out) ?_; intro nd))
           go_ret
           exact ⟨rs, dn⟩
          ·
           replace H := sq H
           rcases H with ⟨qC, wI, H⟩ | ⟨c14, qC, wI, H⟩
           ·
            obtain rfl := s1 H
            go_enter Tryz.func135, Tryz.ntmps135
            go_wp2_with (first | (refine gA Tryz.func140 (bH.calls A2.out) ?_; intro nd) | (go_at_call 141; refine mA (dH.calls A4.out) ?_; intro nd))
            go_ret
            exact ⟨rs, dn⟩
           ·
            replace H := sp H
            rcases H with ⟨c15, H⟩ | ⟨c15, H⟩
            ·
             have wu : decide (94 ≤ a0) = true := decide_eq_true c15
             clear c15
             replace H := sd H
             rcases H with ⟨zW, H⟩ | ⟨zW, H⟩
             ·
              obtain rfl := s1 H
              go_enter Tryz.func135, Tryz.ntmps135
              go_wp2_with (first | (refine gA Tryz.func140 (bH.calls A2.out) ?_; intro nd) | (go_at_call 141; refine mA (dH.calls A4.out) ?_; intro nd))
              go_ret
              exact ⟨rs, dn⟩
             ·
              replace H := sp H
              rcases H with ⟨c17, H⟩ | ⟨c17, H⟩
              ·
               have tJ : decide (123 ≤ a0) = true := decide_eq_true c17
               clear c17
               obtain rfl := s1 H
               go_enter Tryz.func135, Tryz.ntmps135
               go_wp2_with (first | (refine gA Tryz.func140 (bH.calls A2.out) ?_; intro nd) | (go_at_call 141; refine mA (dH.calls A4.out) ?_; intro nd))
               go_ret
               exact ⟨rs, dn⟩
              ·
               have tJ : decide (123 ≤ a0) = false := decide_eq_false c17
               clear c17
               obtain rfl := s1 H
               go_enter Tryz.func135, Tryz.ntmps135
               go_wp2_with (first | (refine gA Tryz.func140 (bH.calls A2.out) ?_; intro nd) | (go_at_call 141; refine mA (dH.calls A4.out) ?_; intro nd))
               go_ret
               exact ⟨rs, dn⟩
            ·
             have wu : decide (94 ≤ a0) = false := decide_eq_false c15
             clear c15
             replace H := sp H
             rcases H with ⟨c18, H⟩ | ⟨c18, H⟩
             ·
              have zV : decide (123 ≤ a0) = true := decide_eq_true c18
              clear c18
              obtain rfl := s1 H
              go_enter Tryz.func135, Tryz.ntmps135
              go_wp2_with (first | (refine gA Tryz.func140 (bH.calls A2.out) ?_; intro nd) | (go_at_call 141; refine mA (dH.calls A4.out) ?_; intro nd))
              go_ret
              exact ⟨rs, dn⟩
             ·
              have zV : decide (123 ≤ a0) = false := decide_eq_false c18
              clear c18
              obtain rfl := s1 H
              go_enter Tryz.func135, Tryz.ntmps135
              go_wp2_with (first | (refine gA Tryz.func140 (bH.calls A2.out) ?_; intro nd) | (go_at_call 141; refine mA (dH.calls A4.out) ?_; intro nd))
              go_ret
              exact ⟨rs, dn⟩
    ·
     have sD : decide (35 ≤ a0) = false := decide_eq_false c7
     clear c7
     replace H := sq H
     rcases H with ⟨Aw, Ew, H⟩ | ⟨c19, Aw, Ew, H⟩
     ·
      obtain rfl := s1 H
      go_enter Tryz.func135, Tryz.ntmps135
      go_wp2_with (first | (refine gA Tryz.func140 (bH.calls A2.out) ?_; intro nd) | (go_at_call 141; refine mA (dH.calls A4.out) ?_; intro nd))
      go_ret
      exact ⟨rs, dn⟩
     ·
      replace H := sq H
      rcases H with ⟨SH, V7, H⟩ | ⟨c20, SH, V7, H⟩
      ·
       obtain rfl := s1 H
       go_enter Tryz.func135, Tryz.ntmps135
       go_wp2_with (first | (refine gA Tryz.func140 (bH.calls A2.out) ?_; intro nd) | (go_at_call 141; refine mA (dH.calls A4.out) ?_; intro nd))
       go_ret
       exact ⟨rs, dn⟩
      ·
       replace H := sq H
       rcases H with ⟨Ez, ajr, H⟩ | ⟨c21, Ez, ajr, H⟩
       ·
        obtain rfl := s1 H
        go_enter Tryz.func135, Tryz.ntmps135
        go_wp2_with (first | (refine gA Tryz.func140 (bH.calls A2.out) ?_; intro nd) | (go_at_call 141; refine mA (dH.calls A4.out) ?_; intro nd))
        go_ret
        exact ⟨rs, dn⟩
       ·
        replace H := sq H
        rcases H with ⟨Fv, Zx, H⟩ | ⟨c22, Fv, Zx, H⟩
        ·
         obtain rfl := s1 H
         go_enter Tryz.func135, Tryz.ntmps135
         go_wp2_with (first | (refine gA Tryz.func140 (bH.calls A2.out) ?_; intro nd) | (go_at_call 141; refine mA (dH.calls A4.out) ?_; intro nd))
         go_ret
         exact ⟨rs, dn⟩
        ·
         replace H := sq H
         rcases H with ⟨zh, NV, H⟩ | ⟨c23, zh, NV, H⟩
         ·
          obtain rfl := s1 H
          go_enter Tryz.func135, Tryz.ntmps135
          go_wp2_with (first | (refine gA Tryz.func140 (bH.calls A2.out) ?_; intro nd) | (go_at_call 141; refine mA (dH.calls A4.out) ?_; intro nd))
          go_ret
          exact ⟨rs, dn⟩
         ·
          replace H := sq H
          rcases H with ⟨NS, ad6, H⟩ | ⟨c24, NS, ad6, H⟩
          ·
           obtain rfl := s1 H
           go_enter Tryz.func135, Tryz.ntmps135
           go_wp2_with (first | (refine gA Tryz.func140 (bH.calls A2.out) ?_; intro nd) | (go_at_call 141; refine mA (dH.calls A4.out) ?_; intro nd))
           go_ret
           exact ⟨rs, dn⟩
          ·
           replace H := sp H
           rcases H with ⟨c25, H⟩ | ⟨c25, H⟩
           ·
            have PU : decide (94 ≤ a0) = true := decide_eq_true c25
            clear c25
            replace H := sd H
            rcases H with ⟨NP, H⟩ | ⟨NP, H⟩
            ·
             obtain rfl := s1 H
             go_enter Tryz.func135, Tryz.ntmps135
             go_wp2_with (first | (refine gA Tryz.func140 (bH.calls A2.out) ?_; intro nd) | (go_at_call 141; refine mA (dH.calls A4.out) ?_; intro nd))
             go_ret
             exact ⟨rs, dn⟩
            ·
             replace H := sp H
             rcases H with ⟨c27, H⟩ | ⟨c27, H⟩
             ·
              have Fe : decide (123 ≤ a0) = true := decide_eq_true c27
              clear c27
              obtain rfl := s1 H
              go_enter Tryz.func135, Tryz.ntmps135
              go_wp2_with (first | (refine gA Tryz.func140 (bH.calls A2.out) ?_; intro nd) | (go_at_call 141; refine mA (dH.calls A4.out) ?_; intro nd))
              go_ret
              exact ⟨rs, dn⟩
             ·
              have Fe : decide (123 ≤ a0) = false := decide_eq_false c27
              clear c27
              obtain rfl := s1 H
              go_enter Tryz.func135, Tryz.ntmps135
              go_wp2_with (first | (refine gA Tryz.func140 (bH.calls A2.out) ?_; intro nd) | (go_at_call 141; refine mA (dH.calls A4.out) ?_; intro nd))
              go_ret
              exact ⟨rs, dn⟩
           ·
            have PU : decide (94 ≤ a0) = false := decide_eq_false c25
            clear c25
            replace H := sp H
            rcases H with ⟨c28, H⟩ | ⟨c28, H⟩
            ·
             have Fg : decide (123 ≤ a0) = true := decide_eq_true c28
             clear c28
             obtain rfl := s1 H
             go_enter Tryz.func135, Tryz.ntmps135
             go_wp2_with (first | (refine gA Tryz.func140 (bH.calls A2.out) ?_; intro nd) | (go_at_call 141; refine mA (dH.calls A4.out) ?_; intro nd))
             go_ret
             exact ⟨rs, dn⟩
            ·
             have Fg : decide (123 ≤ a0) = false := decide_eq_false c28
             clear c28
             obtain rfl := s1 H
             go_enter Tryz.func135, Tryz.ntmps135
             go_wp2_with (first | (refine gA Tryz.func140 (bH.calls A2.out) ?_; intro nd) | (go_at_call 141; refine mA (dH.calls A4.out) ?_; intro nd))
             go_ret
             exact ⟨rs, dn⟩
mutual
def dJ.l0 : Nat → ByteArray → List ByteArray → Int → Bool → Option (List ByteArray × Bool)
 | 0, _, _, _, _ => none
 | k + 1, x0, x4, x5, x6 => if x5 < (x0.size : Int) then (if 0 ≤ x5 then (if (bt x0 x5) = 32 then (dJ.l0 k x0 x4 (wrap64 (x5 + 1)) true) else (if x6 = true then (if (bt x0 x5) = 34 then (if x5 ≤ (x0.size : Int) then ((jo.f k (x0.extract (x5 : Int).toNat x0.size)).bind fun afS => (if afS.2.2 = true then (if x4.length < 8796093022208 then (dJ.l0 k x0 (x4 ++ [afS.1]) (wrap64 (x5 + afS.2.1)) false) else (none)) else (some (([] : List ByteArray), false)))) else (none)) else (dJ.l1 k x0 x4 x5 x5)) else (some (([] : List ByteArray), false)))) else (none)) else (some (x4, true))
def dJ.l1 : Nat → ByteArray → List ByteArray → Int → Int → Option (List ByteArray × Bool)
 | 0, _, _, _, _ => none
 | k + 1, x0, x4, x5, x10 => if x10 < (x0.size : Int) then (if 0 ≤ x10 then ((kX.f (bt x0 x10)).bind fun avn => (if avn = true then (dJ.l1 k x0 x4 x5 (wrap64 (x10 + 1))) else (if x10 = x5 then (some (([] : List ByteArray), false)) else (if 0 ≤ x5 then (if x5 ≤ x10 then (if x10 ≤ (x0.size : Int) then (if x4.length < 8796093022208 then (dJ.l0 k x0 (x4 ++ [x0.extract (x5 : Int).toNat (x10 : Int).toNat]) x10 false) else (none)) else (none)) else (none)) else (none))))) else (none)) else (if x10 = x5 then (some (([] : List ByteArray), false)) else (if 0 ≤ x5 then (if x5 ≤ x10 then (if x10 ≤ (x0.size : Int) then (if x4.length < 8796093022208 then (dJ.l0 k x0 (x4 ++ [x0.extract (x5 : Int).toNat (x10 : Int).toNat]) x10 false) else (none)) else (none)) else (none)) else (none)))
end
def dJ.f (k : Nat) (a0 : ByteArray) : Option (List ByteArray × Bool) := (bD.f k a0).bind fun t175 => (if t175 = true then (dJ.l0 k a0 (([] : List ByteArray)) 0 true) else (some (([] : List ByteArray), false)))
theorem dJ.calls {k : Nat} {a0 : ByteArray} {r1 : List ByteArray} {r2 : Bool} {w : World} (h : dJ.f k a0 = some (r1, r2)) :
  Calls Tryz.prog 94 #[.string a0] w fun e w' => ∃ ql : Value, e = .returned (.tuple #[ql, .bool r2]) ∧ Kd.R Kd.string 9 w' w.heap.size (fun _ => True) ql r1 ∧ Below w.heap.size w w' := by
 have HB := ak (Below.refl w.heap.size w)
 unfold dJ.f at h; have H := h
 clear h
 replace H := bd H; obtain ⟨t175, A2, H⟩ := H; replace H := sb H
 rcases H with ⟨rfl, H⟩ | ⟨rfl, H⟩
 ·
  obtain ⟨aJa, alN⟩ := nm ([] : List ByteArray)
  rw [← alN.out] at H
  have H' := ak H; clear H
  go_enter Tryz.func94, Tryz.ntmps94
  go_wp2_with (first | (refine gA Tryz.func89 (bD.calls A2.out) ?_; intro nd) | (refine H7 14 Kd.string 9 alN ?_; intro aJb w4 ho5 hb; have avo := ak (Kd.aC ho5 (aj (ul HB.out))); replace HB := bs HB hb; clear hb ho5))
  go_loopg [4, 5, 6] k (fun kq v4 v5 v6 w' => ∃ (dV : List ByteArray) (eP : Int) (jD : Bool), v5 = .int .i64 eP ∧ v6 = .bool jD ∧ ah (dJ.l0 kq a0 dV eP jD = some (r1, r2)) ∧ ah (kq ≤ k) ∧ ah (Kd.R Kd.string 9 w' w.heap.size (fun _ => True) v4 dV) ∧ ah (Below w.heap.size w w'))
  case atStart => exact ⟨_, _, _, rs, rs, H', ⟨Nat.le_refl _⟩, ⟨ur avo.out⟩, ⟨ul HB.out⟩⟩
  case round =>
   clear H'
   obtain ⟨dV, eP, jD, rfl, rfl, HA, xG, iM, HB⟩ := hrel
   cases gk with
   | zero => exact zz HA.out
   | succ k1 =>
    obtain ⟨H⟩ := HA
    simp only [dJ.l0] at H
    replace H := sd H
    rcases H with ⟨oz, H⟩ | ⟨oz, H⟩
    ·
     replace H := oL H; obtain ⟨sD, H⟩ := H; replace H := sq H
     rcases H with ⟨yh, Fz, H⟩ | ⟨c9, yh, Fz, H⟩
     ·
      have H' := ak H; clear H
      obtain ⟨p8, q8, hx8⟩ := bx a0 eP
      go_wp2
      go_roundg k1
      case measure => exact kl
      case rel => exact ⟨_, _, _, rs, rs, H', ⟨kl⟩, ⟨ur iM.out⟩, ⟨ul HB.out⟩⟩
     ·
      replace H := sb H
      rcases H with ⟨rfl, H⟩ | ⟨rfl, H⟩
      ·
       replace H := sq H
       rcases H with ⟨xI, Dn, H⟩ | ⟨c12, xI, Dn, H⟩
       ·
        have wo := eq_true (of_decide_eq_true (by assumption) : 0 ≤ eP)
        replace H := Ac H; obtain ⟨qC, wI, H⟩ := H; replace H := bd H
        obtain ⟨⟨aA_, aJc, aJd⟩, A15, H⟩ := H
        (try dsimp only at H)
        replace H := sb H
        rcases H with ⟨rfl, H⟩ | ⟨rfl, H⟩
        ·
         replace H := nl H; obtain ⟨ad8, H⟩ := H
         obtain ⟨aJe, alO⟩ := nm (dV ++ [aA_])
         rw [← alO.out] at H
         have H' := ak H; clear H
         obtain ⟨p8, q8, hx8⟩ := bx a0 eP
         obtain ⟨p11, q11, VZ⟩ := bx a0 eP
         go_wp2_with (first | (refine gB Tryz.func134 (jo.calls A15.out) ?_; intro w18 hb; replace iM := rb iM hb; replace HB := bs HB hb; clear hb) | (at_builtin; refine aP 68 70 Kd.string 23 9 (.string ⟨#[]⟩) 16 Tryz.underlying23 info9 HB (ur iM.out) alO (by have := ad8.out; omega) ?_; intro v183 ZN ho hb hg hat; have avp := ak (ho); replace HB := ak (hb); clear ho hb hg hat iM))
         go_roundg k1
         case measure => exact kl
         case rel => exact ⟨_, _, _, rs, rs, H', ⟨kl⟩, ⟨ur avp.out⟩, ⟨ul HB.out⟩⟩
        ·
         obtain ⟨rfl, rfl⟩ := s2 H
         obtain ⟨p8, q8, hx8⟩ := bx a0 eP
         obtain ⟨p11, q11, VZ⟩ := bx a0 eP
         go_wp2_with (refine gB Tryz.func134 (jo.calls A15.out) ?_; intro w20 hb; replace iM := rb iM hb; replace HB := bs HB hb; clear hb)
         go_ret2
         exact ⟨_, er, nx, ul HB.out⟩
       ·
        have H' := ak H; clear H
        obtain ⟨p8, q8, hx8⟩ := bx a0 eP
        obtain ⟨p11, q11, VZ⟩ := bx a0 eP
        go_wp2
        go_loopg [10] k1 (fun kq v10 w' => ∃ (Oc : Int), v10 = .int .i64 Oc ∧ ah (dJ.l1 kq a0 dV eP Oc = some (r1, r2)) ∧ ah (kq ≤ k1) ∧ ah (Kd.R Kd.string 9 w' w.heap.size (fun _ => True) u4 dV) ∧ ah (Below w.heap.size w w'))
        case atStart => exact ⟨_, rs, H', ⟨Nat.le_refl _⟩, ⟨ur iM.out⟩, ⟨ul HB.out⟩⟩
        case round =>
         clear H'
         try clear oz
         try clear sD
         try clear p8
         try clear q8
         try clear hx8
         try clear c9
         try clear yh
         try clear Fz
         try clear p11
         try clear q11
         try clear VZ
         try clear c12
         try clear xI
         try clear Dn
         try clear p11
         try clear p8
         try clear q11
         try clear q8
         obtain ⟨Oc, rfl, HA, Zw, iM, HB⟩ := hrel
         cases gk with
         | zero => exact zz HA.out
         | succ k2 =>
          obtain ⟨H⟩ := HA
          simp only [dJ.l1] at H
          replace H := sd H
          rcases H with ⟨Ez, H⟩ | ⟨Ez, H⟩
          ·
           replace H := oL H; obtain ⟨Fv, H⟩ := H; replace H := bd H; obtain ⟨avn, Yx, H⟩ := H; replace H := sb H
           rcases H with ⟨rfl, H⟩ | ⟨rfl, H⟩
           ·
            have H' := ak H; clear H
            obtain ⟨p23, q23, avq⟩ := bx a0 Oc
            go_wp2_with (go_at_call 135; refine mA (kX.calls Yx.out) ?_; intro nd)
            go_roundg k2
            case measure => exact kl
            case rel => exact ⟨_, rs, H', ⟨kl⟩, ⟨ur iM.out⟩, ⟨ul HB.out⟩⟩
           ·
            replace H := sq H
            rcases H with ⟨NP, ZC, H⟩ | ⟨c26, NP, ZC, H⟩
            ·
             obtain ⟨rfl, rfl⟩ := s2 H
             obtain ⟨p23, q23, avq⟩ := bx a0 Oc
             go_wp2_with (go_at_call 135; refine mA (kX.calls Yx.out) ?_; intro nd)
             go_ret2
             exact ⟨_, er, nx, ul HB.out⟩
            ·
             replace H := Ac H; obtain ⟨Fe, ZE, H⟩ := H; replace H := Ac H; obtain ⟨Fg, ZF, H⟩ := H; replace H := Ac H; obtain ⟨aau, aD2, H⟩ := H; replace H := nl H; obtain ⟨avr, H⟩ := H
             obtain ⟨aJf, alP⟩ := nm (dV ++ [a0.extract (eP : Int).toNat (Oc : Int).toNat])
             rw [← alP.out] at H
             have H' := ak H; clear H
             obtain ⟨p23, q23, avq⟩ := bx a0 Oc
             go_wp2_with (first | (go_at_call 135; refine mA (kX.calls Yx.out) ?_; intro nd) | (at_builtin; refine aP 35 40 Kd.string 23 9 (.string ⟨#[]⟩) 16 Tryz.underlying23 info9 HB (ur iM.out) alP (by have := avr.out; omega) ?_; intro aJg w31 ho hb hg hat; have avs := ak (ho); replace HB := ak (hb); clear ho hb hg hat iM))
             go_roundg k2
             case measure => exact kl
             case rel => exact ⟨_, _, _, rs, rs, H', ⟨kl⟩, ⟨ur avs.out⟩, ⟨ul HB.out⟩⟩
          ·
           replace H := sq H
           rcases H with ⟨V_, adN, H⟩ | ⟨c32, V_, adN, H⟩
           ·
            obtain ⟨rfl, rfl⟩ := s2 H
            go_wp2
            go_ret2
            exact ⟨_, er, nx, ul HB.out⟩
           ·
            replace H := Ac H; obtain ⟨SI, adO, H⟩ := H; replace H := Ac H; obtain ⟨PX, PY, H⟩ := H; replace H := Ac H; obtain ⟨Wh, ZA, H⟩ := H; replace H := nl H; obtain ⟨avt, H⟩ := H
            obtain ⟨aJh, alQ⟩ := nm (dV ++ [a0.extract (eP : Int).toNat (Oc : Int).toNat])
            rw [← alQ.out] at H
            have H' := ak H; clear H
            go_wp2_with (at_builtin; refine aP 35 40 Kd.string 23 9 (.string ⟨#[]⟩) 16 Tryz.underlying23 info9 HB (ur iM.out) alQ (by have := avt.out; omega) ?_; intro aJi w37 ho hb hg hat; have avu := ak (ho); replace HB := ak (hb); clear ho hb hg hat iM)
            go_roundg k2
            case measure => exact kl
            case rel => exact ⟨_, _, _, rs, rs, H', ⟨kl⟩, ⟨ur avu.out⟩, ⟨ul HB.out⟩⟩
      ·
       obtain ⟨rfl, rfl⟩ := s2 H
       obtain ⟨p8, q8, hx8⟩ := bx a0 eP
       go_wp2
       go_ret2
       exact ⟨_, er, nx, ul HB.out⟩
    ·
     obtain ⟨rfl, rfl⟩ := s2 H
     go_wp2
     go_ret2
     exact ⟨_, er, ur iM.out, ul HB.out⟩
 ·
  obtain ⟨rfl, rfl⟩ := s2 H
  go_enter Tryz.func94, Tryz.ntmps94
  go_wp2_with (refine gA Tryz.func89 (bD.calls A2.out) ?_; intro nd)
  go_ret2
  exact ⟨_, er, nx, ul HB.out⟩
def gy.f (k : Nat) (a0 : ByteArray) : Option (Bool) := (jk.f k a0).bind fun avv => (if avv = true then ((iQ.f a0).bind fun t193 => (some (t193.toList == a0.toList))) else (some false))
theorem gy.calls {k : Nat} {a0 : ByteArray} {r : Bool} {w : World} (h : gy.f k a0 = some r) :
  Calls Tryz.prog 136 #[.string a0] w fun e w' => e = .returned (.bool r) ∧ Below w.heap.size w w' := by
 have HB := ak (Below.refl w.heap.size w)
 unfold gy.f at h; have H := h
 clear h
 replace H := bd H; obtain ⟨avv, A2, H⟩ := H; replace H := sb H
 rcases H with ⟨rfl, H⟩ | ⟨rfl, H⟩
 ·
  replace H := bd H; obtain ⟨t193, A4, H⟩ := H
  obtain rfl := s1 H
  go_enter Tryz.func136, Tryz.ntmps136
  go_wp2_with (first | (refine gA Tryz.func160 (jk.calls A2.out) ?_; intro nd) | (go_at_call 93; refine mB (iQ.calls A4.out) ?_; intro w5 hb; replace HB := bs HB hb; clear hb))
  go_ret
  exact ⟨er, ul HB.out⟩
 ·
  obtain rfl := s1 H
  go_enter Tryz.func136, Tryz.ntmps136
  go_wp2_with (refine gA Tryz.func160 (jk.calls A2.out) ?_; intro nd)
  go_ret
  exact ⟨er, ul HB.out⟩
def dN.l0 : Nat → ByteArray → Int → Int → Option (Bool)
 | 0, _, _, _ => none
 | k + 1, x0, x7, x8 => if x8 < x7 then (if 0 ≤ x8 then (if x8 < (x0.size : Int) then ((kX.f (bt x0 x8)).bind fun t194 => (if t194 = true then (dN.l0 k x0 x7 (wrap64 (x8 + 1))) else (some false))) else (none)) else (none)) else (some true)
def dN.f (k : Nat) (a0 : ByteArray)  : Option (Bool) := dN.l0 k a0 (a0.size : Int) 0
theorem dN.calls {k : Nat} {a0 : ByteArray} {r : Bool} {w : World} (h : dN.f k a0 = some r) :
  Calls Tryz.prog 138 #[.string a0, .func (.func 135) #[] #[]] w fun e w' => e = .returned (.bool r) ∧ dS w w' := by
 unfold dN.f at h; have H := h
 clear h
 have H' := ak H; clear H
 go_enter Tryz.func138, Tryz.ntmps138
 go_wp2
 go_loopg [8] k (fun kq v8 w' => ∃ (kV : Int), v8 = .int .i64 kV ∧ ah (dN.l0 kq a0 (a0.size : Int) kV = some r) ∧ ah (kq ≤ k) ∧ dS w w')
 case atStart => exact ⟨_, rs, H', ⟨Nat.le_refl _⟩, dn⟩
 case round =>
  clear H'
  obtain ⟨kV, rfl, HA, xG, ⟨m1, rfl⟩⟩ := hrel
  cases gk with
  | zero => exact zz HA.out
  | succ k1 =>
   obtain ⟨H⟩ := HA
   simp only [dN.l0] at H
   replace H := sd H
   rcases H with ⟨iO, H⟩ | ⟨iO, H⟩
   ·
    replace H := oL H; obtain ⟨su, H⟩ := H; replace H := oL H; obtain ⟨nO, H⟩ := H; replace H := bd H; obtain ⟨t194, A7, H⟩ := H; replace H := sb H
    rcases H with ⟨rfl, H⟩ | ⟨rfl, H⟩
    ·
     have H' := ak H; clear H
     obtain ⟨p6, q6, hx6⟩ := bx a0 kV
     go_wp2_with (go_at_call 135; refine mA (kX.calls A7.out) ?_; intro nd)
     go_roundg k1
     case measure => exact kl
     case rel => exact ⟨_, rs, H', ⟨kl⟩, dn⟩
    ·
     obtain rfl := s1 H
     obtain ⟨p6, q6, hx6⟩ := bx a0 kV
     go_wp2_with (go_at_call 135; refine mA (kX.calls A7.out) ?_; intro nd)
     go_ret
     exact ⟨rs, dn⟩
   ·
    obtain rfl := s1 H
    go_wp2
    go_ret
    exact ⟨rs, dn⟩
end Go.Proofs.YtncdadcmghglkaaGreatDoor.PFnKidValid
