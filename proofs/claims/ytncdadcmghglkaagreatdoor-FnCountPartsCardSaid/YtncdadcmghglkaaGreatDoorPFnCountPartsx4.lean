/- Printed walks; conditions: those in each statement. -/
import Derived.Test.YtncdadcmghglkaaGreatDoorVFnCountPartsQt
import Derived.Test.YtncdadcmghglkaaGreatDoorVFnCountPartsYt
import Derived.Test.YtncdadcmghglkaaGreatDoorPFnCountPartsx0
import Derived.Test.YtncdadcmghglkaaGreatDoorPFnCountPartsx1
import Derived.Test.YtncdadcmghglkaaGreatDoorPFnCountPartsx2
import Derived.Test.YtncdadcmghglkaaGreatDoorPFnCountPartsx3
-- short
-- dense
-- sq
-- sq2
namespace Go.Proofs.YtncdadcmghglkaaGreatDoor.PFnCountParts
open Go.RowKit Go.Proofs.YtncdadcmghglkaaGreatDoor.X Go.Proofs.YtncdadcmghglkaaGreatDoorW.bI Go.Proofs.YtncdadcmghglkaaGreatDoorW.gI Go.Proofs.YtncdadcmghglkaaGreatDoorW.iL
attribute [local go_sem] kN kP mF mG jB jC kQ kR   -- for this text's walks alone
set_option linter.unusedVariables false
set_option maxHeartbeats 8000000
set_option maxRecDepth 100000
set_option linter.unusedSimpArgs false
def lu.f (a0 : Int) : Option (Bool) := (bH.f a0).bind fun t173 => (if t173 = true then (some true) else ((dH.f a0).bind fun atU => (if atU = true then (some true) else (if a0 = 33 then (some true) else (if a0 ≥ 35 then (if a0 ≤ 39 then (some true) else (if a0 = 42 then (some true) else (if a0 = 43 then (some true) else (if a0 = 45 then (some true) else (if a0 = 47 then (some true) else (if a0 = 61 then (some true) else (if a0 = 63 then (some true) else (if a0 ≥ 94 then (if a0 ≤ 96 then (some true) else (if a0 ≥ 123 then (some (decide (a0 ≤ 126))) else (some false))) else (if a0 ≥ 123 then (some (decide (a0 ≤ 126))) else (some false)))))))))) else (if a0 = 42 then (some true) else (if a0 = 43 then (some true) else (if a0 = 45 then (some true) else (if a0 = 47 then (some true) else (if a0 = 61 then (some true) else (if a0 = 63 then (some true) else (if a0 ≥ 94 then (if a0 ≤ 96 then (some true) else (if a0 ≥ 123 then (some (decide (a0 ≤ 126))) else (some false))) else (if a0 ≥ 123 then (some (decide (a0 ≤ 126))) else (some false))))))))))))))
theorem lu.calls {a0 : Int} {r : Bool} {w : World} (h : lu.f a0 = some r) :
  Calls Tryz.prog 135 #[.int .u8 a0] w fun e w' => e = .returned (.bool r) ∧ dS w w' := by
 unfold lu.f at h; have H := h
 clear h
 replace H := bd H; obtain ⟨t173, A2, H⟩ := H; replace H := sb H
 rcases H with ⟨rfl, H⟩ | ⟨rfl, H⟩
 ·
  obtain rfl := s1 H
  go_enter Tryz.func135, Tryz.ntmps135
  go_wp2_with (refine gA Tryz.func140 (bH.calls A2.out) ?_; intro nd)
  go_ret
  exact ⟨rs, dn⟩
 ·
  replace H := bd H; obtain ⟨atU, A4, H⟩ := H; replace H := sb H
  rcases H with ⟨rfl, H⟩ | ⟨rfl, H⟩
  ·
   obtain rfl := s1 H
   go_enter Tryz.func135, Tryz.ntmps135
   go_wp2_with (first | (refine gA Tryz.func140 (bH.calls A2.out) ?_; intro nd) | (go_at_call 141; refine mA (dH.calls A4.out) ?_; intro nd))
   go_ret
   exact ⟨rs, dn⟩
  ·
   replace H := sq H
   rcases H with ⟨nT, wF, H⟩ | ⟨c6, nT, wF, H⟩
   ·
    obtain rfl := s1 H
    go_enter Tryz.func135, Tryz.ntmps135
    go_wp2_with (first | (refine gA Tryz.func140 (bH.calls A2.out) ?_; intro nd) | (go_at_call 141; refine mA (dH.calls A4.out) ?_; intro nd))
    go_ret
    exact ⟨rs, dn⟩
   ·
    replace H := sp H
    rcases H with ⟨c7, H⟩ | ⟨c7, H⟩
    ·
     have rY : decide (35 ≤ a0) = true := decide_eq_true c7
     clear c7
     replace H := sd H
     rcases H with ⟨sH, H⟩ | ⟨sH, H⟩
     ·
      obtain rfl := s1 H
      go_enter Tryz.func135, Tryz.ntmps135
      go_wp2_with (first | (refine gA Tryz.func140 (bH.calls A2.out) ?_; intro nd) | (go_at_call 141; refine mA (dH.calls A4.out) ?_; intro nd))
      go_ret
      exact ⟨rs, dn⟩
     ·
      replace H := sq H
      rcases H with ⟨xU, EX, H⟩ | ⟨c9, xU, EX, H⟩
      ·
       obtain rfl := s1 H
       go_enter Tryz.func135, Tryz.ntmps135
       go_wp2_with (first | (refine gA Tryz.func140 (bH.calls A2.out) ?_; intro nd) | (go_at_call 141; refine mA (dH.calls A4.out) ?_; intro nd))
       go_ret
       exact ⟨rs, dn⟩
      ·
       replace H := sq H
       rcases H with ⟨oC, sK, H⟩ | ⟨c10, oC, sK, H⟩
       ·
        obtain rfl := s1 H
        go_enter Tryz.func135, Tryz.ntmps135
        go_wp2_with (first | (refine gA Tryz.func140 (bH.calls A2.out) ?_; intro nd) | (go_at_call 141; refine mA (dH.calls A4.out) ?_; intro nd))
        go_ret
        exact ⟨rs, dn⟩
       ·
        replace H := sq H
        rcases H with ⟨uH, Ec, H⟩ | ⟨c11, uH, Ec, H⟩
        ·
         obtain rfl := s1 H
         go_enter Tryz.func135, Tryz.ntmps135
         go_wp2_with (first | (refine gA Tryz.func140 (bH.calls A2.out) ?_; intro nd) | (go_at_call 141; refine mA (dH.calls A4.out) ?_; intro nd))
         go_ret
         exact ⟨rs, dn⟩
        ·
         replace H := sq H
         rcases H with ⟨xw, CP, H⟩ | ⟨c12, xw, CP, H⟩
         ·
          obtain rfl := s1 H
          go_enter Tryz.func135, Tryz.ntmps135
          go_wp2_with (first | (refine gA Tryz.func140 (bH.calls A2.out) ?_; intro nd) | (go_at_call 141; refine mA (dH.calls A4.out) ?_; intro nd))
          go_ret
          exact ⟨rs, dn⟩
         ·
          replace H := sq H
          rcases H with ⟨vS, zB, H⟩ | ⟨c13, vS, zB, H⟩
          ·
           obtain rfl := s1 H
           go_enter Tryz.func135, Tryz.ntmps135
           go_wp2_with (first | (refine gA Tryz.func140 (bH.calls A2.out) ?_; intro nd) | (go_at_call 141; refine mA (dH.calls A4.out) ?_; intro nd))
           go_ret
           exact ⟨rs, dn⟩
          ·
           replace H := sq H
           rcases H with ⟨tu, xA, H⟩ | ⟨c14, tu, xA, H⟩
           ·
            obtain rfl := s1 H
            go_enter Tryz.func135, Tryz.ntmps135
            go_wp2_with (first | (refine gA Tryz.func140 (bH.calls A2.out) ?_; intro nd) | (go_at_call 141; refine mA (dH.calls A4.out) ?_; intro nd))
            go_ret
            exact ⟨rs, dn⟩
           ·
            replace H := sp H
            rcases H with ⟨c15, H⟩ | ⟨c15, H⟩
            ·
             have vT : decide (94 ≤ a0) = true := decide_eq_true c15
             clear c15
             replace H := sd H
             rcases H with ⟨zD, H⟩ | ⟨zD, H⟩
             ·
              obtain rfl := s1 H
              go_enter Tryz.func135, Tryz.ntmps135
              go_wp2_with (first | (refine gA Tryz.func140 (bH.calls A2.out) ?_; intro nd) | (go_at_call 141; refine mA (dH.calls A4.out) ?_; intro nd))
              go_ret
              exact ⟨rs, dn⟩
             ·
              replace H := sp H
              rcases H with ⟨c17, H⟩ | ⟨c17, H⟩
              ·
               have tq : decide (123 ≤ a0) = true := decide_eq_true c17
               clear c17
               obtain rfl := s1 H
               go_enter Tryz.func135, Tryz.ntmps135
               go_wp2_with (first | (refine gA Tryz.func140 (bH.calls A2.out) ?_; intro nd) | (go_at_call 141; refine mA (dH.calls A4.out) ?_; intro nd))
               go_ret
               exact ⟨rs, dn⟩
              ·
               have tq : decide (123 ≤ a0) = false := decide_eq_false c17
               clear c17
               obtain rfl := s1 H
               go_enter Tryz.func135, Tryz.ntmps135
               go_wp2_with (first | (refine gA Tryz.func140 (bH.calls A2.out) ?_; intro nd) | (go_at_call 141; refine mA (dH.calls A4.out) ?_; intro nd))
               go_ret
               exact ⟨rs, dn⟩
            ·
             have vT : decide (94 ≤ a0) = false := decide_eq_false c15
             clear c15
             replace H := sp H
             rcases H with ⟨c18, H⟩ | ⟨c18, H⟩
             ·
              have zC : decide (123 ≤ a0) = true := decide_eq_true c18
              clear c18
              obtain rfl := s1 H
              go_enter Tryz.func135, Tryz.ntmps135
              go_wp2_with (first | (refine gA Tryz.func140 (bH.calls A2.out) ?_; intro nd) | (go_at_call 141; refine mA (dH.calls A4.out) ?_; intro nd))
              go_ret
              exact ⟨rs, dn⟩
             ·
              have zC : decide (123 ≤ a0) = false := decide_eq_false c18
              clear c18
              obtain rfl := s1 H
              go_enter Tryz.func135, Tryz.ntmps135
              go_wp2_with (first | (refine gA Tryz.func140 (bH.calls A2.out) ?_; intro nd) | (go_at_call 141; refine mA (dH.calls A4.out) ?_; intro nd))
              go_ret
              exact ⟨rs, dn⟩
    ·
     have rY : decide (35 ≤ a0) = false := decide_eq_false c7
     clear c7
     replace H := sq H
     rcases H with ⟨z_, Ea, H⟩ | ⟨c19, z_, Ea, H⟩
     ·
      obtain rfl := s1 H
      go_enter Tryz.func135, Tryz.ntmps135
      go_wp2_with (first | (refine gA Tryz.func140 (bH.calls A2.out) ?_; intro nd) | (go_at_call 141; refine mA (dH.calls A4.out) ?_; intro nd))
      go_ret
      exact ⟨rs, dn⟩
     ·
      replace H := sq H
      rcases H with ⟨MP, Vm, H⟩ | ⟨c20, MP, Vm, H⟩
      ·
       obtain rfl := s1 H
       go_enter Tryz.func135, Tryz.ntmps135
       go_wp2_with (first | (refine gA Tryz.func140 (bH.calls A2.out) ?_; intro nd) | (go_at_call 141; refine mA (dH.calls A4.out) ?_; intro nd))
       go_ret
       exact ⟨rs, dn⟩
      ·
       replace H := sq H
       rcases H with ⟨Bo, YR, H⟩ | ⟨c21, Bo, YR, H⟩
       ·
        obtain rfl := s1 H
        go_enter Tryz.func135, Tryz.ntmps135
        go_wp2_with (first | (refine gA Tryz.func140 (bH.calls A2.out) ?_; intro nd) | (go_at_call 141; refine mA (dH.calls A4.out) ?_; intro nd))
        go_ret
        exact ⟨rs, dn⟩
       ·
        replace H := sq H
        rcases H with ⟨EW, YS, H⟩ | ⟨c22, EW, YS, H⟩
        ·
         obtain rfl := s1 H
         go_enter Tryz.func135, Tryz.ntmps135
         go_wp2_with (first | (refine gA Tryz.func140 (bH.calls A2.out) ?_; intro nd) | (go_at_call 141; refine mA (dH.calls A4.out) ?_; intro nd))
         go_ret
         exact ⟨rs, dn⟩
        ·
         replace H := sq H
         rcases H with ⟨Ae, MR, H⟩ | ⟨c23, Ae, MR, H⟩
         ·
          obtain rfl := s1 H
          go_enter Tryz.func135, Tryz.ntmps135
          go_wp2_with (first | (refine gA Tryz.func140 (bH.calls A2.out) ?_; intro nd) | (go_at_call 141; refine mA (dH.calls A4.out) ?_; intro nd))
          go_ret
          exact ⟨rs, dn⟩
         ·
          replace H := sq H
          rcases H with ⟨OV, adt, H⟩ | ⟨c24, OV, adt, H⟩
          ·
           obtain rfl := s1 H
           go_enter Tryz.func135, Tryz.ntmps135
           go_wp2_with (first | (refine gA Tryz.func140 (bH.calls A2.out) ?_; intro nd) | (go_at_call 141; refine mA (dH.calls A4.out) ?_; intro nd))
           go_ret
           exact ⟨rs, dn⟩
          ·
           replace H := sp H
           rcases H with ⟨c25, H⟩ | ⟨c25, H⟩
           ·
            have OW : decide (94 ≤ a0) = true := decide_eq_true c25
            clear c25
            replace H := sd H
            rcases H with ⟨MK, H⟩ | ⟨MK, H⟩
            ·
             obtain rfl := s1 H
             go_enter Tryz.func135, Tryz.ntmps135
             go_wp2_with (first | (refine gA Tryz.func140 (bH.calls A2.out) ?_; intro nd) | (go_at_call 141; refine mA (dH.calls A4.out) ?_; intro nd))
             go_ret
             exact ⟨rs, dn⟩
            ·
             replace H := sp H
             rcases H with ⟨c27, H⟩ | ⟨c27, H⟩
             ·
              have EO : decide (123 ≤ a0) = true := decide_eq_true c27
              clear c27
              obtain rfl := s1 H
              go_enter Tryz.func135, Tryz.ntmps135
              go_wp2_with (first | (refine gA Tryz.func140 (bH.calls A2.out) ?_; intro nd) | (go_at_call 141; refine mA (dH.calls A4.out) ?_; intro nd))
              go_ret
              exact ⟨rs, dn⟩
             ·
              have EO : decide (123 ≤ a0) = false := decide_eq_false c27
              clear c27
              obtain rfl := s1 H
              go_enter Tryz.func135, Tryz.ntmps135
              go_wp2_with (first | (refine gA Tryz.func140 (bH.calls A2.out) ?_; intro nd) | (go_at_call 141; refine mA (dH.calls A4.out) ?_; intro nd))
              go_ret
              exact ⟨rs, dn⟩
           ·
            have OW : decide (94 ≤ a0) = false := decide_eq_false c25
            clear c25
            replace H := sp H
            rcases H with ⟨c28, H⟩ | ⟨c28, H⟩
            ·
             have EP : decide (123 ≤ a0) = true := decide_eq_true c28
             clear c28
             obtain rfl := s1 H
             go_enter Tryz.func135, Tryz.ntmps135
             go_wp2_with (first | (refine gA Tryz.func140 (bH.calls A2.out) ?_; intro nd) | (go_at_call 141; refine mA (dH.calls A4.out) ?_; intro nd))
             go_ret
             exact ⟨rs, dn⟩
            ·
             have EP : decide (123 ≤ a0) = false := decide_eq_false c28
             clear c28
             obtain rfl := s1 H
             go_enter Tryz.func135, Tryz.ntmps135
             go_wp2_with (first | (refine gA Tryz.func140 (bH.calls A2.out) ?_; intro nd) | (go_at_call 141; refine mA (dH.calls A4.out) ?_; intro nd))
             go_ret
             exact ⟨rs, dn⟩
mutual
def dK.l0 : Nat → ByteArray → List ByteArray → Int → Bool → Option (List ByteArray × Bool)
 | 0, _, _, _, _ => none
 | k + 1, x0, x4, x5, x6 => if x5 < (x0.size : Int) then (if 0 ≤ x5 then (if (bt x0 x5) = 32 then (dK.l0 k x0 x4 (wrap64 (x5 + 1)) true) else (if x6 = true then (if (bt x0 x5) = 34 then (if x5 ≤ (x0.size : Int) then ((jw.f k (x0.extract (x5 : Int).toNat x0.size)).bind fun ae3 => (if ae3.2.2 = true then (if x4.length < 8796093022208 then (dK.l0 k x0 (x4 ++ [ae3.1]) (wrap64 (x5 + ae3.2.1)) false) else (none)) else (some (([] : List ByteArray), false)))) else (none)) else (dK.l1 k x0 x4 x5 x5)) else (some (([] : List ByteArray), false)))) else (none)) else (some (x4, true))
def dK.l1 : Nat → ByteArray → List ByteArray → Int → Int → Option (List ByteArray × Bool)
 | 0, _, _, _, _ => none
 | k + 1, x0, x4, x5, x10 => if x10 < (x0.size : Int) then (if 0 ≤ x10 then ((lu.f (bt x0 x10)).bind fun atV => (if atV = true then (dK.l1 k x0 x4 x5 (wrap64 (x10 + 1))) else (if x10 = x5 then (some (([] : List ByteArray), false)) else (if 0 ≤ x5 then (if x5 ≤ x10 then (if x10 ≤ (x0.size : Int) then (if x4.length < 8796093022208 then (dK.l0 k x0 (x4 ++ [x0.extract (x5 : Int).toNat (x10 : Int).toNat]) x10 false) else (none)) else (none)) else (none)) else (none))))) else (none)) else (if x10 = x5 then (some (([] : List ByteArray), false)) else (if 0 ≤ x5 then (if x5 ≤ x10 then (if x10 ≤ (x0.size : Int) then (if x4.length < 8796093022208 then (dK.l0 k x0 (x4 ++ [x0.extract (x5 : Int).toNat (x10 : Int).toNat]) x10 false) else (none)) else (none)) else (none)) else (none)))
end
def dK.f (k : Nat) (a0 : ByteArray) : Option (List ByteArray × Bool) := (bC.f k a0).bind fun t175 => (if t175 = true then (dK.l0 k a0 (([] : List ByteArray)) 0 true) else (some (([] : List ByteArray), false)))
theorem dK.calls {k : Nat} {a0 : ByteArray} {r1 : List ByteArray} {r2 : Bool} {w : World} (h : dK.f k a0 = some (r1, r2)) :
  Calls Tryz.prog 94 #[.string a0] w fun e w' => ∃ qj : Value, e = .returned (.tuple #[qj, .bool r2]) ∧ Kd.R Kd.string 9 w' w.heap.size (fun _ => True) qj r1 ∧ Below w.heap.size w w' := by
 have HB := ak (Below.refl w.heap.size w)
 unfold dK.f at h; have H := h
 clear h
 replace H := bd H; obtain ⟨t175, A2, H⟩ := H; replace H := sb H
 rcases H with ⟨rfl, H⟩ | ⟨rfl, H⟩
 ·
  obtain ⟨aHF, akN⟩ := nm ([] : List ByteArray)
  rw [← akN.out] at H
  have H' := ak H; clear H
  go_enter Tryz.func94, Tryz.ntmps94
  go_wp2_with (first | (refine gA Tryz.func89 (bC.calls A2.out) ?_; intro nd) | (refine GN 14 Kd.string 9 akN ?_; intro aHG w4 ho5 hb; have atW := ak (Kd.aA ho5 (aj (ul HB.out))); replace HB := bs HB hb; clear hb ho5))
  go_loopg [4, 5, 6] k (fun kq v4 v5 v6 w' => ∃ (dW : List ByteArray) (eH : Int) (jH : Bool), v5 = .int .i64 eH ∧ v6 = .bool jH ∧ ah (dK.l0 kq a0 dW eH jH = some (r1, r2)) ∧ ah (kq ≤ k) ∧ ah (Kd.R Kd.string 9 w' w.heap.size (fun _ => True) v4 dW) ∧ ah (Below w.heap.size w w'))
  case atStart => exact ⟨_, _, _, rs, rs, H', ⟨Nat.le_refl _⟩, ⟨ur atW.out⟩, ⟨ul HB.out⟩⟩
  case round =>
   clear H'
   obtain ⟨dW, eH, jH, rfl, rfl, HA, xu, iP, HB⟩ := hrel
   cases gk with
   | zero => exact zz HA.out
   | succ k1 =>
    obtain ⟨H⟩ := HA
    simp only [dK.l0] at H
    replace H := sd H
    rcases H with ⟨nT, H⟩ | ⟨nT, H⟩
    ·
     replace H := oM H; obtain ⟨rY, H⟩ := H; replace H := sq H
     rcases H with ⟨xU, EX, H⟩ | ⟨c9, xU, EX, H⟩
     ·
      have H' := ak H; clear H
      obtain ⟨p8, q8, hx8⟩ := bx a0 eH
      go_wp2
      go_roundg k1
      case measure => exact kl
      case rel => exact ⟨_, _, _, rs, rs, H', ⟨kl⟩, ⟨ur iP.out⟩, ⟨ul HB.out⟩⟩
     ·
      replace H := sb H
      rcases H with ⟨rfl, H⟩ | ⟨rfl, H⟩
      ·
       replace H := sq H
       rcases H with ⟨xw, CP, H⟩ | ⟨c12, xw, CP, H⟩
       ·
        have vS := eq_true (of_decide_eq_true (by assumption) : 0 ≤ eH)
        replace H := zK H; obtain ⟨tu, xA, H⟩ := H; replace H := bd H
        obtain ⟨⟨azJ, aHH, aHI⟩, A15, H⟩ := H
        (try dsimp only at H)
        replace H := sb H
        rcases H with ⟨rfl, H⟩ | ⟨rfl, H⟩
        ·
         replace H := nl H; obtain ⟨adv, H⟩ := H
         obtain ⟨aHJ, akO⟩ := nm (dW ++ [azJ])
         rw [← akO.out] at H
         have H' := ak H; clear H
         obtain ⟨p8, q8, hx8⟩ := bx a0 eH
         obtain ⟨p11, q11, Vg⟩ := bx a0 eH
         go_wp2_with (first | (refine gB Tryz.func134 (jw.calls A15.out) ?_; intro w18 hb; replace iP := rb iP hb; replace HB := bs HB hb; clear hb) | (at_builtin; refine aP 68 70 Kd.string 23 9 (.string ⟨#[]⟩) 16 Tryz.underlying23 info9 HB (ur iP.out) akO (by have := adv.out; omega) ?_; intro v183 Xq ho hb hg hat; have atX := ak (ho); replace HB := ak (hb); clear ho hb hg hat iP))
         go_roundg k1
         case measure => exact kl
         case rel => exact ⟨_, _, _, rs, rs, H', ⟨kl⟩, ⟨ur atX.out⟩, ⟨ul HB.out⟩⟩
        ·
         obtain ⟨rfl, rfl⟩ := s2 H
         obtain ⟨p8, q8, hx8⟩ := bx a0 eH
         obtain ⟨p11, q11, Vg⟩ := bx a0 eH
         go_wp2_with (refine gB Tryz.func134 (jw.calls A15.out) ?_; intro w20 hb; replace iP := rb iP hb; replace HB := bs HB hb; clear hb)
         go_ret2
         exact ⟨_, er, nx, ul HB.out⟩
       ·
        have H' := ak H; clear H
        obtain ⟨p8, q8, hx8⟩ := bx a0 eH
        obtain ⟨p11, q11, Vg⟩ := bx a0 eH
        go_wp2
        go_loopg [10] k1 (fun kq v10 w' => ∃ (Nh : Int), v10 = .int .i64 Nh ∧ ah (dK.l1 kq a0 dW eH Nh = some (r1, r2)) ∧ ah (kq ≤ k1) ∧ ah (Kd.R Kd.string 9 w' w.heap.size (fun _ => True) u4 dW) ∧ ah (Below w.heap.size w w'))
        case atStart => exact ⟨_, rs, H', ⟨Nat.le_refl _⟩, ⟨ur iP.out⟩, ⟨ul HB.out⟩⟩
        case round =>
         clear H'
         try clear nT
         try clear rY
         try clear p8
         try clear q8
         try clear hx8
         try clear c9
         try clear xU
         try clear EX
         try clear p11
         try clear q11
         try clear Vg
         try clear c12
         try clear xw
         try clear CP
         try clear p11
         try clear p8
         try clear q11
         try clear q8
         obtain ⟨Nh, rfl, HA, HK2, iP, HB⟩ := hrel
         cases gk with
         | zero => exact zz HA.out
         | succ k2 =>
          obtain ⟨H⟩ := HA
          simp only [dK.l1] at H
          replace H := sd H
          rcases H with ⟨Bo, H⟩ | ⟨Bo, H⟩
          ·
           replace H := oM H; obtain ⟨EW, H⟩ := H; replace H := bd H; obtain ⟨atV, XM, H⟩ := H; replace H := sb H
           rcases H with ⟨rfl, H⟩ | ⟨rfl, H⟩
           ·
            have H' := ak H; clear H
            obtain ⟨p23, q23, atY⟩ := bx a0 Nh
            go_wp2_with (go_at_call 135; refine mA (lu.calls XM.out) ?_; intro nd)
            go_roundg k2
            case measure => exact kl
            case rel => exact ⟨_, rs, H', ⟨kl⟩, ⟨ur iP.out⟩, ⟨ul HB.out⟩⟩
           ·
            replace H := sq H
            rcases H with ⟨MK, YW, H⟩ | ⟨c26, MK, YW, H⟩
            ·
             obtain ⟨rfl, rfl⟩ := s2 H
             obtain ⟨p23, q23, atY⟩ := bx a0 Nh
             go_wp2_with (go_at_call 135; refine mA (lu.calls XM.out) ?_; intro nd)
             go_ret2
             exact ⟨_, er, nx, ul HB.out⟩
            ·
             replace H := zK H; obtain ⟨EO, YX, H⟩ := H; replace H := zK H; obtain ⟨EP, YZ, H⟩ := H; replace H := zK H; obtain ⟨ZG, aCz, H⟩ := H; replace H := nl H; obtain ⟨atZ, H⟩ := H
             obtain ⟨aHK, akP⟩ := nm (dW ++ [a0.extract (eH : Int).toNat (Nh : Int).toNat])
             rw [← akP.out] at H
             have H' := ak H; clear H
             obtain ⟨p23, q23, atY⟩ := bx a0 Nh
             go_wp2_with (first | (go_at_call 135; refine mA (lu.calls XM.out) ?_; intro nd) | (at_builtin; refine aP 35 40 Kd.string 23 9 (.string ⟨#[]⟩) 16 Tryz.underlying23 info9 HB (ur iP.out) akP (by have := atZ.out; omega) ?_; intro aHL w31 ho hb hg hat; have at1 := ak (ho); replace HB := ak (hb); clear ho hb hg hat iP))
             go_roundg k2
             case measure => exact kl
             case rel => exact ⟨_, _, _, rs, rs, H', ⟨kl⟩, ⟨ur at1.out⟩, ⟨ul HB.out⟩⟩
          ·
           replace H := sq H
           rcases H with ⟨Vq, ac6, H⟩ | ⟨c32, Vq, ac6, H⟩
           ·
            obtain ⟨rfl, rfl⟩ := s2 H
            go_wp2
            go_ret2
            exact ⟨_, er, nx, ul HB.out⟩
           ·
            replace H := zK H; obtain ⟨Ri, ac7, H⟩ := H; replace H := zK H; obtain ⟨Vr, Vs, H⟩ := H; replace H := zK H; obtain ⟨ac8, aiJ, H⟩ := H; replace H := nl H; obtain ⟨at6, H⟩ := H
            obtain ⟨aHM, akQ⟩ := nm (dW ++ [a0.extract (eH : Int).toNat (Nh : Int).toNat])
            rw [← akQ.out] at H
            have H' := ak H; clear H
            go_wp2_with (at_builtin; refine aP 35 40 Kd.string 23 9 (.string ⟨#[]⟩) 16 Tryz.underlying23 info9 HB (ur iP.out) akQ (by have := at6.out; omega) ?_; intro aHN w37 ho hb hg hat; have at7 := ak (ho); replace HB := ak (hb); clear ho hb hg hat iP)
            go_roundg k2
            case measure => exact kl
            case rel => exact ⟨_, _, _, rs, rs, H', ⟨kl⟩, ⟨ur at7.out⟩, ⟨ul HB.out⟩⟩
      ·
       obtain ⟨rfl, rfl⟩ := s2 H
       obtain ⟨p8, q8, hx8⟩ := bx a0 eH
       go_wp2
       go_ret2
       exact ⟨_, er, nx, ul HB.out⟩
    ·
     obtain ⟨rfl, rfl⟩ := s2 H
     go_wp2
     go_ret2
     exact ⟨_, er, ur iP.out, ul HB.out⟩
 ·
  obtain ⟨rfl, rfl⟩ := s2 H
  go_enter Tryz.func94, Tryz.ntmps94
  go_wp2_with (refine gA Tryz.func89 (bC.calls A2.out) ?_; intro nd)
  go_ret2
  exact ⟨_, er, nx, ul HB.out⟩
def gJ.f (k : Nat) (a0 : ByteArray) : Option (Bool) := (jr.f k a0).bind fun aua => (if aua = true then ((iU.f a0).bind fun t193 => (some (t193.toList == a0.toList))) else (some false))
theorem gJ.calls {k : Nat} {a0 : ByteArray} {r : Bool} {w : World} (h : gJ.f k a0 = some r) :
  Calls Tryz.prog 136 #[.string a0] w fun e w' => e = .returned (.bool r) ∧ Below w.heap.size w w' := by
 have HB := ak (Below.refl w.heap.size w)
 unfold gJ.f at h; have H := h
 clear h
 replace H := bd H; obtain ⟨aua, A2, H⟩ := H; replace H := sb H
 rcases H with ⟨rfl, H⟩ | ⟨rfl, H⟩
 ·
  replace H := bd H; obtain ⟨t193, A4, H⟩ := H
  obtain rfl := s1 H
  go_enter Tryz.func136, Tryz.ntmps136
  go_wp2_with (first | (refine gA Tryz.func160 (jr.calls A2.out) ?_; intro nd) | (go_at_call 93; refine mB (iU.calls A4.out) ?_; intro w5 hb; replace HB := bs HB hb; clear hb))
  go_ret
  exact ⟨er, ul HB.out⟩
 ·
  obtain rfl := s1 H
  go_enter Tryz.func136, Tryz.ntmps136
  go_wp2_with (refine gA Tryz.func160 (jr.calls A2.out) ?_; intro nd)
  go_ret
  exact ⟨er, ul HB.out⟩
def dN.l0 : Nat → ByteArray → Int → Int → Option (Bool)
 | 0, _, _, _ => none
 | k + 1, x0, x7, x8 => if x8 < x7 then (if 0 ≤ x8 then (if x8 < (x0.size : Int) then ((lu.f (bt x0 x8)).bind fun t194 => (if t194 = true then (dN.l0 k x0 x7 (wrap64 (x8 + 1))) else (some false))) else (none)) else (none)) else (some true)
def dN.f (k : Nat) (a0 : ByteArray)  : Option (Bool) := dN.l0 k a0 (a0.size : Int) 0
theorem dN.calls {k : Nat} {a0 : ByteArray} {r : Bool} {w : World} (h : dN.f k a0 = some r) :
  Calls Tryz.prog 138 #[.string a0, .func (.func 135) #[] #[]] w fun e w' => e = .returned (.bool r) ∧ dS w w' := by
 unfold dN.f at h; have H := h
 clear h
 have H' := ak H; clear H
 go_enter Tryz.func138, Tryz.ntmps138
 go_wp2
 go_loopg [8] k (fun kq v8 w' => ∃ (kY : Int), v8 = .int .i64 kY ∧ ah (dN.l0 kq a0 (a0.size : Int) kY = some r) ∧ ah (kq ≤ k) ∧ dS w w')
 case atStart => exact ⟨_, rs, H', ⟨Nat.le_refl _⟩, dn⟩
 case round =>
  clear H'
  obtain ⟨kY, rfl, HA, xu, ⟨m1, rfl⟩⟩ := hrel
  cases gk with
  | zero => exact zz HA.out
  | succ k1 =>
   obtain ⟨H⟩ := HA
   simp only [dN.l0] at H
   replace H := sd H
   rcases H with ⟨iQ, H⟩ | ⟨iQ, H⟩
   ·
    replace H := oM H; obtain ⟨rX, H⟩ := H; replace H := oM H; obtain ⟨nR, H⟩ := H; replace H := bd H; obtain ⟨t194, A7, H⟩ := H; replace H := sb H
    rcases H with ⟨rfl, H⟩ | ⟨rfl, H⟩
    ·
     have H' := ak H; clear H
     obtain ⟨p6, q6, hx6⟩ := bx a0 kY
     go_wp2_with (go_at_call 135; refine mA (lu.calls A7.out) ?_; intro nd)
     go_roundg k1
     case measure => exact kl
     case rel => exact ⟨_, rs, H', ⟨kl⟩, dn⟩
    ·
     obtain rfl := s1 H
     obtain ⟨p6, q6, hx6⟩ := bx a0 kY
     go_wp2_with (go_at_call 135; refine mA (lu.calls A7.out) ?_; intro nd)
     go_ret
     exact ⟨rs, dn⟩
   ·
    obtain rfl := s1 H
    go_wp2
    go_ret
    exact ⟨rs, dn⟩
end Go.Proofs.YtncdadcmghglkaaGreatDoor.PFnCountParts
