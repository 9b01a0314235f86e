/- Printed walks; conditions: those in each statement. -/
import Derived.Test.YtncdadcmghglkaaGreatDoorVFnPartSameQt
import Derived.Test.YtncdadcmghglkaaGreatDoorVFnPartSameYt
import Derived.Test.YtncdadcmghglkaaGreatDoorPFnPartSamex0
import Derived.Test.YtncdadcmghglkaaGreatDoorPFnPartSamex2
import Derived.Test.YtncdadcmghglkaaGreatDoorPFnPartSamex4
import Derived.Test.YtncdadcmghglkaaGreatDoorPFnPartSamex5
-- short
-- dense
-- sq
-- sq2
namespace Go.Proofs.YtncdadcmghglkaaGreatDoor.PFnPartSame
open Go.RowKit Go.Proofs.YtncdadcmghglkaaGreatDoor.X Go.Proofs.YtncdadcmghglkaaGreatDoorW.PrintWords Go.Proofs.YtncdadcmghglkaaGreatDoorW.PrintLast Go.Proofs.YtncdadcmghglkaaGreatDoorW.PrintMore
attribute [local go_sem] max2_int min2_int max_two min_two max_three min_three max_four min_four   -- for this text's walks alone
set_option linter.unusedVariables false
set_option maxHeartbeats 8000000
set_option maxRecDepth 100000
set_option linter.unusedSimpArgs false
mutual
def impl_SplitWords.l0 : Nat → ByteArray → List ByteArray → Int → Bool → Option (List ByteArray × Bool)
 | 0, _, _, _, _ => none
 | k + 1, x0, x4, x5, x6 => if x5 < (x0.size : Int) then (if 0 ≤ x5 then (if (bt x0 x5) = 32 then (impl_SplitWords.l0 k x0 x4 (wrap64 (x5 + 1)) true) else (if x6 = true then (if (bt x0 x5) = 34 then (if x5 ≤ (x0.size : Int) then ((impl_quoted.f k (x0.extract (x5 : Int).toNat x0.size)).bind fun bt188 => (if bt188.2.2 = true then (if x4.length < 8796093022208 then (impl_SplitWords.l0 k x0 (x4 ++ [bt188.1]) (wrap64 (x5 + bt188.2.1)) false) else (none)) else (some (([] : List ByteArray), false)))) else (none)) else (impl_SplitWords.l1 k x0 x4 x5 x5)) else (some (([] : List ByteArray), false)))) else (none)) else (some (x4, true))
def impl_SplitWords.l1 : Nat → ByteArray → List ByteArray → Int → Int → Option (List ByteArray × Bool)
 | 0, _, _, _, _ => none
 | k + 1, x0, x4, x5, x10 => if x10 < (x0.size : Int) then (if 0 ≤ x10 then ((impl_isAtomByte.f (bt x0 x10)).bind fun t194 => (if t194 = true then (impl_SplitWords.l1 k x0 x4 x5 (wrap64 (x10 + 1))) else (if x10 = x5 then (some (([] : List ByteArray), false)) else (if 0 ≤ x5 then (if x5 ≤ x10 then (if x10 ≤ (x0.size : Int) then (if x4.length < 8796093022208 then (impl_SplitWords.l0 k x0 (x4 ++ [x0.extract (x5 : Int).toNat (x10 : Int).toNat]) x10 false) else (none)) else (none)) else (none)) else (none))))) else (none)) else (if x10 = x5 then (some (([] : List ByteArray), false)) else (if 0 ≤ x5 then (if x5 ≤ x10 then (if x10 ≤ (x0.size : Int) then (if x4.length < 8796093022208 then (impl_SplitWords.l0 k x0 (x4 ++ [x0.extract (x5 : Int).toNat (x10 : Int).toNat]) x10 false) else (none)) else (none)) else (none)) else (none)))
end
def impl_SplitWords.f (k : Nat) (a0 : ByteArray) : Option (List ByteArray × Bool) := (impl_TextValid.f k a0).bind fun t184 => (if t184 = true then (impl_SplitWords.l0 k a0 (([] : List ByteArray)) 0 true) else (some (([] : List ByteArray), false)))
theorem impl_SplitWords.calls {k : Nat} {a0 : ByteArray} {r1 : List ByteArray} {r2 : Bool} {w : World} (h : impl_SplitWords.f k a0 = some (r1, r2)) :
  Calls Tryz.prog 94 #[.string a0] w fun e w' => ∃ v0_ : Value, e = .returned (.tuple #[v0_, .bool r2]) ∧ Kd.R Kd.string 9 w' w.heap.size (fun _ => True) v0_ r1 ∧ Below w.heap.size w w' := by
 have HB := ak (Below.refl w.heap.size w)
 have H : ((impl_TextValid.f k a0).bind fun t184 => (if t184 = true then (impl_SplitWords.l0 k a0 (([] : List ByteArray)) 0 true) else (some (([] : List ByteArray), false)))) = some (r1, r2) := h
 clear h
 replace H := bd H; obtain ⟨t184, A2, H⟩ := H; replace H := sb H
 rcases H with ⟨rfl, H⟩ | ⟨rfl, H⟩
 ·
  obtain ⟨y185, Ny185⟩ := nm ([] : List ByteArray)
  rw [← Ny185.out] at H
  have H' := ak H; clear H
  go_enter Tryz.func94, Tryz.ntmps94
  go_wp2_with (first | (refine gA Tryz.func89 (impl_TextValid.calls A2.out) ?_; intro nd) | (refine lRN 14 Kd.string 9 Ny185 ?_; intro v186 w4 ho5 hb; have HO187 := ak (Kd.R_lower ho5 (below_size (ul HB.out))); replace HB := bs HB hb; clear hb ho5))
  go_loopg [4, 5, 6] k (fun kq v4 v5 v6 w' => ∃ (x4_1 : List ByteArray) (x5_1 : Int) (x6_1 : Bool), v5 = .int .i64 x5_1 ∧ v6 = .bool x6_1 ∧ Aside0 (impl_SplitWords.l0 kq a0 x4_1 x5_1 x6_1 = some (r1, r2)) ∧ Aside0 (kq ≤ k) ∧ Aside0 (Kd.R Kd.string 9 w' w.heap.size (fun _ => True) v4 x4_1) ∧ Aside0 (Below w.heap.size w w'))
  case atStart => exact ⟨_, _, _, rs, rs, H', ⟨Nat.le_refl _⟩, ⟨ur HO187.out⟩, ⟨ul HB.out⟩⟩
  case round =>
   clear H'
   obtain ⟨x4_1, x5_1, x6_1, rfl, rfl, HA, HK1, HO_4, HB⟩ := hrel
   cases gk with
   | zero => exact zz HA.out
   | succ k1 =>
    obtain ⟨H⟩ := HA
    simp only [impl_SplitWords.l0] at H
    replace H := sd H
    rcases H with ⟨c6b0, H⟩ | ⟨c6b0, H⟩
    ·
     replace H := nde H; obtain ⟨c7b0, H⟩ := H; replace H := sq H
     rcases H with ⟨c9b0, c9b1, H⟩ | ⟨c9, c9b0, c9b1, H⟩
     ·
      have H' := ak H; clear H
      obtain ⟨p8, q8, hx8⟩ := bx a0 x5_1
      go_wp2
      go_roundg k1
      case measure => exact kl
      case rel => exact ⟨_, _, _, rs, rs, H', ⟨kl⟩, ⟨ur HO_4.out⟩, ⟨ul HB.out⟩⟩
     ·
      replace H := sb H
      rcases H with ⟨rfl, H⟩ | ⟨rfl, H⟩
      ·
       replace H := sq H
       rcases H with ⟨c12b0, c12b1, H⟩ | ⟨c12, c12b0, c12b1, H⟩
       ·
        have c13b0 := eq_true (of_decide_eq_true (by assumption) : 0 ≤ x5_1)
        replace H := ne_ H; obtain ⟨c14b0, c14b1, H⟩ := H; replace H := bd H
        obtain ⟨⟨t188, t189, t190⟩, A15, H⟩ := H
        (try dsimp only at H)
        replace H := sb H
        rcases H with ⟨rfl, H⟩ | ⟨rfl, H⟩
        ·
         replace H := nl H; obtain ⟨LMc17, H⟩ := H
         obtain ⟨y191, Ny191⟩ := nm (x4_1 ++ [t188])
         rw [← Ny191.out] at H
         have H' := ak H; clear H
         obtain ⟨p8, q8, hx8⟩ := bx a0 x5_1
         obtain ⟨p11, q11, hx11⟩ := bx a0 x5_1
         go_wp2_with (first | (refine gB Tryz.func134 (impl_quoted.calls A15.out) ?_; intro w18 hb; replace HO_4 := rb HO_4 hb; replace HB := bs HB hb; clear hb) | (at_builtin; refine aP 68 70 Kd.string 23 9 (.string ⟨#[]⟩) 16 Tryz.underlying23 info9 HB (ur HO_4.out) Ny191 (by have := LMc17.out; omega) ?_; intro v192 w19 ho hb hg hat; have HO193 := ak (ho); replace HB := ak (hb); clear ho hb hg hat HO_4))
         go_roundg k1
         case measure => exact kl
         case rel => exact ⟨_, _, _, rs, rs, H', ⟨kl⟩, ⟨ur HO193.out⟩, ⟨ul HB.out⟩⟩
        ·
         obtain ⟨rfl, rfl⟩ := s2 H
         obtain ⟨p8, q8, hx8⟩ := bx a0 x5_1
         obtain ⟨p11, q11, hx11⟩ := bx a0 x5_1
         go_wp2_with (refine gB Tryz.func134 (impl_quoted.calls A15.out) ?_; intro w20 hb; replace HO_4 := rb HO_4 hb; replace HB := bs HB hb; clear hb)
         go_ret2
         exact ⟨_, er, nx, ul HB.out⟩
       ·
        have H' := ak H; clear H
        obtain ⟨p8, q8, hx8⟩ := bx a0 x5_1
        obtain ⟨p11, q11, hx11⟩ := bx a0 x5_1
        go_wp2
        go_loopg [10] k1 (fun kq v10 w' => ∃ (x10_2 : Int), v10 = .int .i64 x10_2 ∧ Aside0 (impl_SplitWords.l1 kq a0 x4_1 x5_1 x10_2 = some (r1, r2)) ∧ Aside0 (kq ≤ k1) ∧ Aside0 (Kd.R Kd.string 9 w' w.heap.size (fun _ => True) u4 x4_1) ∧ Aside0 (Below w.heap.size w w'))
        case atStart => exact ⟨_, rs, H', ⟨Nat.le_refl _⟩, ⟨ur HO_4.out⟩, ⟨ul HB.out⟩⟩
        case round =>
         clear H'
         try clear c6b0
         try clear c7b0
         try clear p8
         try clear q8
         try clear hx8
         try clear c9
         try clear c9b0
         try clear c9b1
         try clear p11
         try clear q11
         try clear hx11
         try clear c12
         try clear c12b0
         try clear c12b1
         try clear p11
         try clear p8
         try clear q11
         try clear q8
         obtain ⟨x10_2, rfl, HA, HK2, HO_4, HB⟩ := hrel
         cases gk with
         | zero => exact zz HA.out
         | succ k2 =>
          obtain ⟨H⟩ := HA
          simp only [impl_SplitWords.l1] at H
          replace H := sd H
          rcases H with ⟨c21b0, H⟩ | ⟨c21b0, H⟩
          ·
           replace H := nde H; obtain ⟨c22b0, H⟩ := H; replace H := bd H; obtain ⟨t194, A24, H⟩ := H; replace H := sb H
           rcases H with ⟨rfl, H⟩ | ⟨rfl, H⟩
           ·
            have H' := ak H; clear H
            obtain ⟨p23, q23, hx23⟩ := bx a0 x10_2
            go_wp2_with (go_at_call 135; refine mA (impl_isAtomByte.calls A24.out) ?_; intro nd)
            go_roundg k2
            case measure => exact kl
            case rel => exact ⟨_, rs, H', ⟨kl⟩, ⟨ur HO_4.out⟩, ⟨ul HB.out⟩⟩
           ·
            replace H := sq H
            rcases H with ⟨c26b0, c26b1, H⟩ | ⟨c26, c26b0, c26b1, H⟩
            ·
             obtain ⟨rfl, rfl⟩ := s2 H
             obtain ⟨p23, q23, hx23⟩ := bx a0 x10_2
             go_wp2_with (go_at_call 135; refine mA (impl_isAtomByte.calls A24.out) ?_; intro nd)
             go_ret2
             exact ⟨_, er, nx, ul HB.out⟩
            ·
             replace H := ne_ H; obtain ⟨c27b0, c27b1, H⟩ := H; replace H := ne_ H; obtain ⟨c28b0, c28b1, H⟩ := H; replace H := ne_ H; obtain ⟨c29b0, c29b1, H⟩ := H; replace H := nl H; obtain ⟨LMc30, H⟩ := H
             obtain ⟨y195, Ny195⟩ := nm (x4_1 ++ [a0.extract (x5_1 : Int).toNat (x10_2 : Int).toNat])
             rw [← Ny195.out] at H
             have H' := ak H; clear H
             obtain ⟨p23, q23, hx23⟩ := bx a0 x10_2
             go_wp2_with (first | (go_at_call 135; refine mA (impl_isAtomByte.calls A24.out) ?_; intro nd) | (at_builtin; refine aP 35 40 Kd.string 23 9 (.string ⟨#[]⟩) 16 Tryz.underlying23 info9 HB (ur HO_4.out) Ny195 (by have := LMc30.out; omega) ?_; intro v196 w31 ho hb hg hat; have HO197 := ak (ho); replace HB := ak (hb); clear ho hb hg hat HO_4))
             go_roundg k2
             case measure => exact kl
             case rel => exact ⟨_, _, _, rs, rs, H', ⟨kl⟩, ⟨ur HO197.out⟩, ⟨ul HB.out⟩⟩
          ·
           replace H := sq H
           rcases H with ⟨c32b0, c32b1, H⟩ | ⟨c32, c32b0, c32b1, H⟩
           ·
            obtain ⟨rfl, rfl⟩ := s2 H
            go_wp2
            go_ret2
            exact ⟨_, er, nx, ul HB.out⟩
           ·
            replace H := ne_ H; obtain ⟨c33b0, c33b1, H⟩ := H; replace H := ne_ H; obtain ⟨c34b0, c34b1, H⟩ := H; replace H := ne_ H; obtain ⟨c35b0, c35b1, H⟩ := H; replace H := nl H; obtain ⟨LMc36, H⟩ := H
            obtain ⟨y198, Ny198⟩ := nm (x4_1 ++ [a0.extract (x5_1 : Int).toNat (x10_2 : Int).toNat])
            rw [← Ny198.out] at H
            have H' := ak H; clear H
            go_wp2_with (at_builtin; refine aP 35 40 Kd.string 23 9 (.string ⟨#[]⟩) 16 Tryz.underlying23 info9 HB (ur HO_4.out) Ny198 (by have := LMc36.out; omega) ?_; intro v199 w37 ho hb hg hat; have HO200 := ak (ho); replace HB := ak (hb); clear ho hb hg hat HO_4)
            go_roundg k2
            case measure => exact kl
            case rel => exact ⟨_, _, _, rs, rs, H', ⟨kl⟩, ⟨ur HO200.out⟩, ⟨ul HB.out⟩⟩
      ·
       obtain ⟨rfl, rfl⟩ := s2 H
       obtain ⟨p8, q8, hx8⟩ := bx a0 x5_1
       go_wp2
       go_ret2
       exact ⟨_, er, nx, ul HB.out⟩
    ·
     obtain ⟨rfl, rfl⟩ := s2 H
     go_wp2
     go_ret2
     exact ⟨_, er, ur HO_4.out, ul HB.out⟩
 ·
  obtain ⟨rfl, rfl⟩ := s2 H
  go_enter Tryz.func94, Tryz.ntmps94
  go_wp2_with (refine gA Tryz.func89 (impl_TextValid.calls A2.out) ?_; intro nd)
  go_ret2
  exact ⟨_, er, nx, ul HB.out⟩
def impl_isSmallName.f (k : Nat) (a0 : ByteArray) : Option (Bool) := (impl_isName.f k a0).bind fun t201 => (if t201 = true then ((impl_LowerText.f a0).bind fun t202 => (some (t202.toList == a0.toList))) else (some false))
theorem impl_isSmallName.calls {k : Nat} {a0 : ByteArray} {r : Bool} {w : World} (h : impl_isSmallName.f k a0 = some r) :
  Calls Tryz.prog 136 #[.string a0] w fun e w' => e = .returned (.bool r) ∧ Below w.heap.size w w' := by
 have HB := ak (Below.refl w.heap.size w)
 have H : ((impl_isName.f k a0).bind fun t201 => (if t201 = true then ((impl_LowerText.f a0).bind fun t202 => (some (t202.toList == a0.toList))) else (some false))) = some r := h
 clear h
 replace H := bd H; obtain ⟨t201, A2, H⟩ := H; replace H := sb H
 rcases H with ⟨rfl, H⟩ | ⟨rfl, H⟩
 ·
  replace H := bd H; obtain ⟨t202, A4, H⟩ := H
  obtain rfl := s1 H
  go_enter Tryz.func136, Tryz.ntmps136
  go_wp2_with (first | (refine gA Tryz.func160 (impl_isName.calls A2.out) ?_; intro nd) | (go_at_call 93; refine mB (impl_LowerText.calls A4.out) ?_; intro w5 hb; replace HB := bs HB hb; clear hb))
  go_ret
  exact ⟨er, ul HB.out⟩
 ·
  obtain rfl := s1 H
  go_enter Tryz.func136, Tryz.ntmps136
  go_wp2_with (refine gA Tryz.func160 (impl_isName.calls A2.out) ?_; intro nd)
  go_ret
  exact ⟨er, ul HB.out⟩
def impl_allBytes_isAtomByte.l0 : Nat → ByteArray → Int → Int → Option (Bool)
 | 0, _, _, _ => none
 | k + 1, x0, x7, x8 => if x8 < x7 then (if 0 ≤ x8 then (if x8 < (x0.size : Int) then ((impl_isAtomByte.f (bt x0 x8)).bind fun t203 => (if t203 = true then (impl_allBytes_isAtomByte.l0 k x0 x7 (wrap64 (x8 + 1))) else (some false))) else (none)) else (none)) else (some true)
def impl_allBytes_isAtomByte.f (k : Nat) (a0 : ByteArray)  : Option (Bool) := impl_allBytes_isAtomByte.l0 k a0 (a0.size : Int) 0
theorem impl_allBytes_isAtomByte.calls {k : Nat} {a0 : ByteArray} {r : Bool} {w : World} (h : impl_allBytes_isAtomByte.f k a0 = some r) :
  Calls Tryz.prog 138 #[.string a0, .func (.func 135) #[] #[]] w fun e w' => e = .returned (.bool r) ∧ Drawn0 w w' := by
 have H : (impl_allBytes_isAtomByte.l0 k a0 (a0.size : Int) 0) = some r := h
 clear h
 have H' := ak H; clear H
 go_enter Tryz.func138, Tryz.ntmps138
 go_wp2
 go_loopg [8] k (fun kq v8 w' => ∃ (x8_1 : Int), v8 = .int .i64 x8_1 ∧ Aside0 (impl_allBytes_isAtomByte.l0 kq a0 (a0.size : Int) x8_1 = some r) ∧ Aside0 (kq ≤ k) ∧ Drawn0 w w')
 case atStart => exact ⟨_, rs, H', ⟨Nat.le_refl _⟩, dn⟩
 case round =>
  clear H'
  obtain ⟨x8_1, rfl, HA, HK1, ⟨m1, rfl⟩⟩ := hrel
  cases gk with
  | zero => exact zz HA.out
  | succ k1 =>
   obtain ⟨H⟩ := HA
   simp only [impl_allBytes_isAtomByte.l0] at H
   replace H := sd H
   rcases H with ⟨c3b0, H⟩ | ⟨c3b0, H⟩
   ·
    replace H := nde H; obtain ⟨c4b0, H⟩ := H; replace H := nde H; obtain ⟨c5b0, H⟩ := H; replace H := bd H; obtain ⟨t203, A7, H⟩ := H; replace H := sb H
    rcases H with ⟨rfl, H⟩ | ⟨rfl, H⟩
    ·
     have H' := ak H; clear H
     obtain ⟨p6, q6, hx6⟩ := bx a0 x8_1
     go_wp2_with (go_at_call 135; refine mA (impl_isAtomByte.calls A7.out) ?_; intro nd)
     go_roundg k1
     case measure => exact kl
     case rel => exact ⟨_, rs, H', ⟨kl⟩, dn⟩
    ·
     obtain rfl := s1 H
     obtain ⟨p6, q6, hx6⟩ := bx a0 x8_1
     go_wp2_with (go_at_call 135; refine mA (impl_isAtomByte.calls A7.out) ?_; intro nd)
     go_ret
     exact ⟨rs, dn⟩
   ·
    obtain rfl := s1 H
    go_wp2
    go_ret
    exact ⟨rs, dn⟩
def impl_AtomValid.f (k : Nat) (a0 : ByteArray) : Option (Bool) := if (a0.size : Int) ≥ 1 then (if (a0.size : Int) ≤ 40 then ((impl_allBytes_isAtomByte.f k a0).bind fun t204 => (some t204)) else (some false)) else (some false)
theorem impl_AtomValid.calls {k : Nat} {a0 : ByteArray} {r : Bool} {w : World} (h : impl_AtomValid.f k a0 = some r) :
  Calls Tryz.prog 193 #[.string a0] w fun e w' => e = .returned (.bool r) ∧ Drawn0 w w' := by
 have H : (if (a0.size : Int) ≥ 1 then (if (a0.size : Int) ≤ 40 then ((impl_allBytes_isAtomByte.f k a0).bind fun t204 => (some t204)) else (some false)) else (some false)) = some r := h
 clear h
 replace H := sp H
 rcases H with ⟨c2, H⟩ | ⟨c2, H⟩
 ·
  have c2b0 : decide (1 ≤ (a0.size : Int)) = true := decide_eq_true c2
  have c2b1 : decide (1 ≤ a0.size) = true := decide_eq_true (by omega)
  clear c2
  replace H := sp H
  rcases H with ⟨c3, H⟩ | ⟨c3, H⟩
  ·
   have c3b0 := decide_eq_true c3
   have c3b1 : decide (a0.size ≤ 40) = true := decide_eq_true (by omega)
   clear c3
   replace H := bd H; obtain ⟨t204, A4, H⟩ := H
   obtain rfl := s1 H
   go_enter Tryz.func193, Tryz.ntmps193
   go_wp2_with (go_at_call 138; refine mA (impl_allBytes_isAtomByte.calls A4.out) ?_; intro nd)
   go_ret
   exact ⟨rs, dn⟩
  ·
   have c3b0 := decide_eq_false c3
   have c3b1 : decide (a0.size ≤ 40) = false := decide_eq_false (by omega)
   clear c3
   obtain rfl := s1 H
   go_enter Tryz.func193, Tryz.ntmps193
   go_wp2
   go_ret
   exact ⟨rs, dn⟩
 ·
  have c2b0 : decide (1 ≤ (a0.size : Int)) = false := decide_eq_false c2
  have c2b1 : decide (1 ≤ a0.size) = false := decide_eq_false (by omega)
  clear c2
  obtain rfl := s1 H
  go_enter Tryz.func193, Tryz.ntmps193
  go_wp2
  go_ret
  exact ⟨rs, dn⟩
def impl_QuoteWord.l0 : Nat → ByteArray → List Int → Int → Int → Option (ByteArray)
 | 0, _, _, _, _ => none
 | k + 1, x0, x3, x15, x16 => if x16 < x15 then (if 0 ≤ x16 then (if x16 < (x0.size : Int) then (if (bt x0 x16) = 34 then (if x3.length < 140737488355328 then ((some (x3 ++ [92] : List Int)).bind fun y210 => (if y210.length < 140737488355328 then (impl_QuoteWord.l0 k x0 (y210 ++ [bt x0 x16]) x15 (wrap64 (x16 + 1))) else (none))) else (none)) else (if (bt x0 x16) = 92 then (if x3.length < 140737488355328 then ((some (x3 ++ [92] : List Int)).bind fun y216 => (if y216.length < 140737488355328 then (impl_QuoteWord.l0 k x0 (y216 ++ [bt x0 x16]) x15 (wrap64 (x16 + 1))) else (none))) else (none)) else (if x3.length < 140737488355328 then (impl_QuoteWord.l0 k x0 (x3 ++ [bt x0 x16]) x15 (wrap64 (x16 + 1))) else (none)))) else (none)) else (none)) else (if x3.length < 140737488355328 then (some (strOfNums (x3 ++ [34]))) else (none))
def impl_QuoteWord.f (k : Nat) (a0 : ByteArray) : Option (ByteArray) := (impl_TextValid.f k a0).bind fun t205 => (if t205 = true then ((impl_AtomValid.f k a0).bind fun t206 => (if t206 = true then (some a0) else (impl_QuoteWord.l0 k a0 (([34] : List Int)) (a0.size : Int) 0))) else (some (⟨#[]⟩ : ByteArray)))
theorem impl_QuoteWord.calls {k : Nat} {a0 r : ByteArray} {w : World} (h : impl_QuoteWord.f k a0 = some r) :
  Calls Tryz.prog 166 #[.string a0] w fun e w' => e = .returned (.string r) ∧ Below w.heap.size w w' := by
 have HB := ak (Below.refl w.heap.size w)
 have H : ((impl_TextValid.f k a0).bind fun t205 => (if t205 = true then ((impl_AtomValid.f k a0).bind fun t206 => (if t206 = true then (some a0) else (impl_QuoteWord.l0 k a0 (([34] : List Int)) (a0.size : Int) 0))) else (some (⟨#[]⟩ : ByteArray)))) = some r := h
 clear h
 replace H := bd H; obtain ⟨t205, A2, H⟩ := H; replace H := sb H
 rcases H with ⟨rfl, H⟩ | ⟨rfl, H⟩
 ·
  replace H := bd H; obtain ⟨t206, A4, H⟩ := H; replace H := sb H
  rcases H with ⟨rfl, H⟩ | ⟨rfl, H⟩
  ·
   obtain rfl := s1 H
   go_enter Tryz.func166, Tryz.ntmps166
   go_wp2_with (first | (refine gA Tryz.func89 (impl_TextValid.calls A2.out) ?_; intro nd) | (refine gA Tryz.func193 (impl_AtomValid.calls A4.out) ?_; intro nd))
   go_ret
   exact ⟨er, ul HB.out⟩
  ·
   obtain ⟨y207, Ny207⟩ := nm ([34] : List Int)
   rw [← Ny207.out] at H
   have H' := ak H; clear H
   go_enter Tryz.func166, Tryz.ntmps166
   go_wp2_with (first | (refine gA Tryz.func89 (impl_TextValid.calls A2.out) ?_; intro nd) | (refine gA Tryz.func193 (impl_AtomValid.calls A4.out) ?_; intro nd) | (refine lRM 13 (Kd.int .u8) 5 [.int .u8 34] Ny207 (Reps.one (show Kd.M (Kd.int .u8) _ _ _ 34 [.int .u8 34] from rfl) (Reps.none _ _)) ?_; intro v208 w6 ho7 hb; have HO209 := ak (Kd.R_lower ho7 (below_size (ul HB.out))); replace HB := bs HB hb; clear hb ho7))
   go_loopg [3, 16] k (fun kq v3 v16 w' => ∃ (x3_1 : List Int) (x16_1 : Int), v16 = .int .i64 x16_1 ∧ Aside0 (impl_QuoteWord.l0 kq a0 x3_1 (a0.size : Int) x16_1 = some r) ∧ Aside0 (kq ≤ k) ∧ Aside0 (Kd.R (Kd.int .u8) 5 w' w.heap.size (fun _ => True) v3 x3_1) ∧ Aside0 (Below w.heap.size w w'))
   case atStart => exact ⟨_, _, rs, H', ⟨Nat.le_refl _⟩, ⟨ur HO209.out⟩, ⟨ul HB.out⟩⟩
   case round =>
    clear H'
    obtain ⟨x3_1, x16_1, rfl, HA, HK1, HO_3, HB⟩ := hrel
    cases gk with
    | zero => exact zz HA.out
    | succ k1 =>
     obtain ⟨H⟩ := HA
     simp only [impl_QuoteWord.l0] at H
     replace H := sd H
     rcases H with ⟨c8b0, H⟩ | ⟨c8b0, H⟩
     ·
      replace H := nde H; obtain ⟨c9b0, H⟩ := H; replace H := nde H; obtain ⟨c10b0, H⟩ := H; replace H := sq H
      rcases H with ⟨c12b0, c12b1, H⟩ | ⟨c12, c12b0, c12b1, H⟩
      ·
       replace H := nl H; obtain ⟨LMc13, H⟩ := H
       replace H := ny H
       obtain ⟨y210, Ny210, H⟩ := H
       replace H := nl H; obtain ⟨LMc15, H⟩ := H
       obtain ⟨y213, Ny213⟩ := nm (y210 ++ [bt a0 x16_1])
       rw [← Ny213.out] at H
       have H' := ak H; clear H
       obtain ⟨p11, q11, hx11⟩ := bx a0 x16_1
       go_wp2_with (first | (at_builtin; refine aP 29 30 (Kd.int .u8) 22 5 (.int .u8 0) 1 Tryz.underlying22 info5 HB (ur HO_3.out) Ny210 (by have := LMc13.out; omega) ?_; intro v211 w16 ho hb hg hat; have HO212 := ak (ho); replace HB := ak (hb); clear ho hb hg hat HO_3; have p14 : 0 ≤ (x16_1 : Int) := of_decide_eq_true (by assumption); have q14 : x16_1 < (a0.size : Int) := of_decide_eq_true (by assumption); have hx14 := bt_at a0 x16_1; replace p14 := eq_true p14; replace q14 := eq_true q14) | (at_builtin; refine aP 32 36 (Kd.int .u8) 22 5 (.int .u8 0) 1 Tryz.underlying22 info5 HB (ur HO212.out) Ny213 (by have := LMc15.out; omega) ?_; intro v214 w17 ho hb hg hat; have HO215 := ak (ho); replace HB := ak (hb); clear ho hb hg hat HO212))
       go_roundg k1
       case measure => exact kl
       case rel => exact ⟨_, _, rs, H', ⟨kl⟩, ⟨ur HO215.out⟩, ⟨ul HB.out⟩⟩
      ·
       replace H := sq H
       rcases H with ⟨c19b0, c19b1, H⟩ | ⟨c19, c19b0, c19b1, H⟩
       ·
        replace H := nl H; obtain ⟨LMc20, H⟩ := H
        replace H := ny H
        obtain ⟨y216, Ny216, H⟩ := H
        replace H := nl H; obtain ⟨LMc22, H⟩ := H
        obtain ⟨y219, Ny219⟩ := nm (y216 ++ [bt a0 x16_1])
        rw [← Ny219.out] at H
        have H' := ak H; clear H
        obtain ⟨p11, q11, hx11⟩ := bx a0 x16_1
        obtain ⟨p18, q18, hx18⟩ := bx a0 x16_1
        go_wp2_with (first | (at_builtin; refine aP 29 30 (Kd.int .u8) 22 5 (.int .u8 0) 1 Tryz.underlying22 info5 HB (ur HO_3.out) Ny216 (by have := LMc20.out; omega) ?_; intro v217 w23 ho hb hg hat; have HO218 := ak (ho); replace HB := ak (hb); clear ho hb hg hat HO_3; have p21 : 0 ≤ (x16_1 : Int) := of_decide_eq_true (by assumption); have q21 : x16_1 < (a0.size : Int) := of_decide_eq_true (by assumption); have hx21 := bt_at a0 x16_1; replace p21 := eq_true p21; replace q21 := eq_true q21) | (at_builtin; refine aP 32 36 (Kd.int .u8) 22 5 (.int .u8 0) 1 Tryz.underlying22 info5 HB (ur HO218.out) Ny219 (by have := LMc22.out; omega) ?_; intro v220 w24 ho hb hg hat; have HO221 := ak (ho); replace HB := ak (hb); clear ho hb hg hat HO218))
        go_roundg k1
        case measure => exact kl
        case rel => exact ⟨_, _, rs, H', ⟨kl⟩, ⟨ur HO221.out⟩, ⟨ul HB.out⟩⟩
       ·
        replace H := nl H; obtain ⟨LMc26, H⟩ := H
        obtain ⟨y222, Ny222⟩ := nm (x3_1 ++ [bt a0 x16_1])
        rw [← Ny222.out] at H
        have H' := ak H; clear H
        obtain ⟨p11, q11, hx11⟩ := bx a0 x16_1
        obtain ⟨p18, q18, hx18⟩ := bx a0 x16_1
        obtain ⟨p25, q25, hx25⟩ := bx a0 x16_1
        go_wp2_with (at_builtin; refine aP 32 36 (Kd.int .u8) 22 5 (.int .u8 0) 1 Tryz.underlying22 info5 HB (ur HO_3.out) Ny222 (by have := LMc26.out; omega) ?_; intro v223 w27 ho hb hg hat; have HO224 := ak (ho); replace HB := ak (hb); clear ho hb hg hat HO_3)
        go_roundg k1
        case measure => exact kl
        case rel => exact ⟨_, _, rs, H', ⟨kl⟩, ⟨ur HO224.out⟩, ⟨ul HB.out⟩⟩
     ·
      replace H := nl H; obtain ⟨LMc28, H⟩ := H
      obtain ⟨y225, Ny225⟩ := nm (x3_1 ++ [34])
      rw [← Ny225.out] at H
      obtain rfl := s1 H
      go_wp2_with (at_builtin; refine aP 39 40 (Kd.int .u8) 22 5 (.int .u8 0) 1 Tryz.underlying22 info5 HB (ur HO_3.out) Ny225 (by have := LMc28.out; omega) ?_; intro v226 w29 ho hb hg hat; have HO227 := ak (ho); replace HB := ak (hb); clear ho hb hg hat HO_3; have hcv30 := own_string (P := Tryz.prog) Tryz.underlying22 Tryz.underlying5 Tryz.underlying9 (Kd.own_of_R HO227.out))
      go_ret
      exact ⟨er, ul HB.out⟩
 ·
  obtain rfl := s1 H
  go_enter Tryz.func166, Tryz.ntmps166
  go_wp2_with (refine gA Tryz.func89 (impl_TextValid.calls A2.out) ?_; intro nd)
  go_ret
  exact ⟨er, ul HB.out⟩
end Go.Proofs.YtncdadcmghglkaaGreatDoor.PFnPartSame
