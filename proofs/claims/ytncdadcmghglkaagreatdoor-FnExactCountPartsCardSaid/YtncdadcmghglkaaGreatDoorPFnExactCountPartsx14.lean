/- Printed walks; conditions: those in each statement. -/
import Derived.Test.YtncdadcmghglkaaGreatDoorVFnExactCountPartsQt
import Derived.Test.YtncdadcmghglkaaGreatDoorVFnExactCountPartsYt
import Derived.Test.YtncdadcmghglkaaGreatDoorPFnExactCountPartsx0
import Derived.Test.YtncdadcmghglkaaGreatDoorPFnExactCountPartsx11
import Derived.Test.YtncdadcmghglkaaGreatDoorPFnExactCountPartsx12
import Derived.Test.YtncdadcmghglkaaGreatDoorPFnExactCountPartsx13
-- short
-- dense
-- sq
namespace Go.Proofs.YtncdadcmghglkaaGreatDoor.PFnExactCountParts
open Go.RowKit Go.Proofs.YtncdadcmghglkaaGreatDoor.X Go.Proofs.YtncdadcmghglkaaGreatDoorW.PrintWords Go.Proofs.YtncdadcmghglkaaGreatDoorW.PrintLast Go.Proofs.YtncdadcmghglkaaGreatDoorW.PrintMore
attribute [local go_sem] max2_int min2_int max_two min_two max_three min_three max_four min_four   -- for this text's walks alone
set_option linter.unusedVariables false
set_option linter.unusedSimpArgs false
def impl_isAtomByte.f (a0 : Int) : Option (Bool) := (impl_isLetter.f a0).bind fun t449 => (if t449 = true then (some true) else ((impl_isDigit.f a0).bind fun t450 => (if t450 = true then (some true) else (if a0 = 33 then (some true) else (if a0 ≥ 35 then (if a0 ≤ 39 then (some true) else (if a0 = 42 then (some true) else (if a0 = 43 then (some true) else (if a0 = 45 then (some true) else (if a0 = 47 then (some true) else (if a0 = 61 then (some true) else (if a0 = 63 then (some true) else (if a0 ≥ 94 then (if a0 ≤ 96 then (some true) else (if a0 ≥ 123 then (some (decide (a0 ≤ 126))) else (some false))) else (if a0 ≥ 123 then (some (decide (a0 ≤ 126))) else (some false)))))))))) else (if a0 = 42 then (some true) else (if a0 = 43 then (some true) else (if a0 = 45 then (some true) else (if a0 = 47 then (some true) else (if a0 = 61 then (some true) else (if a0 = 63 then (some true) else (if a0 ≥ 94 then (if a0 ≤ 96 then (some true) else (if a0 ≥ 123 then (some (decide (a0 ≤ 126))) else (some false))) else (if a0 ≥ 123 then (some (decide (a0 ≤ 126))) else (some false))))))))))))))
set_option maxHeartbeats 8000000 in
set_option maxRecDepth 100000 in
theorem impl_isAtomByte.calls (a0 : Int) (r : Bool) (w : World) (h : impl_isAtomByte.f a0 = some r) :
  Calls Tryz.prog 135 #[.int .u8 a0] w fun e w' => e = .returned (.bool r) ∧ Drawn0 w w' := by
 have H : ((impl_isLetter.f a0).bind fun t449 => (if t449 = true then (some true) else ((impl_isDigit.f a0).bind fun t450 => (if t450 = true then (some true) else (if a0 = 33 then (some true) else (if a0 ≥ 35 then (if a0 ≤ 39 then (some true) else (if a0 = 42 then (some true) else (if a0 = 43 then (some true) else (if a0 = 45 then (some true) else (if a0 = 47 then (some true) else (if a0 = 61 then (some true) else (if a0 = 63 then (some true) else (if a0 ≥ 94 then (if a0 ≤ 96 then (some true) else (if a0 ≥ 123 then (some (decide (a0 ≤ 126))) else (some false))) else (if a0 ≥ 123 then (some (decide (a0 ≤ 126))) else (some false)))))))))) else (if a0 = 42 then (some true) else (if a0 = 43 then (some true) else (if a0 = 45 then (some true) else (if a0 = 47 then (some true) else (if a0 = 61 then (some true) else (if a0 = 63 then (some true) else (if a0 ≥ 94 then (if a0 ≤ 96 then (some true) else (if a0 ≥ 123 then (some (decide (a0 ≤ 126))) else (some false))) else (if a0 ≥ 123 then (some (decide (a0 ≤ 126))) else (some false))))))))))))))) = some r := h
 clear h
 replace H := bd H; obtain ⟨t449, A2, H⟩ := H; replace H := sb H
 rcases H with ⟨rfl, H⟩ | ⟨rfl, H⟩
 ·
  obtain rfl := Option.some.inj H
  go_enter Tryz.func135, Tryz.ntmps135
  go_wp2_with (first | (refine gL 140 4 Tryz.func140 #[.int .u8 a0] ?_; (with_reducible refine (impl_isLetter.calls a0 true _ A2.out).mono ?_); rintro e w' ⟨rfl, ⟨nd, rfl⟩⟩; refine ⟨_, rfl, ?_⟩))
  go_ret
  exact ⟨rs, dn⟩
 ·
  replace H := bd H; obtain ⟨t450, A4, H⟩ := H; replace H := sb H
  rcases H with ⟨rfl, H⟩ | ⟨rfl, H⟩
  ·
   obtain rfl := Option.some.inj H
   go_enter Tryz.func135, Tryz.ntmps135
   go_wp2_with (first | (refine gL 140 4 Tryz.func140 #[.int .u8 a0] ?_; (with_reducible refine (impl_isLetter.calls a0 false _ A2.out).mono ?_); rintro e w' ⟨rfl, ⟨nd, rfl⟩⟩; refine ⟨_, rfl, ?_⟩) | (go_at_call 141; (with_reducible refine (impl_isDigit.calls a0 true _ A4.out).mono ?_); rintro e w' ⟨rfl, ⟨nd, rfl⟩⟩))
   go_ret
   exact ⟨rs, dn⟩
  ·
   replace H := sq H
   rcases H with ⟨c6b0, c6b1, H⟩ | ⟨c6, c6b0, c6b1, H⟩
   ·
    obtain rfl := Option.some.inj H
    go_enter Tryz.func135, Tryz.ntmps135
    go_wp2_with (first | (refine gL 140 4 Tryz.func140 #[.int .u8 a0] ?_; (with_reducible refine (impl_isLetter.calls a0 false _ A2.out).mono ?_); rintro e w' ⟨rfl, ⟨nd, rfl⟩⟩; refine ⟨_, rfl, ?_⟩) | (go_at_call 141; (with_reducible refine (impl_isDigit.calls a0 false _ A4.out).mono ?_); rintro e w' ⟨rfl, ⟨nd, rfl⟩⟩))
    go_ret
    exact ⟨rs, dn⟩
   ·
    replace H := sp H
    rcases H with ⟨c7, H⟩ | ⟨c7, H⟩
    ·
     have c7b0 : decide (35 ≤ a0) = true := decide_eq_true c7
     clear c7
     replace H := sd H
     rcases H with ⟨c8b0, H⟩ | ⟨c8b0, H⟩
     ·
      obtain rfl := Option.some.inj H
      go_enter Tryz.func135, Tryz.ntmps135
      go_wp2_with (first | (refine gL 140 4 Tryz.func140 #[.int .u8 a0] ?_; (with_reducible refine (impl_isLetter.calls a0 false _ A2.out).mono ?_); rintro e w' ⟨rfl, ⟨nd, rfl⟩⟩; refine ⟨_, rfl, ?_⟩) | (go_at_call 141; (with_reducible refine (impl_isDigit.calls a0 false _ A4.out).mono ?_); rintro e w' ⟨rfl, ⟨nd, rfl⟩⟩))
      go_ret
      exact ⟨rs, dn⟩
     ·
      replace H := sq H
      rcases H with ⟨c9b0, c9b1, H⟩ | ⟨c9, c9b0, c9b1, H⟩
      ·
       obtain rfl := Option.some.inj H
       go_enter Tryz.func135, Tryz.ntmps135
       go_wp2_with (first | (refine gL 140 4 Tryz.func140 #[.int .u8 a0] ?_; (with_reducible refine (impl_isLetter.calls a0 false _ A2.out).mono ?_); rintro e w' ⟨rfl, ⟨nd, rfl⟩⟩; refine ⟨_, rfl, ?_⟩) | (go_at_call 141; (with_reducible refine (impl_isDigit.calls a0 false _ A4.out).mono ?_); rintro e w' ⟨rfl, ⟨nd, rfl⟩⟩))
       go_ret
       exact ⟨rs, dn⟩
      ·
       replace H := sq H
       rcases H with ⟨c10b0, c10b1, H⟩ | ⟨c10, c10b0, c10b1, H⟩
       ·
        obtain rfl := Option.some.inj H
        go_enter Tryz.func135, Tryz.ntmps135
        go_wp2_with (first | (refine gL 140 4 Tryz.func140 #[.int .u8 a0] ?_; (with_reducible refine (impl_isLetter.calls a0 false _ A2.out).mono ?_); rintro e w' ⟨rfl, ⟨nd, rfl⟩⟩; refine ⟨_, rfl, ?_⟩) | (go_at_call 141; (with_reducible refine (impl_isDigit.calls a0 false _ A4.out).mono ?_); rintro e w' ⟨rfl, ⟨nd, rfl⟩⟩))
        go_ret
        exact ⟨rs, dn⟩
       ·
        replace H := sq H
        rcases H with ⟨c11b0, c11b1, H⟩ | ⟨c11, c11b0, c11b1, H⟩
        ·
         obtain rfl := Option.some.inj H
         go_enter Tryz.func135, Tryz.ntmps135
         go_wp2_with (first | (refine gL 140 4 Tryz.func140 #[.int .u8 a0] ?_; (with_reducible refine (impl_isLetter.calls a0 false _ A2.out).mono ?_); rintro e w' ⟨rfl, ⟨nd, rfl⟩⟩; refine ⟨_, rfl, ?_⟩) | (go_at_call 141; (with_reducible refine (impl_isDigit.calls a0 false _ A4.out).mono ?_); rintro e w' ⟨rfl, ⟨nd, rfl⟩⟩))
         go_ret
         exact ⟨rs, dn⟩
        ·
         replace H := sq H
         rcases H with ⟨c12b0, c12b1, H⟩ | ⟨c12, c12b0, c12b1, H⟩
         ·
          obtain rfl := Option.some.inj H
          go_enter Tryz.func135, Tryz.ntmps135
          go_wp2_with (first | (refine gL 140 4 Tryz.func140 #[.int .u8 a0] ?_; (with_reducible refine (impl_isLetter.calls a0 false _ A2.out).mono ?_); rintro e w' ⟨rfl, ⟨nd, rfl⟩⟩; refine ⟨_, rfl, ?_⟩) | (go_at_call 141; (with_reducible refine (impl_isDigit.calls a0 false _ A4.out).mono ?_); rintro e w' ⟨rfl, ⟨nd, rfl⟩⟩))
          go_ret
          exact ⟨rs, dn⟩
         ·
          replace H := sq H
          rcases H with ⟨c13b0, c13b1, H⟩ | ⟨c13, c13b0, c13b1, H⟩
          ·
           obtain rfl := Option.some.inj H
           go_enter Tryz.func135, Tryz.ntmps135
           go_wp2_with (first | (refine gL 140 4 Tryz.func140 #[.int .u8 a0] ?_; (with_reducible refine (impl_isLetter.calls a0 false _ A2.out).mono ?_); rintro e w' ⟨rfl, ⟨nd, rfl⟩⟩; refine ⟨_, rfl, ?_⟩) | (go_at_call 141; (with_reducible refine (impl_isDigit.calls a0 false _ A4.out).mono ?_); rintro e w' ⟨rfl, ⟨nd, rfl⟩⟩))
           go_ret
           exact ⟨rs, dn⟩
          ·
           replace H := sq H
           rcases H with ⟨c14b0, c14b1, H⟩ | ⟨c14, c14b0, c14b1, H⟩
           ·
            obtain rfl := Option.some.inj H
            go_enter Tryz.func135, Tryz.ntmps135
            go_wp2_with (first | (refine gL 140 4 Tryz.func140 #[.int .u8 a0] ?_; (with_reducible refine (impl_isLetter.calls a0 false _ A2.out).mono ?_); rintro e w' ⟨rfl, ⟨nd, rfl⟩⟩; refine ⟨_, rfl, ?_⟩) | (go_at_call 141; (with_reducible refine (impl_isDigit.calls a0 false _ A4.out).mono ?_); rintro e w' ⟨rfl, ⟨nd, rfl⟩⟩))
            go_ret
            exact ⟨rs, dn⟩
           ·
            replace H := sp H
            rcases H with ⟨c15, H⟩ | ⟨c15, H⟩
            ·
             have c15b0 : decide (94 ≤ a0) = true := decide_eq_true c15
             clear c15
             replace H := sd H
             rcases H with ⟨c16b0, H⟩ | ⟨c16b0, H⟩
             ·
              obtain rfl := Option.some.inj H
              go_enter Tryz.func135, Tryz.ntmps135
              go_wp2_with (first | (refine gL 140 4 Tryz.func140 #[.int .u8 a0] ?_; (with_reducible refine (impl_isLetter.calls a0 false _ A2.out).mono ?_); rintro e w' ⟨rfl, ⟨nd, rfl⟩⟩; refine ⟨_, rfl, ?_⟩) | (go_at_call 141; (with_reducible refine (impl_isDigit.calls a0 false _ A4.out).mono ?_); rintro e w' ⟨rfl, ⟨nd, rfl⟩⟩))
              go_ret
              exact ⟨rs, dn⟩
             ·
              replace H := sp H
              rcases H with ⟨c17, H⟩ | ⟨c17, H⟩
              ·
               have c17b0 : decide (123 ≤ a0) = true := decide_eq_true c17
               clear c17
               obtain rfl := Option.some.inj H
               go_enter Tryz.func135, Tryz.ntmps135
               go_wp2_with (first | (refine gL 140 4 Tryz.func140 #[.int .u8 a0] ?_; (with_reducible refine (impl_isLetter.calls a0 false _ A2.out).mono ?_); rintro e w' ⟨rfl, ⟨nd, rfl⟩⟩; refine ⟨_, rfl, ?_⟩) | (go_at_call 141; (with_reducible refine (impl_isDigit.calls a0 false _ A4.out).mono ?_); rintro e w' ⟨rfl, ⟨nd, rfl⟩⟩))
               go_ret
               exact ⟨rs, dn⟩
              ·
               have c17b0 : decide (123 ≤ a0) = false := decide_eq_false c17
               clear c17
               obtain rfl := Option.some.inj H
               go_enter Tryz.func135, Tryz.ntmps135
               go_wp2_with (first | (refine gL 140 4 Tryz.func140 #[.int .u8 a0] ?_; (with_reducible refine (impl_isLetter.calls a0 false _ A2.out).mono ?_); rintro e w' ⟨rfl, ⟨nd, rfl⟩⟩; refine ⟨_, rfl, ?_⟩) | (go_at_call 141; (with_reducible refine (impl_isDigit.calls a0 false _ A4.out).mono ?_); rintro e w' ⟨rfl, ⟨nd, rfl⟩⟩))
               go_ret
               exact ⟨rs, dn⟩
            ·
             have c15b0 : decide (94 ≤ a0) = false := decide_eq_false c15
             clear c15
             replace H := sp H
             rcases H with ⟨c18, H⟩ | ⟨c18, H⟩
             ·
              have c18b0 : decide (123 ≤ a0) = true := decide_eq_true c18
              clear c18
              obtain rfl := Option.some.inj H
              go_enter Tryz.func135, Tryz.ntmps135
              go_wp2_with (first | (refine gL 140 4 Tryz.func140 #[.int .u8 a0] ?_; (with_reducible refine (impl_isLetter.calls a0 false _ A2.out).mono ?_); rintro e w' ⟨rfl, ⟨nd, rfl⟩⟩; refine ⟨_, rfl, ?_⟩) | (go_at_call 141; (with_reducible refine (impl_isDigit.calls a0 false _ A4.out).mono ?_); rintro e w' ⟨rfl, ⟨nd, rfl⟩⟩))
              go_ret
              exact ⟨rs, dn⟩
             ·
              have c18b0 : decide (123 ≤ a0) = false := decide_eq_false c18
              clear c18
              obtain rfl := Option.some.inj H
              go_enter Tryz.func135, Tryz.ntmps135
              go_wp2_with (first | (refine gL 140 4 Tryz.func140 #[.int .u8 a0] ?_; (with_reducible refine (impl_isLetter.calls a0 false _ A2.out).mono ?_); rintro e w' ⟨rfl, ⟨nd, rfl⟩⟩; refine ⟨_, rfl, ?_⟩) | (go_at_call 141; (with_reducible refine (impl_isDigit.calls a0 false _ A4.out).mono ?_); rintro e w' ⟨rfl, ⟨nd, rfl⟩⟩))
              go_ret
              exact ⟨rs, dn⟩
    ·
     have c7b0 : decide (35 ≤ a0) = false := decide_eq_false c7
     clear c7
     replace H := sq H
     rcases H with ⟨c19b0, c19b1, H⟩ | ⟨c19, c19b0, c19b1, H⟩
     ·
      obtain rfl := Option.some.inj H
      go_enter Tryz.func135, Tryz.ntmps135
      go_wp2_with (first | (refine gL 140 4 Tryz.func140 #[.int .u8 a0] ?_; (with_reducible refine (impl_isLetter.calls a0 false _ A2.out).mono ?_); rintro e w' ⟨rfl, ⟨nd, rfl⟩⟩; refine ⟨_, rfl, ?_⟩) | (go_at_call 141; (with_reducible refine (impl_isDigit.calls a0 false _ A4.out).mono ?_); rintro e w' ⟨rfl, ⟨nd, rfl⟩⟩))
      go_ret
      exact ⟨rs, dn⟩
     ·
      replace H := sq H
      rcases H with ⟨c20b0, c20b1, H⟩ | ⟨c20, c20b0, c20b1, H⟩
      ·
       obtain rfl := Option.some.inj H
       go_enter Tryz.func135, Tryz.ntmps135
       go_wp2_with (first | (refine gL 140 4 Tryz.func140 #[.int .u8 a0] ?_; (with_reducible refine (impl_isLetter.calls a0 false _ A2.out).mono ?_); rintro e w' ⟨rfl, ⟨nd, rfl⟩⟩; refine ⟨_, rfl, ?_⟩) | (go_at_call 141; (with_reducible refine (impl_isDigit.calls a0 false _ A4.out).mono ?_); rintro e w' ⟨rfl, ⟨nd, rfl⟩⟩))
       go_ret
       exact ⟨rs, dn⟩
      ·
       replace H := sq H
       rcases H with ⟨c21b0, c21b1, H⟩ | ⟨c21, c21b0, c21b1, H⟩
       ·
        obtain rfl := Option.some.inj H
        go_enter Tryz.func135, Tryz.ntmps135
        go_wp2_with (first | (refine gL 140 4 Tryz.func140 #[.int .u8 a0] ?_; (with_reducible refine (impl_isLetter.calls a0 false _ A2.out).mono ?_); rintro e w' ⟨rfl, ⟨nd, rfl⟩⟩; refine ⟨_, rfl, ?_⟩) | (go_at_call 141; (with_reducible refine (impl_isDigit.calls a0 false _ A4.out).mono ?_); rintro e w' ⟨rfl, ⟨nd, rfl⟩⟩))
        go_ret
        exact ⟨rs, dn⟩
       ·
        replace H := sq H
        rcases H with ⟨c22b0, c22b1, H⟩ | ⟨c22, c22b0, c22b1, H⟩
        ·
         obtain rfl := Option.some.inj H
         go_enter Tryz.func135, Tryz.ntmps135
         go_wp2_with (first | (refine gL 140 4 Tryz.func140 #[.int .u8 a0] ?_; (with_reducible refine (impl_isLetter.calls a0 false _ A2.out).mono ?_); rintro e w' ⟨rfl, ⟨nd, rfl⟩⟩; refine ⟨_, rfl, ?_⟩) | (go_at_call 141; (with_reducible refine (impl_isDigit.calls a0 false _ A4.out).mono ?_); rintro e w' ⟨rfl, ⟨nd, rfl⟩⟩))
         go_ret
         exact ⟨rs, dn⟩
        ·
         replace H := sq H
         rcases H with ⟨c23b0, c23b1, H⟩ | ⟨c23, c23b0, c23b1, H⟩
         ·
          obtain rfl := Option.some.inj H
          go_enter Tryz.func135, Tryz.ntmps135
          go_wp2_with (first | (refine gL 140 4 Tryz.func140 #[.int .u8 a0] ?_; (with_reducible refine (impl_isLetter.calls a0 false _ A2.out).mono ?_); rintro e w' ⟨rfl, ⟨nd, rfl⟩⟩; refine ⟨_, rfl, ?_⟩) | (go_at_call 141; (with_reducible refine (impl_isDigit.calls a0 false _ A4.out).mono ?_); rintro e w' ⟨rfl, ⟨nd, rfl⟩⟩))
          go_ret
          exact ⟨rs, dn⟩
         ·
          replace H := sq H
          rcases H with ⟨c24b0, c24b1, H⟩ | ⟨c24, c24b0, c24b1, H⟩
          ·
           obtain rfl := Option.some.inj H
           go_enter Tryz.func135, Tryz.ntmps135
           go_wp2_with (first | (refine gL 140 4 Tryz.func140 #[.int .u8 a0] ?_; (with_reducible refine (impl_isLetter.calls a0 false _ A2.out).mono ?_); rintro e w' ⟨rfl, ⟨nd, rfl⟩⟩; refine ⟨_, rfl, ?_⟩) | (go_at_call 141; (with_reducible refine (impl_isDigit.calls a0 false _ A4.out).mono ?_); rintro e w' ⟨rfl, ⟨nd, rfl⟩⟩))
           go_ret
           exact ⟨rs, dn⟩
          ·
           replace H := sp H
           rcases H with ⟨c25, H⟩ | ⟨c25, H⟩
           ·
            have c25b0 : decide (94 ≤ a0) = true := decide_eq_true c25
            clear c25
            replace H := sd H
            rcases H with ⟨c26b0, H⟩ | ⟨c26b0, H⟩
            ·
             obtain rfl := Option.some.inj H
             go_enter Tryz.func135, Tryz.ntmps135
             go_wp2_with (first | (refine gL 140 4 Tryz.func140 #[.int .u8 a0] ?_; (with_reducible refine (impl_isLetter.calls a0 false _ A2.out).mono ?_); rintro e w' ⟨rfl, ⟨nd, rfl⟩⟩; refine ⟨_, rfl, ?_⟩) | (go_at_call 141; (with_reducible refine (impl_isDigit.calls a0 false _ A4.out).mono ?_); rintro e w' ⟨rfl, ⟨nd, rfl⟩⟩))
             go_ret
             exact ⟨rs, dn⟩
            ·
             replace H := sp H
             rcases H with ⟨c27, H⟩ | ⟨c27, H⟩
             ·
              have c27b0 : decide (123 ≤ a0) = true := decide_eq_true c27
              clear c27
              obtain rfl := Option.some.inj H
              go_enter Tryz.func135, Tryz.ntmps135
              go_wp2_with (first | (refine gL 140 4 Tryz.func140 #[.int .u8 a0] ?_; (with_reducible refine (impl_isLetter.calls a0 false _ A2.out).mono ?_); rintro e w' ⟨rfl, ⟨nd, rfl⟩⟩; refine ⟨_, rfl, ?_⟩) | (go_at_call 141; (with_reducible refine (impl_isDigit.calls a0 false _ A4.out).mono ?_); rintro e w' ⟨rfl, ⟨nd, rfl⟩⟩))
              go_ret
              exact ⟨rs, dn⟩
             ·
              have c27b0 : decide (123 ≤ a0) = false := decide_eq_false c27
              clear c27
              obtain rfl := Option.some.inj H
              go_enter Tryz.func135, Tryz.ntmps135
              go_wp2_with (first | (refine gL 140 4 Tryz.func140 #[.int .u8 a0] ?_; (with_reducible refine (impl_isLetter.calls a0 false _ A2.out).mono ?_); rintro e w' ⟨rfl, ⟨nd, rfl⟩⟩; refine ⟨_, rfl, ?_⟩) | (go_at_call 141; (with_reducible refine (impl_isDigit.calls a0 false _ A4.out).mono ?_); rintro e w' ⟨rfl, ⟨nd, rfl⟩⟩))
              go_ret
              exact ⟨rs, dn⟩
           ·
            have c25b0 : decide (94 ≤ a0) = false := decide_eq_false c25
            clear c25
            replace H := sp H
            rcases H with ⟨c28, H⟩ | ⟨c28, H⟩
            ·
             have c28b0 : decide (123 ≤ a0) = true := decide_eq_true c28
             clear c28
             obtain rfl := Option.some.inj H
             go_enter Tryz.func135, Tryz.ntmps135
             go_wp2_with (first | (refine gL 140 4 Tryz.func140 #[.int .u8 a0] ?_; (with_reducible refine (impl_isLetter.calls a0 false _ A2.out).mono ?_); rintro e w' ⟨rfl, ⟨nd, rfl⟩⟩; refine ⟨_, rfl, ?_⟩) | (go_at_call 141; (with_reducible refine (impl_isDigit.calls a0 false _ A4.out).mono ?_); rintro e w' ⟨rfl, ⟨nd, rfl⟩⟩))
             go_ret
             exact ⟨rs, dn⟩
            ·
             have c28b0 : decide (123 ≤ a0) = false := decide_eq_false c28
             clear c28
             obtain rfl := Option.some.inj H
             go_enter Tryz.func135, Tryz.ntmps135
             go_wp2_with (first | (refine gL 140 4 Tryz.func140 #[.int .u8 a0] ?_; (with_reducible refine (impl_isLetter.calls a0 false _ A2.out).mono ?_); rintro e w' ⟨rfl, ⟨nd, rfl⟩⟩; refine ⟨_, rfl, ?_⟩) | (go_at_call 141; (with_reducible refine (impl_isDigit.calls a0 false _ A4.out).mono ?_); rintro e w' ⟨rfl, ⟨nd, rfl⟩⟩))
             go_ret
             exact ⟨rs, dn⟩
mutual
def impl_SplitWords.l0 : Nat → ByteArray → List ByteArray → Int → Bool → Option (List ByteArray × Bool)
 | 0, _, _, _, _ => none
 | k + 1, x0, x4, x5, x6 => if x5 < (x0.size : Int) then (if 0 ≤ x5 then (if (bt x0 x5) = 32 then (impl_SplitWords.l0 k x0 x4 (wrap64 (x5 + 1)) true) else (if x6 = true then (if (bt x0 x5) = 34 then (if x5 ≤ (x0.size : Int) then ((impl_quoted.f k (x0.extract (x5 : Int).toNat x0.size)).bind fun bt455 => (if bt455.2.2 = true then (if x4.length < 8796093022208 then (impl_SplitWords.l0 k x0 (x4 ++ [bt455.1]) (wrap64 (x5 + bt455.2.1)) false) else (none)) else (some (([] : List ByteArray), false)))) else (none)) else (impl_SplitWords.l1 k x0 x4 x5 x5)) else (some (([] : List ByteArray), false)))) else (none)) else (some (x4, true))
def impl_SplitWords.l1 : Nat → ByteArray → List ByteArray → Int → Int → Option (List ByteArray × Bool)
 | 0, _, _, _, _ => none
 | k + 1, x0, x4, x5, x10 => if x10 < (x0.size : Int) then (if 0 ≤ x10 then ((impl_isAtomByte.f (bt x0 x10)).bind fun t461 => (if t461 = true then (impl_SplitWords.l1 k x0 x4 x5 (wrap64 (x10 + 1))) else (if x10 = x5 then (some (([] : List ByteArray), false)) else (if 0 ≤ x5 then (if x5 ≤ x10 then (if x10 ≤ (x0.size : Int) then (if x4.length < 8796093022208 then (impl_SplitWords.l0 k x0 (x4 ++ [x0.extract (x5 : Int).toNat (x10 : Int).toNat]) x10 false) else (none)) else (none)) else (none)) else (none))))) else (none)) else (if x10 = x5 then (some (([] : List ByteArray), false)) else (if 0 ≤ x5 then (if x5 ≤ x10 then (if x10 ≤ (x0.size : Int) then (if x4.length < 8796093022208 then (impl_SplitWords.l0 k x0 (x4 ++ [x0.extract (x5 : Int).toNat (x10 : Int).toNat]) x10 false) else (none)) else (none)) else (none)) else (none)))
end
def impl_SplitWords.f (k : Nat) (a0 : ByteArray) : Option (List ByteArray × Bool) := (impl_TextValid.f k a0).bind fun t451 => (if t451 = true then (impl_SplitWords.l0 k a0 (([] : List ByteArray)) 0 true) else (some (([] : List ByteArray), false)))
set_option maxHeartbeats 8000000 in
set_option maxRecDepth 100000 in
theorem impl_SplitWords.calls (k : Nat) (a0 : ByteArray) (r1 : List ByteArray) (r2 : Bool) (w : World) (h : impl_SplitWords.f k a0 = some (r1, r2)) :
  Calls Tryz.prog 94 #[.string a0] w fun e w' => ∃ v0_ : Value, e = .returned (.tuple #[v0_, .bool r2]) ∧ Kd.R Kd.string 9 w' w.heap.size (fun _ => True) v0_ r1 ∧ Below w.heap.size w w' := by
 have HB := ak (Below.refl w.heap.size w)
 have H : ((impl_TextValid.f k a0).bind fun t451 => (if t451 = true then (impl_SplitWords.l0 k a0 (([] : List ByteArray)) 0 true) else (some (([] : List ByteArray), false)))) = some (r1, r2) := h
 clear h
 replace H := bd H; obtain ⟨t451, A2, H⟩ := H; replace H := sb H
 rcases H with ⟨rfl, H⟩ | ⟨rfl, H⟩
 ·
  obtain ⟨y452, Ny452⟩ := nm ([] : List ByteArray)
  rw [← Ny452.out] at H
  (try rw [Option.bind_some] at H)
  have H' := ak H; clear H
  go_enter Tryz.func94, Tryz.ntmps94
  go_wp2_with (first | (refine gL 89 12 Tryz.func89 #[.string a0] ?_; (with_reducible refine (impl_TextValid.calls k a0 true _ A2.out).mono ?_); rintro e w' ⟨rfl, ⟨nd, rfl⟩⟩; refine ⟨_, rfl, ?_⟩) | ((with_reducible refine gate_dst (N := 14) rfl ?_); refine Kd.R_lit Kd.string _ 9 ?hg (N := 14) ?hd (xs := ([] : List ByteArray)) (inner := []) (ok := fun _ => True) (okp := fun _ => True) ?hr ?hp (fun _ hk => hk) trivial (Below.refl _ _) (Nat.le_refl _) (by simp) ?_; (case hd => rfl); (case hg => rfl); (case hr => first | (go_simp; done) | (go_simp; rfl)); (case hp => exact (Reps.none _ _)); intro v453 w4 ho5 hb hg_ hnew_; clear hg_ hnew_; (first | rw [← Ny452.out] at ho5 | (simp only [Int.reduceToNat] at ho5; rw [← Ny452.out] at ho5)); have HO454 := ak (Kd.R_lower ho5 (below_size (ul HB.out))); replace HB := bs HB hb; clear hb ho5))
  go_loopg [4, 5, 6] k (fun kq v4 v5 v6 w' => ∃ (x4_1 : List ByteArray) (x5_1 : Int) (x6_1 : Bool), v5 = .int .i64 x5_1 ∧ v6 = .bool x6_1 ∧ Aside0 (impl_SplitWords.l0 kq a0 x4_1 x5_1 x6_1 = some (r1, r2)) ∧ Aside0 (kq ≤ k) ∧ Aside0 (Kd.R Kd.string 9 w' w.heap.size (fun _ => True) v4 x4_1) ∧ Aside0 (Below w.heap.size w w'))
  case atStart => exact ⟨(y452), (0), (true), rs, rs, H', ⟨Nat.le_refl _⟩, ⟨ur HO454.out⟩, ⟨ul HB.out⟩⟩
  case round =>
   clear H'
   try clear p2
   try clear c3
   obtain ⟨x4_1, x5_1, x6_1, rfl, rfl, HA, HK1, HO_4, HB⟩ := hrel
   cases gk with
   | zero => exact absurd HA.out (by simp [impl_SplitWords.l0])
   | succ k1 =>
    have H := HA.out
    clear HA
    simp only [impl_SplitWords.l0] at H
    replace H := sd H
    rcases H with ⟨c6b0, H⟩ | ⟨c6b0, H⟩
    ·
     replace H := nde H; obtain ⟨c7b0, H⟩ := H; replace H := sq H
     rcases H with ⟨c9b0, c9b1, H⟩ | ⟨c9, c9b0, c9b1, H⟩
     ·
      have H' := ak H; clear H
      obtain ⟨p8, q8, hx8⟩ := bx a0 x5_1
      go_wp2
      go_roundg k1
      case measure => have := HK1.out; omega
      case rel => exact ⟨(x4_1), (wrap64 (x5_1 + 1)), (true), rs, rs, H', ⟨by have := HK1.out; omega⟩, ⟨ur HO_4.out⟩, ⟨ul HB.out⟩⟩
     ·
      replace H := sb H
      rcases H with ⟨rfl, H⟩ | ⟨rfl, H⟩
      ·
       replace H := sq H
       rcases H with ⟨c12b0, c12b1, H⟩ | ⟨c12, c12b0, c12b1, H⟩
       ·
        have c13b0 := eq_true (of_decide_eq_true (by assumption) : 0 ≤ x5_1)
        replace H := ne_ H; obtain ⟨c14b0, c14b1, H⟩ := H; replace H := bd H
        obtain ⟨⟨t455, t456, t457⟩, A15, H⟩ := H
        (try dsimp only at H)
        replace H := sb H
        rcases H with ⟨rfl, H⟩ | ⟨rfl, H⟩
        ·
         replace H := nl H; obtain ⟨LMc17, H⟩ := H
         obtain ⟨y458, Ny458⟩ := nm (x4_1 ++ [t455])
         rw [← Ny458.out] at H
         (try rw [Option.bind_some] at H)
         have H' := ak H; clear H
         obtain ⟨p8, q8, hx8⟩ := bx a0 x5_1
         obtain ⟨p11, q11, hx11⟩ := bx a0 x5_1
         go_wp2_with (first | (refine gL 134 62 Tryz.func134 #[.string (a0.extract (x5_1 : Int).toNat a0.size)] ?_; (with_reducible refine (impl_quoted.calls k1 (a0.extract (x5_1 : Int).toNat a0.size) t455 t456 true _ A15.out).mono ?_); rintro e w18 ⟨rfl, hb⟩; refine ⟨_, rfl, ?_⟩; replace HO_4 := rb HO_4 hb; replace HB := bs HB hb; (try clear hb)) | ((with_reducible refine gate_builtin (b := .append) (xs := #[.tmp 68, .tmp 70]) rfl ?_); at_builtin; refine Kd.R_append Kd.string (w0 := w) w.heap.size rfl (.tmp 68) (.tmp 70) 23 9 (.string ⟨#[]⟩) 16 rfl Tryz.underlying23 info9 rfl (by decide) (by omega) u4 x4_1 t455 [.string t455] (fun _ => True) (fun _ => False) rfl rfl ?aP (fun _ hk => hk.elim) ?aF ?aO ?aB ?aS ?aL ?_; (case aP => exact rfl); (case aB => exact (ul HB.out)); (case aF => exact (fun _ _ => trivial)); (case aO => exact (ur HO_4.out)); (case aS => exact (below_size (ul HB.out))); (case aL => have := LMc17.out; omega); intro v459 w19 ho hb hg hat; rw [← Ny458.out] at ho; have n0_ := ak (hb); have n1_ := ak (ho); clear HB; clear HO_4; have HB := n0_; have HO460 := n1_; clear n0_ n1_; clear ho hb hg hat))
         go_roundg k1
         case measure => have := HK1.out; omega
         case rel => exact ⟨(y458), (wrap64 (x5_1 + t456)), (false), rs, rs, H', ⟨by have := HK1.out; omega⟩, ⟨ur HO460.out⟩, ⟨ul HB.out⟩⟩
        ·
         simp only [Option.some.injEq, Prod.mk.injEq] at H
         obtain ⟨rfl, rfl⟩ := H
         obtain ⟨p8, q8, hx8⟩ := bx a0 x5_1
         obtain ⟨p11, q11, hx11⟩ := bx a0 x5_1
         go_wp2_with (first | (refine gL 134 62 Tryz.func134 #[.string (a0.extract (x5_1 : Int).toNat a0.size)] ?_; (with_reducible refine (impl_quoted.calls k1 (a0.extract (x5_1 : Int).toNat a0.size) t455 t456 false _ A15.out).mono ?_); rintro e w20 ⟨rfl, hb⟩; refine ⟨_, rfl, ?_⟩; replace HO_4 := rb HO_4 hb; replace HB := bs HB hb; (try clear hb)))
         go_ret2
         exact ⟨_, er, nx, ul HB.out⟩
       ·
        have H' := ak H; clear H
        obtain ⟨p8, q8, hx8⟩ := bx a0 x5_1
        obtain ⟨p11, q11, hx11⟩ := bx a0 x5_1
        go_wp2
        go_loopg [10] k1 (fun kq v10 w' => ∃ (x10_2 : Int), v10 = .int .i64 x10_2 ∧ Aside0 (impl_SplitWords.l1 kq a0 x4_1 x5_1 x10_2 = some (r1, r2)) ∧ Aside0 (kq ≤ k1) ∧ Aside0 (Kd.R Kd.string 9 w' w.heap.size (fun _ => True) u4 x4_1) ∧ Aside0 (Below w.heap.size w w'))
        case atStart => exact ⟨(x5_1), rs, H', ⟨Nat.le_refl _⟩, ⟨ur HO_4.out⟩, ⟨ul HB.out⟩⟩
        case round =>
         clear H'
         try clear c1
         try clear p1
         try clear q1
         try clear hx1
         try clear p2
         try clear c3
         try clear c6
         try clear c6b0
         try clear p6
         try clear c7
         try clear c7b0
         try clear c8
         try clear p8
         try clear q8
         try clear hx8
         try clear c9
         try clear c9b0
         try clear c9b1
         try clear c10
         try clear p11
         try clear q11
         try clear hx11
         try clear c12
         try clear c12b0
         try clear c12b1
         try clear c13
         try clear c13b0
         try clear c14
         try clear c14b0
         try clear c14b1
         try clear c16
         try clear c17
         try clear p11
         try clear p2
         try clear p8
         try clear q11
         try clear q8
         obtain ⟨x10_2, rfl, HA, HK2, HO_4, HB⟩ := hrel
         cases gk with
         | zero => exact absurd HA.out (by simp [impl_SplitWords.l1])
         | succ k2 =>
          have H := HA.out
          clear HA
          simp only [impl_SplitWords.l1] at H
          replace H := sd H
          rcases H with ⟨c21b0, H⟩ | ⟨c21b0, H⟩
          ·
           replace H := nde H; obtain ⟨c22b0, H⟩ := H; replace H := bd H; obtain ⟨t461, A24, H⟩ := H; replace H := sb H
           rcases H with ⟨rfl, H⟩ | ⟨rfl, H⟩
           ·
            have H' := ak H; clear H
            obtain ⟨p23, q23, hx23⟩ := bx a0 x10_2
            go_wp2_with (first | (go_at_call 135; (with_reducible refine (impl_isAtomByte.calls (bt a0 x10_2) true _ A24.out).mono ?_); rintro e w' ⟨rfl, ⟨nd, rfl⟩⟩))
            go_roundg k2
            case measure => have := HK1.out; have := HK2.out; omega
            case rel => exact ⟨(wrap64 (x10_2 + 1)), rs, H', ⟨by have := HK1.out; have := HK2.out; omega⟩, ⟨ur HO_4.out⟩, ⟨ul HB.out⟩⟩
           ·
            replace H := sq H
            rcases H with ⟨c26b0, c26b1, H⟩ | ⟨c26, c26b0, c26b1, H⟩
            ·
             simp only [Option.some.injEq, Prod.mk.injEq] at H
             obtain ⟨rfl, rfl⟩ := H
             obtain ⟨p23, q23, hx23⟩ := bx a0 x10_2
             go_wp2_with (first | (go_at_call 135; (with_reducible refine (impl_isAtomByte.calls (bt a0 x10_2) false _ A24.out).mono ?_); rintro e w' ⟨rfl, ⟨nd, rfl⟩⟩))
             go_ret2
             exact ⟨_, er, nx, ul HB.out⟩
            ·
             replace H := ne_ H; obtain ⟨c27b0, c27b1, H⟩ := H; replace H := ne_ H; obtain ⟨c28b0, c28b1, H⟩ := H; replace H := ne_ H; obtain ⟨c29b0, c29b1, H⟩ := H; replace H := nl H; obtain ⟨LMc30, H⟩ := H
             obtain ⟨y462, Ny462⟩ := nm (x4_1 ++ [a0.extract (x5_1 : Int).toNat (x10_2 : Int).toNat])
             rw [← Ny462.out] at H
             (try rw [Option.bind_some] at H)
             have H' := ak H; clear H
             obtain ⟨p23, q23, hx23⟩ := bx a0 x10_2
             go_wp2_with (first | (go_at_call 135; (with_reducible refine (impl_isAtomByte.calls (bt a0 x10_2) false _ A24.out).mono ?_); rintro e w' ⟨rfl, ⟨nd, rfl⟩⟩) | ((with_reducible refine gate_builtin (b := .append) (xs := #[.tmp 35, .tmp 40]) rfl ?_); at_builtin; refine Kd.R_append Kd.string (w0 := w) w.heap.size rfl (.tmp 35) (.tmp 40) 23 9 (.string ⟨#[]⟩) 16 rfl Tryz.underlying23 info9 rfl (by decide) (by omega) u4 x4_1 (a0.extract (x5_1 : Int).toNat (x10_2 : Int).toNat) [.string (a0.extract (x5_1 : Int).toNat (x10_2 : Int).toNat)] (fun _ => True) (fun _ => False) rfl rfl ?aP (fun _ hk => hk.elim) ?aF ?aO ?aB ?aS ?aL ?_; (case aP => exact rfl); (case aB => exact (ul HB.out)); (case aF => exact (fun _ _ => trivial)); (case aO => exact (ur HO_4.out)); (case aS => exact (below_size (ul HB.out))); (case aL => have := LMc30.out; omega); intro v463 w31 ho hb hg hat; rw [← Ny462.out] at ho; have n0_ := ak (hb); have n1_ := ak (ho); clear HB; clear HO_4; have HB := n0_; have HO464 := n1_; clear n0_ n1_; clear ho hb hg hat))
             go_roundg k2
             case measure => have := HK1.out; have := HK2.out; omega
             case rel => exact ⟨(y462), (x10_2), (false), rs, rs, H', ⟨by have := HK1.out; have := HK2.out; omega⟩, ⟨ur HO464.out⟩, ⟨ul HB.out⟩⟩
          ·
           replace H := sq H
           rcases H with ⟨c32b0, c32b1, H⟩ | ⟨c32, c32b0, c32b1, H⟩
           ·
            simp only [Option.some.injEq, Prod.mk.injEq] at H
            obtain ⟨rfl, rfl⟩ := H
            go_wp2
            go_ret2
            exact ⟨_, er, nx, ul HB.out⟩
           ·
            replace H := ne_ H; obtain ⟨c33b0, c33b1, H⟩ := H; replace H := ne_ H; obtain ⟨c34b0, c34b1, H⟩ := H; replace H := ne_ H; obtain ⟨c35b0, c35b1, H⟩ := H; replace H := nl H; obtain ⟨LMc36, H⟩ := H
            obtain ⟨y465, Ny465⟩ := nm (x4_1 ++ [a0.extract (x5_1 : Int).toNat (x10_2 : Int).toNat])
            rw [← Ny465.out] at H
            (try rw [Option.bind_some] at H)
            have H' := ak H; clear H
            go_wp2_with (first | ((with_reducible refine gate_builtin (b := .append) (xs := #[.tmp 35, .tmp 40]) rfl ?_); at_builtin; refine Kd.R_append Kd.string (w0 := w) w.heap.size rfl (.tmp 35) (.tmp 40) 23 9 (.string ⟨#[]⟩) 16 rfl Tryz.underlying23 info9 rfl (by decide) (by omega) u4 x4_1 (a0.extract (x5_1 : Int).toNat (x10_2 : Int).toNat) [.string (a0.extract (x5_1 : Int).toNat (x10_2 : Int).toNat)] (fun _ => True) (fun _ => False) rfl rfl ?aP (fun _ hk => hk.elim) ?aF ?aO ?aB ?aS ?aL ?_; (case aP => exact rfl); (case aB => exact (ul HB.out)); (case aF => exact (fun _ _ => trivial)); (case aO => exact (ur HO_4.out)); (case aS => exact (below_size (ul HB.out))); (case aL => have := LMc36.out; omega); intro v466 w37 ho hb hg hat; rw [← Ny465.out] at ho; have n0_ := ak (hb); have n1_ := ak (ho); clear HB; clear HO_4; have HB := n0_; have HO467 := n1_; clear n0_ n1_; clear ho hb hg hat))
            go_roundg k2
            case measure => have := HK1.out; have := HK2.out; omega
            case rel => exact ⟨(y465), (x10_2), (false), rs, rs, H', ⟨by have := HK1.out; have := HK2.out; omega⟩, ⟨ur HO467.out⟩, ⟨ul HB.out⟩⟩
      ·
       simp only [Option.some.injEq, Prod.mk.injEq] at H
       obtain ⟨rfl, rfl⟩ := H
       obtain ⟨p8, q8, hx8⟩ := bx a0 x5_1
       go_wp2
       go_ret2
       exact ⟨_, er, nx, ul HB.out⟩
    ·
     simp only [Option.some.injEq, Prod.mk.injEq] at H
     obtain ⟨rfl, rfl⟩ := H
     go_wp2
     go_ret2
     exact ⟨_, er, ur HO_4.out, ul HB.out⟩
 ·
  simp only [Option.some.injEq, Prod.mk.injEq] at H
  obtain ⟨rfl, rfl⟩ := H
  go_enter Tryz.func94, Tryz.ntmps94
  go_wp2_with (first | (refine gL 89 12 Tryz.func89 #[.string a0] ?_; (with_reducible refine (impl_TextValid.calls k a0 false _ A2.out).mono ?_); rintro e w' ⟨rfl, ⟨nd, rfl⟩⟩; refine ⟨_, rfl, ?_⟩))
  go_ret2
  exact ⟨_, er, nx, ul HB.out⟩
def impl_isSmallName.f (k : Nat) (a0 : ByteArray) : Option (Bool) := (impl_isName.f k a0).bind fun t468 => (if t468 = true then ((impl_LowerText.f a0).bind fun t469 => (some (t469.toList == a0.toList))) else (some false))
set_option maxHeartbeats 8000000 in
set_option maxRecDepth 100000 in
theorem impl_isSmallName.calls (k : Nat) (a0 : ByteArray) (r : Bool) (w : World) (h : impl_isSmallName.f k a0 = some r) :
  Calls Tryz.prog 136 #[.string a0] w fun e w' => e = .returned (.bool r) ∧ Below w.heap.size w w' := by
 have HB := ak (Below.refl w.heap.size w)
 have H : ((impl_isName.f k a0).bind fun t468 => (if t468 = true then ((impl_LowerText.f a0).bind fun t469 => (some (t469.toList == a0.toList))) else (some false))) = some r := h
 clear h
 replace H := bd H; obtain ⟨t468, A2, H⟩ := H; replace H := sb H
 rcases H with ⟨rfl, H⟩ | ⟨rfl, H⟩
 ·
  replace H := bd H; obtain ⟨t469, A4, H⟩ := H
  obtain rfl := Option.some.inj H
  go_enter Tryz.func136, Tryz.ntmps136
  go_wp2_with (first | (refine gL 160 4 Tryz.func160 #[.string a0] ?_; (with_reducible refine (impl_isName.calls k a0 true _ A2.out).mono ?_); rintro e w' ⟨rfl, ⟨nd, rfl⟩⟩; refine ⟨_, rfl, ?_⟩) | (go_at_call 93; (with_reducible refine (impl_LowerText.calls a0 t469 _ A4.out).mono ?_); rintro e w5 ⟨rfl, hb⟩; replace HB := bs HB hb; (try clear hb)))
  go_ret
  exact ⟨er, ul HB.out⟩
 ·
  obtain rfl := Option.some.inj H
  go_enter Tryz.func136, Tryz.ntmps136
  go_wp2_with (first | (refine gL 160 4 Tryz.func160 #[.string a0] ?_; (with_reducible refine (impl_isName.calls k a0 false _ A2.out).mono ?_); rintro e w' ⟨rfl, ⟨nd, rfl⟩⟩; refine ⟨_, rfl, ?_⟩))
  go_ret
  exact ⟨er, ul HB.out⟩
def impl_allBytes_isAtomByte.l0 : Nat → ByteArray → Int → Int → Option (Bool)
 | 0, _, _, _ => none
 | k + 1, x0, x7, x8 => if x8 < x7 then (if 0 ≤ x8 then (if x8 < (x0.size : Int) then ((impl_isAtomByte.f (bt x0 x8)).bind fun t470 => (if t470 = true then (impl_allBytes_isAtomByte.l0 k x0 x7 (wrap64 (x8 + 1))) else (some false))) else (none)) else (none)) else (some true)
def impl_allBytes_isAtomByte.f (k : Nat) (a0 : ByteArray)  : Option (Bool) := impl_allBytes_isAtomByte.l0 k a0 (a0.size : Int) 0
set_option maxHeartbeats 8000000 in
set_option maxRecDepth 100000 in
theorem impl_allBytes_isAtomByte.calls (k : Nat) (a0 : ByteArray)  (r : Bool) (w : World) (h : impl_allBytes_isAtomByte.f k a0 = some r) :
  Calls Tryz.prog 138 #[.string a0, .func (.func 135) #[] #[]] w fun e w' => e = .returned (.bool r) ∧ Drawn0 w w' := by
 have H : (impl_allBytes_isAtomByte.l0 k a0 (a0.size : Int) 0) = some r := h
 clear h
 have H' := ak H; clear H
 go_enter Tryz.func138, Tryz.ntmps138
 go_wp2
 go_loopg [8] k (fun kq v8 w' => ∃ (x8_1 : Int), v8 = .int .i64 x8_1 ∧ Aside0 (impl_allBytes_isAtomByte.l0 kq a0 (a0.size : Int) x8_1 = some r) ∧ Aside0 (kq ≤ k) ∧ Drawn0 w w')
 case atStart => exact ⟨(0), rs, H', ⟨Nat.le_refl _⟩, dn⟩
 case round =>
  clear H'
  try clear c2
  try clear p2
  obtain ⟨x8_1, rfl, HA, HK1, ⟨m1, rfl⟩⟩ := hrel
  cases gk with
  | zero => exact absurd HA.out (by simp [impl_allBytes_isAtomByte.l0])
  | succ k1 =>
   have H := HA.out
   clear HA
   simp only [impl_allBytes_isAtomByte.l0] at H
   replace H := sd H
   rcases H with ⟨c3b0, H⟩ | ⟨c3b0, H⟩
   ·
    replace H := nde H; obtain ⟨c4b0, H⟩ := H; replace H := nde H; obtain ⟨c5b0, H⟩ := H; replace H := bd H; obtain ⟨t470, A7, H⟩ := H; replace H := sb H
    rcases H with ⟨rfl, H⟩ | ⟨rfl, H⟩
    ·
     have H' := ak H; clear H
     obtain ⟨p6, q6, hx6⟩ := bx a0 x8_1
     go_wp2_with (first | (go_at_call 135; (with_reducible refine (impl_isAtomByte.calls (bt a0 x8_1) true _ A7.out).mono ?_); rintro e w' ⟨rfl, ⟨nd, rfl⟩⟩))
     go_roundg k1
     case measure => have := HK1.out; omega
     case rel => exact ⟨(wrap64 (x8_1 + 1)), rs, H', ⟨by have := HK1.out; omega⟩, dn⟩
    ·
     obtain rfl := Option.some.inj H
     obtain ⟨p6, q6, hx6⟩ := bx a0 x8_1
     go_wp2_with (first | (go_at_call 135; (with_reducible refine (impl_isAtomByte.calls (bt a0 x8_1) false _ A7.out).mono ?_); rintro e w' ⟨rfl, ⟨nd, rfl⟩⟩))
     go_ret
     exact ⟨rs, dn⟩
   ·
    obtain rfl := Option.some.inj H
    go_wp2
    go_ret
    exact ⟨rs, dn⟩
end Go.Proofs.YtncdadcmghglkaaGreatDoor.PFnExactCountParts
