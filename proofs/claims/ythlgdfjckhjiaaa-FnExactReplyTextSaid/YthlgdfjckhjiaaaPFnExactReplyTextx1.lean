-- PRINTED BY print.sh 35421559b90ae4d0a3588c463048766b98c2df88dd9212a6774a882060cdf62d: not written by this session
import Derived.Test.YthlgdfjckhjiaaaPFnExactReplyTextx0
namespace Go.Proofs.Ythlgdfjckhjiaaa.PFnExactReplyText
open Go.RowKit Go.Proofs.YthlgdfjckhjiaaaW.PrintWords Go.Proofs.YthlgdfjckhjiaaaW.PrintLast Go.Proofs.YthlgdfjckhjiaaaW.PrintMore
attribute [local go_sem] max2_int min2_int max_two min_two max_three min_three max_four min_four   -- for this text's walks alone
set_option linter.unusedVariables false
set_option linter.unusedSimpArgs false

/-! ### spec_ReplyText: function 21 -/
def spec_ReplyText.f (a0 : Int) : Option (ByteArray) := if a0 = 221 then (some (⟨#[50, 50, 49, 32, 98, 121, 101]⟩ : ByteArray)) else (if a0 = 250 then (some (⟨#[50, 53, 48, 32, 111, 107]⟩ : ByteArray)) else (if a0 = 354 then (some (⟨#[51, 53, 52, 32, 103, 111, 32, 111, 110]⟩ : ByteArray)) else (if a0 = 452 then (some (⟨#[52, 53, 50, 32, 116, 111, 111, 32, 109, 97, 110, 121]⟩ : ByteArray)) else (if a0 = 500 then (some (⟨#[53, 48, 48, 32, 119, 104, 97, 116]⟩ : ByteArray)) else (if a0 = 501 then (some (⟨#[53, 48, 49, 32, 104, 111, 119]⟩ : ByteArray)) else (if a0 = 503 then (some (⟨#[53, 48, 51, 32, 110, 111, 116, 32, 110, 111, 119]⟩ : ByteArray)) else (if a0 = 552 then (some (⟨#[53, 53, 50, 32, 116, 111, 111, 32, 108, 111, 110, 103]⟩ : ByteArray)) else (some (⟨#[]⟩ : ByteArray)))))))))
set_option maxHeartbeats 8000000 in
set_option maxRecDepth 100000 in
theorem spec_ReplyText.calls (a0 : Int) (r : ByteArray) (w : World) (h : spec_ReplyText.f a0 = some r) :
    Calls Try.prog 21 #[.int .i64 a0] w fun e w' => e = .returned (.string r) ∧ Drawn0 w w' := by
  have H : (if a0 = 221 then (some (⟨#[50, 50, 49, 32, 98, 121, 101]⟩ : ByteArray)) else (if a0 = 250 then (some (⟨#[50, 53, 48, 32, 111, 107]⟩ : ByteArray)) else (if a0 = 354 then (some (⟨#[51, 53, 52, 32, 103, 111, 32, 111, 110]⟩ : ByteArray)) else (if a0 = 452 then (some (⟨#[52, 53, 50, 32, 116, 111, 111, 32, 109, 97, 110, 121]⟩ : ByteArray)) else (if a0 = 500 then (some (⟨#[53, 48, 48, 32, 119, 104, 97, 116]⟩ : ByteArray)) else (if a0 = 501 then (some (⟨#[53, 48, 49, 32, 104, 111, 119]⟩ : ByteArray)) else (if a0 = 503 then (some (⟨#[53, 48, 51, 32, 110, 111, 116, 32, 110, 111, 119]⟩ : ByteArray)) else (if a0 = 552 then (some (⟨#[53, 53, 50, 32, 116, 111, 111, 32, 108, 111, 110, 103]⟩ : ByteArray)) else (some (⟨#[]⟩ : ByteArray)))))))))) = some r := h
  clear h
  by_cases c2 : a0 = 221
  · rw [if_pos c2] at H
    have c2b0 : (a0 == 221) = true := beq_iff_eq.mpr c2
    have c2b1 : (a0 != 221) = false := bne_eq_false_iff_eq.mpr c2
    clear c2
    obtain rfl := Option.some.inj H
    go_enter Try.func21, Try.ntmps21
    go_wp2
    go_ret
    exact ⟨by first | rfl | (simp; done) | (simp [*]; done), by repeat (first | exact Drawn0.refl _ | apply Drawn0.step)⟩
  · rw [if_neg c2] at H
    have c2b0 : (a0 == 221) = false := beq_eq_false_iff_ne.mpr c2
    have c2b1 : (a0 != 221) = true := bne_iff_ne.mpr c2
    by_cases c3 : a0 = 250
    · rw [if_pos c3] at H
      have c3b0 : (a0 == 250) = true := beq_iff_eq.mpr c3
      have c3b1 : (a0 != 250) = false := bne_eq_false_iff_eq.mpr c3
      clear c3
      obtain rfl := Option.some.inj H
      go_enter Try.func21, Try.ntmps21
      go_wp2
      go_ret
      exact ⟨by first | rfl | (simp; done) | (simp [*]; done), by repeat (first | exact Drawn0.refl _ | apply Drawn0.step)⟩
    · rw [if_neg c3] at H
      have c3b0 : (a0 == 250) = false := beq_eq_false_iff_ne.mpr c3
      have c3b1 : (a0 != 250) = true := bne_iff_ne.mpr c3
      by_cases c4 : a0 = 354
      · rw [if_pos c4] at H
        have c4b0 : (a0 == 354) = true := beq_iff_eq.mpr c4
        have c4b1 : (a0 != 354) = false := bne_eq_false_iff_eq.mpr c4
        clear c4
        obtain rfl := Option.some.inj H
        go_enter Try.func21, Try.ntmps21
        go_wp2
        go_ret
        exact ⟨by first | rfl | (simp; done) | (simp [*]; done), by repeat (first | exact Drawn0.refl _ | apply Drawn0.step)⟩
      · rw [if_neg c4] at H
        have c4b0 : (a0 == 354) = false := beq_eq_false_iff_ne.mpr c4
        have c4b1 : (a0 != 354) = true := bne_iff_ne.mpr c4
        by_cases c5 : a0 = 452
        · rw [if_pos c5] at H
          have c5b0 : (a0 == 452) = true := beq_iff_eq.mpr c5
          have c5b1 : (a0 != 452) = false := bne_eq_false_iff_eq.mpr c5
          clear c5
          obtain rfl := Option.some.inj H
          go_enter Try.func21, Try.ntmps21
          go_wp2
          go_ret
          exact ⟨by first | rfl | (simp; done) | (simp [*]; done), by repeat (first | exact Drawn0.refl _ | apply Drawn0.step)⟩
        · rw [if_neg c5] at H
          have c5b0 : (a0 == 452) = false := beq_eq_false_iff_ne.mpr c5
          have c5b1 : (a0 != 452) = true := bne_iff_ne.mpr c5
          by_cases c6 : a0 = 500
          · rw [if_pos c6] at H
            have c6b0 : (a0 == 500) = true := beq_iff_eq.mpr c6
            have c6b1 : (a0 != 500) = false := bne_eq_false_iff_eq.mpr c6
            clear c6
            obtain rfl := Option.some.inj H
            go_enter Try.func21, Try.ntmps21
            go_wp2
            go_ret
            exact ⟨by first | rfl | (simp; done) | (simp [*]; done), by repeat (first | exact Drawn0.refl _ | apply Drawn0.step)⟩
          · rw [if_neg c6] at H
            have c6b0 : (a0 == 500) = false := beq_eq_false_iff_ne.mpr c6
            have c6b1 : (a0 != 500) = true := bne_iff_ne.mpr c6
            by_cases c7 : a0 = 501
            · rw [if_pos c7] at H
              have c7b0 : (a0 == 501) = true := beq_iff_eq.mpr c7
              have c7b1 : (a0 != 501) = false := bne_eq_false_iff_eq.mpr c7
              clear c7
              obtain rfl := Option.some.inj H
              go_enter Try.func21, Try.ntmps21
              go_wp2
              go_ret
              exact ⟨by first | rfl | (simp; done) | (simp [*]; done), by repeat (first | exact Drawn0.refl _ | apply Drawn0.step)⟩
            · rw [if_neg c7] at H
              have c7b0 : (a0 == 501) = false := beq_eq_false_iff_ne.mpr c7
              have c7b1 : (a0 != 501) = true := bne_iff_ne.mpr c7
              by_cases c8 : a0 = 503
              · rw [if_pos c8] at H
                have c8b0 : (a0 == 503) = true := beq_iff_eq.mpr c8
                have c8b1 : (a0 != 503) = false := bne_eq_false_iff_eq.mpr c8
                clear c8
                obtain rfl := Option.some.inj H
                go_enter Try.func21, Try.ntmps21
                go_wp2
                go_ret
                exact ⟨by first | rfl | (simp; done) | (simp [*]; done), by repeat (first | exact Drawn0.refl _ | apply Drawn0.step)⟩
              · rw [if_neg c8] at H
                have c8b0 : (a0 == 503) = false := beq_eq_false_iff_ne.mpr c8
                have c8b1 : (a0 != 503) = true := bne_iff_ne.mpr c8
                by_cases c9 : a0 = 552
                · rw [if_pos c9] at H
                  have c9b0 : (a0 == 552) = true := beq_iff_eq.mpr c9
                  have c9b1 : (a0 != 552) = false := bne_eq_false_iff_eq.mpr c9
                  clear c9
                  obtain rfl := Option.some.inj H
                  go_enter Try.func21, Try.ntmps21
                  go_wp2
                  go_ret
                  exact ⟨by first | rfl | (simp; done) | (simp [*]; done), by repeat (first | exact Drawn0.refl _ | apply Drawn0.step)⟩
                · rw [if_neg c9] at H
                  have c9b0 : (a0 == 552) = false := beq_eq_false_iff_ne.mpr c9
                  have c9b1 : (a0 != 552) = true := bne_iff_ne.mpr c9
                  obtain rfl := Option.some.inj H
                  go_enter Try.func21, Try.ntmps21
                  go_wp2
                  go_ret
                  exact ⟨by first | rfl | (simp; done) | (simp [*]; done), by repeat (first | exact Drawn0.refl _ | apply Drawn0.step)⟩

/-! ### impl_ReplyText: function 22 -/
def impl_ReplyText.f (a0 : Int) : Option (ByteArray) := if a0 = 221 then (some (⟨#[50, 50, 49, 32, 98, 121, 101]⟩ : ByteArray)) else (if a0 = 250 then (some (⟨#[50, 53, 48, 32, 111, 107]⟩ : ByteArray)) else (if a0 = 354 then (some (⟨#[51, 53, 52, 32, 103, 111, 32, 111, 110]⟩ : ByteArray)) else (if a0 = 452 then (some (⟨#[52, 53, 50, 32, 116, 111, 111, 32, 109, 97, 110, 121]⟩ : ByteArray)) else (if a0 = 500 then (some (⟨#[53, 48, 48, 32, 119, 104, 97, 116]⟩ : ByteArray)) else (if a0 = 501 then (some (⟨#[53, 48, 49, 32, 104, 111, 119]⟩ : ByteArray)) else (if a0 = 503 then (some (⟨#[53, 48, 51, 32, 110, 111, 116, 32, 110, 111, 119]⟩ : ByteArray)) else (if a0 = 552 then (some (⟨#[53, 53, 50, 32, 116, 111, 111, 32, 108, 111, 110, 103]⟩ : ByteArray)) else (some (⟨#[]⟩ : ByteArray)))))))))
set_option maxHeartbeats 8000000 in
set_option maxRecDepth 100000 in
theorem impl_ReplyText.calls (a0 : Int) (r : ByteArray) (w : World) (h : impl_ReplyText.f a0 = some r) :
    Calls Try.prog 22 #[.int .i64 a0] w fun e w' => e = .returned (.string r) ∧ Drawn0 w w' := by
  have H : (if a0 = 221 then (some (⟨#[50, 50, 49, 32, 98, 121, 101]⟩ : ByteArray)) else (if a0 = 250 then (some (⟨#[50, 53, 48, 32, 111, 107]⟩ : ByteArray)) else (if a0 = 354 then (some (⟨#[51, 53, 52, 32, 103, 111, 32, 111, 110]⟩ : ByteArray)) else (if a0 = 452 then (some (⟨#[52, 53, 50, 32, 116, 111, 111, 32, 109, 97, 110, 121]⟩ : ByteArray)) else (if a0 = 500 then (some (⟨#[53, 48, 48, 32, 119, 104, 97, 116]⟩ : ByteArray)) else (if a0 = 501 then (some (⟨#[53, 48, 49, 32, 104, 111, 119]⟩ : ByteArray)) else (if a0 = 503 then (some (⟨#[53, 48, 51, 32, 110, 111, 116, 32, 110, 111, 119]⟩ : ByteArray)) else (if a0 = 552 then (some (⟨#[53, 53, 50, 32, 116, 111, 111, 32, 108, 111, 110, 103]⟩ : ByteArray)) else (some (⟨#[]⟩ : ByteArray)))))))))) = some r := h
  clear h
  by_cases c2 : a0 = 221
  · rw [if_pos c2] at H
    have c2b0 : (a0 == 221) = true := beq_iff_eq.mpr c2
    have c2b1 : (a0 != 221) = false := bne_eq_false_iff_eq.mpr c2
    clear c2
    obtain rfl := Option.some.inj H
    go_enter Try.func22, Try.ntmps22
    go_wp2
    go_ret
    exact ⟨by first | rfl | (simp; done) | (simp [*]; done), by repeat (first | exact Drawn0.refl _ | apply Drawn0.step)⟩
  · rw [if_neg c2] at H
    have c2b0 : (a0 == 221) = false := beq_eq_false_iff_ne.mpr c2
    have c2b1 : (a0 != 221) = true := bne_iff_ne.mpr c2
    by_cases c3 : a0 = 250
    · rw [if_pos c3] at H
      have c3b0 : (a0 == 250) = true := beq_iff_eq.mpr c3
      have c3b1 : (a0 != 250) = false := bne_eq_false_iff_eq.mpr c3
      clear c3
      obtain rfl := Option.some.inj H
      go_enter Try.func22, Try.ntmps22
      go_wp2
      go_ret
      exact ⟨by first | rfl | (simp; done) | (simp [*]; done), by repeat (first | exact Drawn0.refl _ | apply Drawn0.step)⟩
    · rw [if_neg c3] at H
      have c3b0 : (a0 == 250) = false := beq_eq_false_iff_ne.mpr c3
      have c3b1 : (a0 != 250) = true := bne_iff_ne.mpr c3
      by_cases c4 : a0 = 354
      · rw [if_pos c4] at H
        have c4b0 : (a0 == 354) = true := beq_iff_eq.mpr c4
        have c4b1 : (a0 != 354) = false := bne_eq_false_iff_eq.mpr c4
        clear c4
        obtain rfl := Option.some.inj H
        go_enter Try.func22, Try.ntmps22
        go_wp2
        go_ret
        exact ⟨by first | rfl | (simp; done) | (simp [*]; done), by repeat (first | exact Drawn0.refl _ | apply Drawn0.step)⟩
      · rw [if_neg c4] at H
        have c4b0 : (a0 == 354) = false := beq_eq_false_iff_ne.mpr c4
        have c4b1 : (a0 != 354) = true := bne_iff_ne.mpr c4
        by_cases c5 : a0 = 452
        · rw [if_pos c5] at H
          have c5b0 : (a0 == 452) = true := beq_iff_eq.mpr c5
          have c5b1 : (a0 != 452) = false := bne_eq_false_iff_eq.mpr c5
          clear c5
          obtain rfl := Option.some.inj H
          go_enter Try.func22, Try.ntmps22
          go_wp2
          go_ret
          exact ⟨by first | rfl | (simp; done) | (simp [*]; done), by repeat (first | exact Drawn0.refl _ | apply Drawn0.step)⟩
        · rw [if_neg c5] at H
          have c5b0 : (a0 == 452) = false := beq_eq_false_iff_ne.mpr c5
          have c5b1 : (a0 != 452) = true := bne_iff_ne.mpr c5
          by_cases c6 : a0 = 500
          · rw [if_pos c6] at H
            have c6b0 : (a0 == 500) = true := beq_iff_eq.mpr c6
            have c6b1 : (a0 != 500) = false := bne_eq_false_iff_eq.mpr c6
            clear c6
            obtain rfl := Option.some.inj H
            go_enter Try.func22, Try.ntmps22
            go_wp2
            go_ret
            exact ⟨by first | rfl | (simp; done) | (simp [*]; done), by repeat (first | exact Drawn0.refl _ | apply Drawn0.step)⟩
          · rw [if_neg c6] at H
            have c6b0 : (a0 == 500) = false := beq_eq_false_iff_ne.mpr c6
            have c6b1 : (a0 != 500) = true := bne_iff_ne.mpr c6
            by_cases c7 : a0 = 501
            · rw [if_pos c7] at H
              have c7b0 : (a0 == 501) = true := beq_iff_eq.mpr c7
              have c7b1 : (a0 != 501) = false := bne_eq_false_iff_eq.mpr c7
              clear c7
              obtain rfl := Option.some.inj H
              go_enter Try.func22, Try.ntmps22
              go_wp2
              go_ret
              exact ⟨by first | rfl | (simp; done) | (simp [*]; done), by repeat (first | exact Drawn0.refl _ | apply Drawn0.step)⟩
            · rw [if_neg c7] at H
              have c7b0 : (a0 == 501) = false := beq_eq_false_iff_ne.mpr c7
              have c7b1 : (a0 != 501) = true := bne_iff_ne.mpr c7
              by_cases c8 : a0 = 503
              · rw [if_pos c8] at H
                have c8b0 : (a0 == 503) = true := beq_iff_eq.mpr c8
                have c8b1 : (a0 != 503) = false := bne_eq_false_iff_eq.mpr c8
                clear c8
                obtain rfl := Option.some.inj H
                go_enter Try.func22, Try.ntmps22
                go_wp2
                go_ret
                exact ⟨by first | rfl | (simp; done) | (simp [*]; done), by repeat (first | exact Drawn0.refl _ | apply Drawn0.step)⟩
              · rw [if_neg c8] at H
                have c8b0 : (a0 == 503) = false := beq_eq_false_iff_ne.mpr c8
                have c8b1 : (a0 != 503) = true := bne_iff_ne.mpr c8
                by_cases c9 : a0 = 552
                · rw [if_pos c9] at H
                  have c9b0 : (a0 == 552) = true := beq_iff_eq.mpr c9
                  have c9b1 : (a0 != 552) = false := bne_eq_false_iff_eq.mpr c9
                  clear c9
                  obtain rfl := Option.some.inj H
                  go_enter Try.func22, Try.ntmps22
                  go_wp2
                  go_ret
                  exact ⟨by first | rfl | (simp; done) | (simp [*]; done), by repeat (first | exact Drawn0.refl _ | apply Drawn0.step)⟩
                · rw [if_neg c9] at H
                  have c9b0 : (a0 == 552) = false := beq_eq_false_iff_ne.mpr c9
                  have c9b1 : (a0 != 552) = true := bne_iff_ne.mpr c9
                  obtain rfl := Option.some.inj H
                  go_enter Try.func22, Try.ntmps22
                  go_wp2
                  go_ret
                  exact ⟨by first | rfl | (simp; done) | (simp [*]; done), by repeat (first | exact Drawn0.refl _ | apply Drawn0.step)⟩

/-! ### laws_FnExactReplyText: function 5 -/
def laws_FnExactReplyText.f (a0 : Int) : Option (Bool) := (spec_ReplyText.f a0).bind fun t101 => ((impl_ReplyText.f a0).bind fun t102 => (if t102.toList = t101.toList then (some true) else (some false)))
set_option maxHeartbeats 8000000 in
set_option maxRecDepth 100000 in
theorem laws_FnExactReplyText.calls (a0 : Int) (r : Bool) (w : World) (h : laws_FnExactReplyText.f a0 = some r) :
    Calls Try.prog 5 #[.int .i64 a0] w fun e w' => e = .returned (.bool r) ∧ Drawn0 w w' := by
  have H : ((spec_ReplyText.f a0).bind fun t101 => ((impl_ReplyText.f a0).bind fun t102 => (if t102.toList = t101.toList then (some true) else (some false)))) = some r := h
  clear h
  replace H := Option.bind_eq_some_iff.mp H
  obtain ⟨t101, A20, H⟩ := H
  replace H : ((impl_ReplyText.f a0).bind fun t102 => (if t102.toList = t101.toList then (some true) else (some false))) = some r := H
  have A2 := Aside0.mk A20
  clear A20
  replace H := Option.bind_eq_some_iff.mp H
  obtain ⟨t102, A30, H⟩ := H
  replace H : (if t102.toList = t101.toList then (some true) else (some false)) = some r := H
  have A3 := Aside0.mk A30
  clear A30
  by_cases c4 : t102.toList = t101.toList
  · rw [if_pos c4] at H
    have c4b0 : (t102.toList == t101.toList) = true := beq_iff_eq.mpr c4
    have c4b1 : (t102.toList != t101.toList) = false := bne_eq_false_iff_eq.mpr c4
    clear c4
    obtain rfl := Option.some.inj H
    go_enter Try.func5, Try.ntmps5
    go_wp2_with (first | ((with_reducible refine gate_callee (f := 21) rfl ?_); refine goesL_ (some 6) rfl rfl Try.func21 (by kernel_rfl) rfl #[.int .i64 a0] rfl (by (try simp only [List.map_toArray, List.map_cons, List.map_nil]); first | done | rfl | (simp only [List.length_drop, List.length_take]; rfl)) ?_; (with_reducible refine (spec_ReplyText.calls a0 t101 _ A2.out).mono ?_); rintro e w' ⟨rfl, ⟨nd, rfl⟩⟩; refine ⟨_, rfl, ?_⟩) | ((with_reducible refine gate_callee (f := 22) rfl ?_); refine goesL_ (some 8) rfl rfl Try.func22 (by kernel_rfl) rfl #[.int .i64 a0] rfl (by (try simp only [List.map_toArray, List.map_cons, List.map_nil]); first | done | rfl | (simp only [List.length_drop, List.length_take]; rfl)) ?_; (with_reducible refine (impl_ReplyText.calls a0 t102 _ A3.out).mono ?_); rintro e w' ⟨rfl, ⟨nd, rfl⟩⟩; refine ⟨_, rfl, ?_⟩))
    go_ret
    exact ⟨by first | rfl | (simp; done) | (simp [*]; done), by repeat (first | exact Drawn0.refl _ | apply Drawn0.step)⟩
  · rw [if_neg c4] at H
    have c4b0 : (t102.toList == t101.toList) = false := beq_eq_false_iff_ne.mpr c4
    have c4b1 : (t102.toList != t101.toList) = true := bne_iff_ne.mpr c4
    obtain rfl := Option.some.inj H
    go_enter Try.func5, Try.ntmps5
    go_wp2_with (first | ((with_reducible refine gate_callee (f := 21) rfl ?_); refine goesL_ (some 6) rfl rfl Try.func21 (by kernel_rfl) rfl #[.int .i64 a0] rfl (by (try simp only [List.map_toArray, List.map_cons, List.map_nil]); first | done | rfl | (simp only [List.length_drop, List.length_take]; rfl)) ?_; (with_reducible refine (spec_ReplyText.calls a0 t101 _ A2.out).mono ?_); rintro e w' ⟨rfl, ⟨nd, rfl⟩⟩; refine ⟨_, rfl, ?_⟩) | ((with_reducible refine gate_callee (f := 22) rfl ?_); refine goesL_ (some 8) rfl rfl Try.func22 (by kernel_rfl) rfl #[.int .i64 a0] rfl (by (try simp only [List.map_toArray, List.map_cons, List.map_nil]); first | done | rfl | (simp only [List.length_drop, List.length_take]; rfl)) ?_; (with_reducible refine (impl_ReplyText.calls a0 t102 _ A3.out).mono ?_); rintro e w' ⟨rfl, ⟨nd, rfl⟩⟩; refine ⟨_, rfl, ?_⟩))
    go_ret
    exact ⟨by first | rfl | (simp; done) | (simp [*]; done), by repeat (first | exact Drawn0.refl _ | apply Drawn0.step)⟩

/-- THE ONE PURE STATEMENT of laws_FnExactReplyText: yours. -/
def laws_FnExactReplyText.Pure : Prop := ∀ (a0 : Int), (Lit.int .i64 a0).wf = true → laws_FnExactReplyText.f a0 = some true
theorem laws_FnExactReplyText.walk (P : laws_FnExactReplyText.Pure) (a0 : Int) (w : World) (w0 : (Lit.int .i64 a0).wf = true) :
    Calls Try.prog 5 #[.int .i64 a0] w fun e w' => e = .returned (.bool true) ∧ Below w.heap.size w w' := by
  have h := P a0 w0
  refine (laws_FnExactReplyText.calls a0 true w h).mono ?_
  rintro e w' ⟨rfl, hd⟩
  exact ⟨rfl, hd.below⟩

end Go.Proofs.Ythlgdfjckhjiaaa.PFnExactReplyText
