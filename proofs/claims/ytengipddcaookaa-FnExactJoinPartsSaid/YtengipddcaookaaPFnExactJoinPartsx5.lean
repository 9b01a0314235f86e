/- Proved by hand: the walk of the law FnExactJoinParts over the contracts of what it calls; conditions: those in each statement. -/
import Derived.Test.YtengipddcaookaaPFnExactJoinPartsx0
import Derived.Test.YtengipddcaookaaPFnExactJoinPartsx1
import Derived.Test.YtengipddcaookaaPFnExactJoinPartsx2
import Derived.Test.YtengipddcaookaaPFnExactJoinPartsx3
import Derived.Test.YtengipddcaookaaPFnExactJoinPartsx4
-- by hand
namespace Go.Proofs.Ytengipddcaookaa.PFnExactJoinParts
open Go.RowKit Go.Proofs.Ytengipddcaookaa.X Go.Proofs.YtengipddcaookaaW.PrintWords Go.Proofs.YtengipddcaookaaW.PrintLast Go.Proofs.YtengipddcaookaaW.PrintMore
attribute [local go_sem] max2_int min2_int max_two min_two max_three min_three max_four min_four   -- for this text's walks alone
set_option linter.unusedVariables false
set_option linter.unusedSimpArgs false

/-! ### laws_markStringSS: function 39 (by hand: each inner row is lent, written, put back) -/
def laws_markStringSS.l0 : Nat → List (List ByteArray) → Int → Int → Option (Int × List (List ByteArray))
  | 0, _, _, _ => none
  | k + 1, x0, x1, x5 => if x5 < (x0.length : Int) then (if 0 ≤ x5 then ((laws_markStringS.f k (rd_L1 x0 x5) x1).bind fun bt => (laws_markStringSS.l0 k (x0.set (x5 : Int).toNat bt.2) bt.1 (wrap64 (x5 + 1)))) else (none)) else (some (x1, x0))
def laws_markStringSS.f (k : Nat) (l0 : List (List ByteArray)) (a1 : Int) : Option (Int × List (List ByteArray)) := laws_markStringSS.l0 k l0 a1 0
set_option maxHeartbeats 8000000 in
set_option maxRecDepth 100000 in
theorem laws_markStringSS.calls (k : Nat) (A0 : Option Addr) (c0 : Nat) (l0 : List (List ByteArray)) (a1 : Int) (r1 : Int) (r2 : List (List ByteArray)) (P0_ : Nat → Prop) (w0 w : World) (hB : Below w0.heap.size w0 w) (ho0 : Kd.S (Kd.slice 9 Kd.string) 22 w w0.heap.size P0_ (.slice A0 l0.length c0) l0) (h : laws_markStringSS.f k l0 a1 = some (r1, r2)) :
    Calls Try.prog 39 #[.slice A0 l0.length c0, .int .i64 a1] w fun e w' => e = .returned (.int .i64 r1) ∧ r2.length = l0.length ∧ Kd.S (Kd.slice 9 Kd.string) 22 w' w0.heap.size P0_ (.slice A0 l0.length c0) r2 ∧ Below w0.heap.size w0 w' ∧ Kept w w' P0_ := by
  have HO := Aside0.mk ho0
  have HB := Aside0.mk hB
  clear ho0 hB
  have H' := Aside0.mk (show laws_markStringSS.l0 k l0 a1 0 = some (r1, r2) from h)
  clear h
  go_enter Try.func39, Try.ntmps39
  go_wp2
  go_loopg [1, 5] k (fun kq v1 v5 w' => ∃ (x0_1 : List (List ByteArray)) (x1_1 : Int) (x5_1 : Int), v1 = .int .i64 x1_1 ∧ v5 = .int .i64 x5_1 ∧ Aside0 (laws_markStringSS.l0 kq x0_1 x1_1 x5_1 = some (r1, r2)) ∧ Aside0 (kq ≤ k) ∧ Aside0 (x0_1.length = l0.length) ∧ Aside0 (Kd.S (Kd.slice 9 Kd.string) 22 w' w0.heap.size P0_ (.slice A0 l0.length c0) x0_1) ∧ Aside0 (Below w0.heap.size w0 w') ∧ Aside0 (Kept w w' P0_))
  case atStart => exact ⟨l0, a1, 0, (by first | rfl | (simp; done)), (by first | rfl | (simp; done)), H', ⟨Nat.le_refl _⟩, ⟨rfl⟩, HO, HB, ⟨Kept.refl w P0_⟩⟩
  case round =>
    clear H' HO HB
    obtain ⟨x0_1, x1_1, x5_1, rfl, rfl, HA, HK1, HL, HO, HB, HK⟩ := hrel
    cases gk with
    | zero => exact absurd HA.out (by simp [laws_markStringSS.l0])
    | succ k1 =>
      have H := HA.out
      clear HA
      simp only [laws_markStringSS.l0, HL.out] at H
      by_cases c3 : x5_1 < (l0.length : Int)
      · rw [if_pos c3] at H
        have c3b0 : decide (x5_1 < (l0.length : Int)) = true := decide_eq_true c3
        by_cases c4 : 0 ≤ x5_1
        · rw [if_pos c4] at H
          have c4b0 : decide (0 ≤ x5_1) = true := decide_eq_true c4
          replace H := Option.bind_eq_some_iff.mp H
          obtain ⟨⟨t1, t2⟩, A50, H⟩ := H
          replace H : laws_markStringSS.l0 k1 (x0_1.set x5_1.toNat t2) t1 (wrap64 (x5_1 + 1)) = some (r1, r2) := H
          have A5 := Aside0.mk A50
          have H' := Aside0.mk H
          clear A50 H
          obtain ⟨g, eg⟩ : ∃ g, A0 = some ⟨g, 0, none⟩ := by
            obtain ⟨inner, ho⟩ := Kd.S_own HO.out
            rcases ho.2 with ⟨_, hn⟩ | ⟨g, cap, cur, hv, _⟩
            · have := HL.out; omega
            · injection hv with h1 _ _
              exact ⟨g, h1⟩
          subst eg
          obtain ⟨oki, c, hcl, hM, hcc, hoki, hH⟩ := Kd.S_lend HO.out ([] : List ByteArray) x5_1 c4 c3
          obtain ⟨v, rfl, hv0⟩ := hM
          have hv : Kd.string.R 9 _ w0.heap.size oki v (rd_L1 x0_1 x5_1) := hv0
          clear hv0
          have hcell := hcc 0 v rfl
          simp only [show (Kd.slice 9 Kd.string).sz = 1 from rfl, Nat.mul_one, Nat.add_zero] at hcell
          have HOk := Aside0.mk hoki
          clear hcc hcl hoki
          obtain ⟨Av, cv, ev⟩ := Kd.R_slice hv
          subst ev
          have HV := Aside0.mk (show Kd.string.R 9 _ w0.heap.size oki _ (rd_L1 x0_1 x5_1) from hv)
          have HH := Aside0.mk hH
          clear hv hH
          have p5 : (0 ≤ x5_1) = True := eq_true c4
          have q5 : (x5_1 < (l0.length : Int)) = True := eq_true c3
          clear c3 c4
          go_wp2_with (go_at_call 38; (with_reducible refine (laws_markStringS.calls k1 oki _ (rd_L1 x0_1 x5_1) x1_1 t1 t2 w0 _ HB.out HV.out A5.out).mono ?_); rintro e w7 ⟨rfl, ho, hb, hk⟩; have n0_ := Aside0.mk (Kd.H_back (Kd.H_step HH.out (fun k_ _ hn_ hlt_ => hk.2 k_ hlt_ hn_)) (x' := t2) ⟨_, rfl, Kd.R_reok rfl ho (fun k_ e_ => HV.out.1 k_ e_)⟩ (fun _ h_ => h_)); have n1_ := Aside0.mk (Kept.then_ (S := P0_) HK.out hk (fun k_ hs_ => .inl (HOk.out k_ hs_).1)); clear HB HV HH HO HK HOk ho hk; have HO := n0_; have HK := n1_; have HB := Aside0.mk hb; clear n0_ n1_ hb)
          go_roundg k1
          case measure => have := HK1.out; omega
          case rel => exact ⟨_, t1, (wrap64 (x5_1 + 1)), (by first | rfl | (simp; done) | (simp [*]; done)), (by first | rfl | (simp; done) | (simp [*]; done)), H', ⟨by have := HK1.out; omega⟩, ⟨by rw [List.length_set]; exact HL.out⟩, HO, HB, HK⟩
        · rw [if_neg c4] at H
          exact absurd H (by simp)
      · rw [if_neg c3] at H
        have c3b0 : decide (x5_1 < (l0.length : Int)) = false := decide_eq_false c3
        clear c3
        simp only [Option.some.injEq, Prod.mk.injEq] at H
        obtain ⟨rfl, rfl⟩ := H
        go_wp2
        go_ret
        exact ⟨rfl, HL.out, HO.out, HB.out, HK.out⟩

/-! ### laws_FnExactJoinParts: function 13 (by hand) -/
def laws_FnExactJoinParts.Ok (k : Nat) (l0 : List (List ByteArray)) (a1 : ByteArray) : Prop :=
  (a1.size : Int) > 1048576 ∨ ¬ (a1.size : Int) > 1048576 ∧ ∃ v, laws_szStringSS.f k l0 1048576 = some v ∧ (v < 0 ∨ ¬ v < 0 ∧ ∃ (r : List ByteArray) (b : Bool) (m1 : Int) (x1 : List (List ByteArray)) (m2 : Int) (g1 : List ByteArray),
    laws_toStringSS.f k l0 = some l0 ∧ spec_JoinParts.f k l0 a1 = some (r, b) ∧ impl_JoinParts.f k l0 a1 = some (r, b) ∧ laws_eqStringS.f k r r = some true ∧ laws_eqStringSS.f k l0 l0 = some true ∧ laws_markStringSS.f k l0 1 = some (m1, x1) ∧ ¬ m1 < 0 ∧ laws_markStringS.f k r 1 = some (m2, g1) ∧ g1.length = r.length ∧ laws_heldStringS.f k g1 1 = some m2 ∧ ¬ m2 < 0)
set_option maxHeartbeats 8000000 in
set_option maxRecDepth 100000 in
theorem laws_FnExactJoinParts.calls (k : Nat) (A0 : Option Addr) (c0 : Nat) (l0 : List (List ByteArray)) (a1 : ByteArray) (_r : Bool) (w : World) (hr0 : Kd.C (Kd.slice 9 Kd.string) w A0 l0.length l0) (hc0 : l0.length ≤ c0) (h : laws_FnExactJoinParts.Ok k l0 a1) :
    Calls Try.prog 13 #[.slice A0 l0.length c0, .string a1] w fun e w' => e = .returned (.bool true) ∧ Below w.heap.size w w' := by
  have HR0 := Aside0.mk hr0
  have HC0 := Aside0.mk hc0
  clear hr0 hc0
  rcases h with h | ⟨h, v, e1, h2⟩
  · have c2b0 : decide (1048576 < (a1.size : Int)) = true := decide_eq_true h
    have c2b1 : decide (1048576 < a1.size) = true := decide_eq_true (by omega)
    clear h
    go_enter Try.func13, Try.ntmps13
    go_wp2
    go_ret
    exact ⟨rfl, Below.refl _ _⟩
  have c2b0 : decide (1048576 < (a1.size : Int)) = false := decide_eq_false h
  have c2b1 : decide (1048576 < a1.size) = false := decide_eq_false (by omega)
  clear h
  have E1 := Aside0.mk e1
  clear e1
  rcases h2 with h2 | ⟨h2, r, b, m1, x1, m2, g1, e2, e3, e4, e5, e6, e7, h7, e8, hl8, e9, h9⟩
  · have c3b0 : decide (v < 0) = true := decide_eq_true h2
    clear h2
    go_enter Try.func13, Try.ntmps13
    go_wp2_with (go_at_call 41; (with_reducible refine (laws_szStringSS.calls k _ _ l0 1048576 v _ HR0.out HC0.out E1.out).mono ?_); rintro e w' ⟨rfl, ⟨nd, rfl⟩⟩)
    go_ret
    exact ⟨rfl, pw_below_drewN (Below.refl _ _) _⟩
  have c3b0 : decide (v < 0) = false := decide_eq_false h2
  have c7b0 : decide (m1 < 0) = false := decide_eq_false h7
  have c9b0 : decide (m2 < 0) = false := decide_eq_false h9
  have cb : (b != b) = false := by simp
  have E2 := Aside0.mk e2
  have E3 := Aside0.mk e3
  have E4 := Aside0.mk e4
  have E5 := Aside0.mk e5
  have E6 := Aside0.mk e6
  have E7 := Aside0.mk e7
  have E8 := Aside0.mk e8
  have HL := Aside0.mk hl8
  have E9 := Aside0.mk e9
  clear h2 h7 h9 e2 e3 e4 e5 e6 e7 e8 hl8 e9
  go_enter Try.func13, Try.ntmps13
  go_wp2_with (go_at_call 41; (with_reducible refine (laws_szStringSS.calls k _ _ l0 1048576 v _ HR0.out HC0.out E1.out).mono ?_); rintro e w' ⟨rfl, ⟨nd, rfl⟩⟩)
  go_wp2_with (go_at_call 42; (with_reducible refine (laws_toStringSS.calls k _ _ l0 l0 _ (Kd.C_drewN HR0.out _) HC0.out E2.out).mono ?_); rintro e w2 ⟨v2, rfl, ho2, hb2⟩; have B2 := Aside0.mk (below_step (pw_below_drewN (Below.refl w.heap.size w) nd) hb2); obtain ⟨A2, c2, rfl⟩ := Kd.S_slice ho2; have X2 := Aside0.mk ho2; clear ho2 hb2)
  go_wp2_with (go_at_call 36; (with_reducible refine (spec_JoinParts.calls k _ _ l0 a1 r b _ (Kd.S_reads' X2.out).2.2 (Kd.S_reads' X2.out).2.1 E3.out).mono ?_); rintro e w3 ⟨v3, rfl, ho3, hb3⟩; have B3 := Aside0.mk (below_step B2.out hb3); obtain ⟨Aw, cw, rfl⟩ := Kd.R_slice ho3; have HW := Aside0.mk (Kd.R_reads' ho3).2.2; have HWc := Aside0.mk (Kd.R_reads' ho3).2.1; clear ho3 hb3)
  go_wp2_with (go_at_call 42; (with_reducible refine (laws_toStringSS.calls k _ _ l0 l0 _ (Kd.C_below HR0.out B3.out) HC0.out E2.out).mono ?_); rintro e w4 ⟨v4, rfl, ho4, hb4⟩; have B4 := Aside0.mk (below_step B3.out hb4); have D4 := Aside0.mk hb4; obtain ⟨Ax, cx, rfl⟩ := Kd.S_slice ho4; have HX := Aside0.mk ho4; clear ho4 hb4)
  go_wp2_with (go_at_call 35; (with_reducible refine (impl_JoinParts.calls k _ _ l0 a1 r b _ (Kd.S_reads' HX.out).2.2 (Kd.S_reads' HX.out).2.1 E4.out).mono ?_); rintro e w5 ⟨v5, rfl, ho5, hb5⟩; have B5 := Aside0.mk (below_step B4.out hb5); have D5 := Aside0.mk (below_step D4.out hb5); have F5 := Aside0.mk hb5; obtain ⟨Ag, cg, rfl⟩ := Kd.R_slice ho5; have HG := Aside0.mk ho5; clear ho5 hb5)
  go_wp2_with (go_at_call 23; (with_reducible refine (laws_eqStringS.calls k _ _ r _ _ r true _ (Kd.R_reads' HG.out).2.2 (Kd.R_reads' HG.out).2.1 (Kd.C_below HW.out D5.out) HWc.out E5.out).mono ?_); rintro e w' ⟨rfl, ⟨n6, rfl⟩⟩)
  go_wp2_with (go_at_call 42; (with_reducible refine (laws_toStringSS.calls k _ _ l0 l0 _ (Kd.C_below HR0.out (pw_below_drewN B5.out _)) HC0.out E2.out).mono ?_); rintro e w7 ⟨v7, rfl, ho7, hb7⟩; have B7 := Aside0.mk (below_step (pw_below_drewN B5.out _) hb7); have D7 := Aside0.mk (below_step (pw_below_drewN D5.out _) hb7); have F7 := Aside0.mk (below_step (pw_below_drewN F5.out _) hb7); have G7 := Aside0.mk (below_step (pw_below_drewN (Below.refl w5.heap.size w5) _) hb7); obtain ⟨A7, c7, rfl⟩ := Kd.S_slice ho7; have X7 := Aside0.mk ho7; clear ho7 hb7)
  go_wp2_with (go_at_call 37; (with_reducible refine (laws_eqStringSS.calls k _ _ l0 _ _ l0 true _ (Kd.C_below (Kd.S_reads' HX.out).2.2 F7.out) (Kd.S_reads' HX.out).2.1 (Kd.S_reads' X7.out).2.2 (Kd.S_reads' X7.out).2.1 E6.out).mono ?_); rintro e w' ⟨rfl, ⟨n8, rfl⟩⟩)
  go_wp2_with (go_at_call 39; (with_reducible refine (laws_markStringSS.calls k _ _ l0 1 m1 x1 (fun k_ => k_ < w4.heap.size) w3 _ (pw_below_drewN D7.out _) (Kd.S_drewN (Kd.S_below (Kd.S_mono (Kd.S_bound HX.out) (fun _ hk_ => hk_.2.2.1)) F7.out) _) E7.out).mono ?_); rintro e w9 ⟨rfl, _, hx9, hb9, hk9⟩; have D9 := Aside0.mk hb9; have B9 := Aside0.mk (below_step B3.out hb9); have HG9 := Aside0.mk (Kd.R_mono (ok' := fun _ => True) (Kd.R_step (Kd.R_bound (Kd.R_drewN (Kd.R_below HG.out G7.out) n8)) (fun k_ hk_ hlt_ => hk9.2 k_ hlt_ (fun hp_ => absurd hp_ (Nat.not_lt.2 hk_.2.1)))) (fun _ _ => trivial)); clear hx9 hb9 hk9)
  go_wp2_with (go_at_call 23; (with_reducible refine (laws_eqStringS.calls k _ _ r _ _ r true _ (Kd.R_reads' HG9.out).2.2 (Kd.R_reads' HG9.out).2.1 (Kd.C_below HW.out D9.out) HWc.out E5.out).mono ?_); rintro e w' ⟨rfl, ⟨n10, rfl⟩⟩)
  go_wp2_with (go_at_call 38; (with_reducible refine (laws_markStringS.calls k (fun _ => True) _ r 1 m2 g1 w3 _ (pw_below_drewN D9.out _) (Kd.R_lower (Kd.R_drewN HG9.out _) D4.out.size) E8.out).mono ?_); rintro e w11 ⟨rfl, hg11, hb11, _⟩; have D11 := Aside0.mk hb11; have B11 := Aside0.mk (below_step B3.out hb11); have HG11 := Aside0.mk (Kd.R_reads' hg11).2.2; clear hg11 hb11)
  have CH : ∀ W, Kd.C Kd.string W Ag g1.length g1 → Calls Try.prog 43 #[.slice Ag r.length cg, .int .i64 1] W (fun e w' => e = .returned (.int .i64 m2) ∧ Below W.heap.size W w') := by
    intro W hc
    have hz := laws_heldStringS.calls k Ag cg g1 1 m2 W hc (by rw [HL.out]; exact (Kd.R_reads' HG.out).2.1) E9.out
    rw [HL.out] at hz
    exact hz
  have CH := Aside0.mk CH
  go_wp2_with (go_at_call 43; (with_reducible refine (CH.out _ HG11.out).mono ?_); rintro e w12 ⟨rfl, hb12⟩; have B12 := Aside0.mk (below_step B11.out hb12); have D12 := Aside0.mk (below_step D11.out hb12); have G12 := Aside0.mk hb12; clear hb12)
  go_wp2_with (go_at_call 42; (with_reducible refine (laws_toStringSS.calls k _ _ l0 l0 _ (Kd.C_below HR0.out B12.out) HC0.out E2.out).mono ?_); rintro e w13 ⟨v13, rfl, ho13, hb13⟩; have B13 := Aside0.mk (below_step B12.out hb13); have D13 := Aside0.mk (below_step D12.out hb13); have G13 := Aside0.mk (below_step G12.out hb13); obtain ⟨A13, c13, rfl⟩ := Kd.S_slice ho13; have X13 := Aside0.mk ho13; clear ho13 hb13)
  go_wp2_with (go_at_call 35; (with_reducible refine (impl_JoinParts.calls k _ _ l0 a1 r b _ (Kd.S_reads' X13.out).2.2 (Kd.S_reads' X13.out).2.1 E4.out).mono ?_); rintro e w14 ⟨v14, rfl, ho14, hb14⟩; have B14 := Aside0.mk (below_step B13.out hb14); have D14 := Aside0.mk (below_step D13.out hb14); have G14 := Aside0.mk (below_step G13.out hb14); obtain ⟨Ah, ch, rfl⟩ := Kd.R_slice ho14; have HH := Aside0.mk ho14; clear ho14 hb14)
  go_wp2_with (go_at_call 23; (with_reducible refine (laws_eqStringS.calls k _ _ r _ _ r true _ (Kd.R_reads' HH.out).2.2 (Kd.R_reads' HH.out).2.1 (Kd.C_below HW.out D14.out) HWc.out E5.out).mono ?_); rintro e w' ⟨rfl, ⟨n15, rfl⟩⟩)
  go_wp2_with (go_at_call 43; (with_reducible refine (CH.out _ (Kd.C_below HG11.out (pw_below_drewN G14.out _))).mono ?_); rintro e w16 ⟨rfl, hb16⟩; have B16 := Aside0.mk (below_step (pw_below_drewN B14.out _) hb16); clear hb16)
  go_ret
  exact ⟨rfl, B16.out⟩

end Go.Proofs.Ytengipddcaookaa.PFnExactJoinParts
