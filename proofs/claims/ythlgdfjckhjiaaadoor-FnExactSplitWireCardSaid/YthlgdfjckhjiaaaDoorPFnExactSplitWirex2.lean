/- Proved by hand: the walk of the law FnExactSplitWire over the contracts of what it calls; conditions: those in each statement. -/
import Derived.Test.YthlgdfjckhjiaaaDoorPFnExactSplitWirex0
import Derived.Test.YthlgdfjckhjiaaaDoorPFnExactSplitWirex1
-- by hand
namespace Go.Proofs.YthlgdfjckhjiaaaDoor.PFnExactSplitWire
open Go.RowKit Go.Proofs.YthlgdfjckhjiaaaDoor.X Go.Proofs.YthlgdfjckhjiaaaDoorW.PrintWords Go.Proofs.YthlgdfjckhjiaaaDoorW.PrintLast Go.Proofs.YthlgdfjckhjiaaaDoorW.PrintMore
attribute [local go_sem] max2_int min2_int max_two min_two max_three min_three max_four min_four   -- for this text's walks alone
set_option linter.unusedVariables false
set_option linter.unusedSimpArgs false

/-! ### laws_FnExactSplitWire: function 3 (by hand). impl.SplitWire hands back a row whose room is less than its block: told by the block's cells. -/
theorem sw_calls (a0 : ByteArray) (hs : a0.size < 4294967281) (w : World) (hg_ : MaxOk w) :
    Calls Tryd.prog 8 #[.string a0] w fun e w' => e = .returned (.tuple #[.slice (some ⟨w.heap.size, 0, none⟩) (swN a0) (swN a0), .string ((swP a0).getD (swN a0) ByteArray.empty)]) ∧ w'.heap[w.heap.size]? = some (.cells ((swP a0).map Value.string).toArray 9 (0, 0)) ∧ Below w.heap.size w w' := by
  obtain ⟨m, hm⟩ := hg_
  have hS := Tryd.strings_Split a0 ⟨#[13, 10]⟩ m w hs hm (by decide)
  have hl := swP_length a0
  have hn := swN_le a0
  change Calls Tryd.prog 20 #[.string a0, .string ⟨#[13, 10]⟩] w (fun e w' => e = .returned (.slice (some ⟨w.heap.size, 0, none⟩) (swN a0 + 1) (swN a0 + 1)) ∧ w' = w.alloc (.cells ((swP a0).map Value.string).toArray 9)) at hS
  have hc := alloc_cell w (swP a0) 9 (swN a0) (by omega)
  generalize swN a0 = n at hS hl hn hc ⊢
  generalize swP a0 = l at hS hl hc ⊢
  have hS := Aside0.mk hS
  have c1 : (0 : Int) ≤ (n : Int) := by omega
  have c2 : (n : Int) ≤ (n : Int) + 1 := by omega
  have c3 : (n : Int) < (n : Int) + 1 := by omega
  have cw : wrap64 ((n : Int) + 1 - 1) = (n : Int) := by unfold wrap64; omega
  go_enter Tryd.func8, Tryd.ntmps8
  go_wp2_with (go_at_call 20; (with_reducible refine hS.out.mono ?_); rintro e w' ⟨rfl, rfl⟩)
  go_quiet (fail)
  go_wp2
  go_ret2
  have hgd : l.getD n ByteArray.empty = l[n] := by simp [List.getD_eq_getElem?_getD, List.getElem?_eq_getElem (show n < l.length by omega)]
  exact ⟨by rw [hgd]; rfl, heap_alloc_new w _, by first | exact below_alloc (Below.refl _ _) _ | exact pw_below_drewN (below_alloc (Below.refl _ _) _) _⟩
/-- A row of strings, read out of a block's first cells. -/
theorem blk_reads {w : World} {g n : Nat} {l : List ByteArray} (hb : w.heap[g]? = some (.cells (l.map Value.string).toArray 9 (0, 0))) (hn : n ≤ l.length) (hm : n ≤ 9223372036854775807) : Kd.C Kd.string w (some ⟨g, 0, none⟩) (l.take n).length (l.take n) := by
  have hlt : (l.take n).length = n := by rw [List.length_take]; omega
  refine ⟨rfl, by omega, fun _ => ⟨_, rfl, fun j p hj => ⟨[.string p], rfl, rfl, fun i u hu => ?_⟩⟩⟩
  have hjl : j < n := by have := (List.getElem?_eq_some_iff.mp hj).1; omega
  cases i with
  | zero =>
    cases hu
    rw [show (Addr.add ⟨g, 0, none⟩ (j * Kd.string.sz + 0)) = ⟨g, j, none⟩ from by show Addr.add _ (j * 1 + 0) = _; simp [Addr.add]; exact fun h_ => h_.symm]
    rw [blk_cell hb j]
    rw [List.getElem?_take_of_lt hjl] at hj
    simp [hj]
  | succ i => simp at hu
set_option maxHeartbeats 8000000 in
set_option maxRecDepth 100000 in
theorem mark_calls (k : Nat) (g n : Nat) (l : List ByteArray) (hn : n ≤ l.length) (a1 r1 : Int) (r2 : List ByteArray) (w0 w : World) (hB : Below w0.heap.size w0 w) (hg : w0.heap.size ≤ g) (hb : w.heap[g]? = some (.cells (l.map Value.string).toArray 9 (0, 0))) (h : laws_markStringS.f k (l.take n) a1 = some (r1, r2)) :
    Calls Tryd.prog 10 #[.slice (some ⟨g, 0, none⟩) n n, .int .i64 a1] w fun e w' => e = .returned (.int .i64 r1) ∧ Below w0.heap.size w0 w' ∧ ∃ l' : List ByteArray, l'.length = l.length ∧ l'.take n = r2 ∧ w'.heap[g]? = some (.cells (l'.map Value.string).toArray 9 (0, 0)) := by
  have HB := Aside0.mk hB
  have HG := Aside0.mk hg
  have HN := Aside0.mk hn
  have HBk := Aside0.mk hb
  have H' := Aside0.mk (show laws_markStringS.l0 k (l.take n) a1 0 = some (r1, r2) from h)
  clear h hB hg hb hn
  go_enter Tryd.func10, Tryd.ntmps10
  go_wp2
  go_loopg [1, 5] k (fun kq v1 v5 w' => ∃ (l_1 : List ByteArray) (x1_1 : Int) (x5_1 : Int), v1 = .int .i64 x1_1 ∧ v5 = .int .i64 x5_1 ∧ Aside0 (laws_markStringS.l0 kq (l_1.take n) x1_1 x5_1 = some (r1, r2)) ∧ Aside0 (kq ≤ k) ∧ Aside0 (l_1.length = l.length) ∧ Aside0 (w'.heap[g]? = some (.cells (l_1.map Value.string).toArray 9 (0, 0))) ∧ Aside0 (Below w0.heap.size w0 w'))
  case atStart => exact ⟨l, a1, 0, (by first | rfl | (simp; done)), (by first | rfl | (simp; done)), H', ⟨Nat.le_refl _⟩, ⟨rfl⟩, HBk, HB⟩
  case round =>
    clear H' HB HBk
    obtain ⟨l_1, x1_1, x5_1, rfl, rfl, HA, HK1, HL, HBk, HB⟩ := hrel
    have hlt : (l_1.take n).length = n := by rw [List.length_take]; have := HL.out; have := HN.out; omega
    cases gk with
    | zero => exact absurd HA.out (by simp [laws_markStringS.l0])
    | succ k1 =>
      have H := HA.out
      clear HA
      simp only [laws_markStringS.l0, hlt] at H
      by_cases c3 : x5_1 < (n : Int)
      · rw [if_pos c3] at H
        have c3b0 : decide (x5_1 < (n : Int)) = true := decide_eq_true c3
        replace H := Option.bind_eq_some_iff.mp H
        obtain ⟨t, A40, H⟩ := H
        by_cases c4 : 0 ≤ x5_1
        · rw [if_pos c4] at H
          have A4 := Aside0.mk A40
          obtain ⟨j, rfl⟩ := Int.eq_ofNat_of_zero_le c4
          have hjn : j < n := by omega
          have hjl : j < l_1.length := by have := HL.out; have := HN.out; omega
          have e2 : (l_1.take n).set ((j : Nat) : Int).toNat t = (l_1.set j t).take n := by rw [Int.toNat_natCast, List.take_set]
          rw [e2] at H
          have H' := Aside0.mk H
          have p5 : (0 ≤ (j : Int)) = True := eq_true c4
          have q5 : ((j : Int) < (n : Int)) = True := eq_true c3
          have HJ := Aside0.mk (And.intro hjn hjl)
          clear A40 H e2 c3 c4 hjn hjl hlt
          go_wp2_with (go_at_call 21; (with_reducible refine (laws_markText.calls k1 x1_1 t _ A4.out).mono ?_); rintro e w7 ⟨rfl, hb⟩; have n0_ := Aside0.mk (blk_below HBk.out hb); have n1_ := Aside0.mk (below_step HB.out hb); clear HB HBk hb; have HB := n1_; have HBk := n0_; clear n0_ n1_; have hx6 : w7.cell? ⟨g, j, none⟩ = some (.string (l_1[j]'HJ.out.2)) := (blk_cell HBk.out j).trans (by simp [HJ.out.2]); have hf6 := blk_frozen HBk.out j)
          go_roundg k1
          case measure => have := HK1.out; omega
          case rel => exact ⟨l_1.set j t, (wrap64 (x1_1 + 1)), (wrap64 ((j : Int) + 1)), (by first | rfl | (simp; done) | (simp [*]; done)), (by first | rfl | (simp; done) | (simp [*]; done)), H', ⟨by have := HK1.out; omega⟩, ⟨by rw [List.length_set]; exact HL.out⟩, ⟨by have hq := blk_set HBk.out j (.string t); rw [hq]; simp⟩, ⟨below_set HB.out HG.out⟩⟩
        · rw [if_neg c4] at H
          exact absurd H (by simp)
      · rw [if_neg c3] at H
        have c3b0 : decide (x5_1 < (n : Int)) = false := decide_eq_false c3
        clear c3
        simp only [Option.some.injEq, Prod.mk.injEq] at H
        obtain ⟨rfl, rfl⟩ := H
        clear hlt
        go_wp2
        go_ret
        exact ⟨rfl, HB.out, l_1, HL.out, rfl, HBk.out⟩
def laws_FnExactSplitWire.Ok (k : Nat) (a0 : ByteArray) : Prop :=
  (a0.size : Int) > 1048576 ∨ ¬ (a0.size : Int) > 1048576 ∧ ∃ (r : List ByteArray) (x : ByteArray) (m2 : Int) (g1 : List ByteArray),
    spec_SplitWire.f k a0 = some (r, x) ∧ impl_SplitWire.f a0 = some (r, x) ∧ laws_eqStringS.f k r r = some true ∧ laws_markStringS.f k r 1 = some (m2, g1) ∧ g1.length = r.length ∧ laws_heldStringS.f k g1 1 = some m2 ∧ ¬ m2 < 0
set_option maxHeartbeats 8000000 in
set_option maxRecDepth 100000 in
theorem laws_FnExactSplitWire.calls (k : Nat) (a0 : ByteArray) (_r : Bool) (w : World) (hg_ : MaxOk w) (h : laws_FnExactSplitWire.Ok k a0) :
    Calls Tryd.prog 3 #[.string a0] w fun e w' => e = .returned (.bool true) ∧ Below w.heap.size w w' := by
  have HM := Aside0.mk hg_
  clear hg_
  rcases h with h | ⟨h, r, x, m2, g1, e1, e2, e3, e4, hl4, e5, h5⟩
  · have c2b0 : decide (1048576 < (a0.size : Int)) = true := decide_eq_true h
    have c2b1 : decide (1048576 < a0.size) = true := decide_eq_true (by omega)
    clear h
    go_enter Tryd.func3, Tryd.ntmps3
    go_wp2
    go_ret
    exact ⟨rfl, Below.refl _ _⟩
  have c2b0 : decide (1048576 < (a0.size : Int)) = false := decide_eq_false h
  have c2b1 : decide (1048576 < a0.size) = false := decide_eq_false (by omega)
  have hs : a0.size < 4294967281 := by omega
  clear h
  have c9b0 : decide (m2 < 0) = false := decide_eq_false h5
  have hP : (swP a0).take (swN a0) = r ∧ (swP a0).getD (swN a0) ByteArray.empty = x := by
    unfold impl_SplitWire.f at e2
    rw [if_pos hs] at e2
    injection e2 with e2
    injection e2 with e2 e3
    exact ⟨e2, e3⟩
  have hlen := swP_length a0
  have hle := swN_le a0
  have hrl : r.length = swN a0 := by rw [← hP.1, List.length_take]; omega
  have CS : ∀ W, MaxOk W → Calls Tryd.prog 8 #[.string a0] W fun e w' => e = .returned (.tuple #[.slice (some ⟨W.heap.size, 0, none⟩) r.length r.length, .string x]) ∧ w'.heap[W.heap.size]? = some (.cells ((swP a0).map Value.string).toArray 9 (0, 0)) ∧ Below W.heap.size W w' := by
    intro W hW
    have := sw_calls a0 hs W hW
    rw [hP.2, ← hrl] at this
    exact this
  have RD : ∀ (W : World) (g : Nat), W.heap[g]? = some (.cells ((swP a0).map Value.string).toArray 9 (0, 0)) → Kd.C Kd.string W (some ⟨g, 0, none⟩) r.length r := by
    intro W g hb
    have := blk_reads (n := swN a0) hb (by omega) (by omega)
    rw [hP.1] at this
    exact this
  have CM : ∀ (w0 W : World) (g : Nat), Below w0.heap.size w0 W → w0.heap.size ≤ g → W.heap[g]? = some (.cells ((swP a0).map Value.string).toArray 9 (0, 0)) →
      Calls Tryd.prog 10 #[.slice (some ⟨g, 0, none⟩) r.length r.length, .int .i64 1] W fun e w' => e = .returned (.int .i64 m2) ∧ Below w0.heap.size w0 w' ∧ Kd.C Kd.string w' (some ⟨g, 0, none⟩) g1.length g1 := by
    intro w0 W g hb hg hblk
    have := mark_calls k g (swN a0) (swP a0) (by omega) 1 m2 g1 w0 W hb hg hblk (by rw [hP.1]; exact e4)
    rw [← hrl] at this
    refine this.mono ?_
    rintro e w' ⟨he, hb', l', hl1, hl2, hb2⟩
    have hr := blk_reads (n := swN a0) hb2 (by omega) (by omega)
    rw [← hrl, hl2] at hr
    exact ⟨he, hb', hr⟩
  have CH : ∀ (W : World) (g : Nat), Kd.C Kd.string W (some ⟨g, 0, none⟩) g1.length g1 → Calls Tryd.prog 11 #[.slice (some ⟨g, 0, none⟩) r.length r.length, .int .i64 1] W (fun e w' => e = .returned (.int .i64 m2) ∧ Below W.heap.size W w') := by
    intro W g hc
    have hz := laws_heldStringS.calls k (some ⟨g, 0, none⟩) r.length g1 1 m2 W hc (by omega) e5
    rw [hl4] at hz
    exact hz
  have CE : ∀ (W : World) (g cw : Nat) (Aw : Option Addr), Kd.C Kd.string W (some ⟨g, 0, none⟩) r.length r → Kd.C Kd.string W Aw r.length r → r.length ≤ cw → Calls Tryd.prog 9 #[.slice (some ⟨g, 0, none⟩) r.length r.length, .slice Aw r.length cw] W (fun e w' => e = .returned (.bool true) ∧ Drawn0 W w') := by
    intro W g cw Aw h1 h2 h3
    exact laws_eqStringS.calls k _ _ r _ _ r true W h1 (Nat.le_refl _) h2 h3 e3
  have CS := Aside0.mk CS
  have RD := Aside0.mk RD
  have CM := Aside0.mk CM
  have CH := Aside0.mk CH
  have CE := Aside0.mk CE
  have E1 := Aside0.mk e1
  clear e1 e2 e3 e4 e5 hl4 h5 hP hlen hle hrl hs
  go_enter Tryd.func3, Tryd.ntmps3
  go_wp2_with (go_at_call 7; (with_reducible refine (spec_SplitWire.calls k a0 r x _ E1.out).mono ?_); rintro e w3 ⟨v3, rfl, ho3, hb3⟩; have B3 := Aside0.mk hb3; obtain ⟨Aw, cw, rfl⟩ := Kd.R_slice ho3; have HW := Aside0.mk (Kd.R_reads' ho3).2.2; have HWc := Aside0.mk (Kd.R_reads' ho3).2.1; clear ho3 hb3)
  go_wp2_with (go_at_call 8; (with_reducible refine (CS.out _ (HM.out.below B3.out)).mono ?_); rintro e w5 ⟨rfl, hk5, hb5⟩; have B5 := Aside0.mk (below_step B3.out hb5); have D5 := Aside0.mk hb5; have HG := Aside0.mk hk5; clear hk5 hb5)
  go_wp2_with (go_at_call 9; (with_reducible refine (CE.out _ _ _ _ (RD.out _ _ HG.out) (Kd.C_below HW.out D5.out) HWc.out).mono ?_); rintro e w' ⟨rfl, ⟨n6, rfl⟩⟩)
  go_wp2_with (go_at_call 10; (with_reducible refine (CM.out w3 _ _ (pw_below_drewN D5.out _) (Nat.le_refl _) (blk_drewN HG.out _)).mono ?_); rintro e w11 ⟨rfl, hb11, hg11⟩; have D11 := Aside0.mk hb11; have B11 := Aside0.mk (below_step B3.out hb11); have HG11 := Aside0.mk hg11; clear hg11 hb11)
  go_wp2_with (go_at_call 11; (with_reducible refine (CH.out _ _ HG11.out).mono ?_); rintro e w12 ⟨rfl, hb12⟩; have B12 := Aside0.mk (below_step B11.out hb12); have D12 := Aside0.mk (below_step D11.out hb12); have G12 := Aside0.mk hb12; clear hb12)
  go_wp2_with (go_at_call 8; (with_reducible refine (CS.out _ (HM.out.below B12.out)).mono ?_); rintro e w14 ⟨rfl, hk14, hb14⟩; have B14 := Aside0.mk (below_step B12.out hb14); have D14 := Aside0.mk (below_step D12.out hb14); have G14 := Aside0.mk (below_step G12.out hb14); have HH := Aside0.mk hk14; clear hk14 hb14)
  go_wp2_with (go_at_call 9; (with_reducible refine (CE.out _ _ _ _ (RD.out _ _ HH.out) (Kd.C_below HW.out D14.out) HWc.out).mono ?_); rintro e w' ⟨rfl, ⟨n15, rfl⟩⟩)
  go_wp2_with (go_at_call 11; (with_reducible refine (CH.out _ _ (Kd.C_below HG11.out (pw_below_drewN G14.out _))).mono ?_); rintro e w16 ⟨rfl, hb16⟩; have B16 := Aside0.mk (below_step (pw_below_drewN B14.out _) hb16); clear hb16)
  go_ret
  exact ⟨rfl, B16.out⟩

end Go.Proofs.YthlgdfjckhjiaaaDoor.PFnExactSplitWire
