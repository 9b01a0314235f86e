/- Printed walks; conditions: those in each statement. -/
import Derived.Test.YtncdadcmghglkaaGreatDoorVFnExactCountPartsQt
import Derived.Test.YtncdadcmghglkaaGreatDoorVFnExactCountPartsYt
import Derived.Test.YtncdadcmghglkaaGreatDoorPFnExactCountPartsx0
import Derived.Test.YtncdadcmghglkaaGreatDoorPFnExactCountPartsx11
import Derived.Test.YtncdadcmghglkaaGreatDoorPFnExactCountPartsx14
-- short
-- dense
-- sq
namespace Go.Proofs.YtncdadcmghglkaaGreatDoor.PFnExactCountParts
open Go.RowKit Go.Proofs.YtncdadcmghglkaaGreatDoor.X Go.Proofs.YtncdadcmghglkaaGreatDoorW.PrintWords Go.Proofs.YtncdadcmghglkaaGreatDoorW.PrintLast Go.Proofs.YtncdadcmghglkaaGreatDoorW.PrintMore
attribute [local go_sem] max2_int min2_int max_two min_two max_three min_three max_four min_four   -- for this text's walks alone
set_option linter.unusedVariables false
set_option linter.unusedSimpArgs false
def impl_AtomValid.f (k : Nat) (a0 : ByteArray) : Option (Bool) := if (a0.size : Int) ≥ 1 then (if (a0.size : Int) ≤ 40 then ((impl_allBytes_isAtomByte.f k a0).bind fun t471 => (some t471)) else (some false)) else (some false)
set_option maxHeartbeats 8000000 in
set_option maxRecDepth 100000 in
theorem impl_AtomValid.calls (k : Nat) (a0 : ByteArray) (r : Bool) (w : World) (h : impl_AtomValid.f k a0 = some r) :
  Calls Tryz.prog 193 #[.string a0] w fun e w' => e = .returned (.bool r) ∧ Drawn0 w w' := by
 have H : (if (a0.size : Int) ≥ 1 then (if (a0.size : Int) ≤ 40 then ((impl_allBytes_isAtomByte.f k a0).bind fun t471 => (some t471)) else (some false)) else (some false)) = some r := h
 clear h
 replace H := sp H
 rcases H with ⟨c2, H⟩ | ⟨c2, H⟩
 ·
  have c2b0 : decide (1 ≤ (a0.size : Int)) = true := decide_eq_true c2
  have c2b1 : decide (1 ≤ a0.size) = true := decide_eq_true (by omega)
  clear c2
  replace H := sp H
  rcases H with ⟨c3, H⟩ | ⟨c3, H⟩
  ·
   have c3b0 := decide_eq_true c3
   have c3b1 : decide (a0.size ≤ 40) = true := decide_eq_true (by omega)
   clear c3
   replace H := bd H; obtain ⟨t471, A4, H⟩ := H
   obtain rfl := Option.some.inj H
   go_enter Tryz.func193, Tryz.ntmps193
   go_wp2_with (first | (go_at_call 138; (with_reducible refine (impl_allBytes_isAtomByte.calls k a0  t471 _ A4.out).mono ?_); rintro e w' ⟨rfl, ⟨nd, rfl⟩⟩))
   go_ret
   exact ⟨rs, dn⟩
  ·
   have c3b0 := decide_eq_false c3
   have c3b1 : decide (a0.size ≤ 40) = false := decide_eq_false (by omega)
   clear c3
   obtain rfl := Option.some.inj H
   go_enter Tryz.func193, Tryz.ntmps193
   go_wp2
   go_ret
   exact ⟨rs, dn⟩
 ·
  have c2b0 : decide (1 ≤ (a0.size : Int)) = false := decide_eq_false c2
  have c2b1 : decide (1 ≤ a0.size) = false := decide_eq_false (by omega)
  clear c2
  obtain rfl := Option.some.inj H
  go_enter Tryz.func193, Tryz.ntmps193
  go_wp2
  go_ret
  exact ⟨rs, dn⟩
def impl_QuoteWord.l0 : Nat → ByteArray → List Int → Int → Int → Option (ByteArray)
 | 0, _, _, _, _ => none
 | k + 1, x0, x3, x15, x16 => if x16 < x15 then (if 0 ≤ x16 then (if x16 < (x0.size : Int) then (if (bt x0 x16) = 34 then (if x3.length < 140737488355328 then ((some (x3 ++ [92] : List Int)).bind fun y477 => (if y477.length < 140737488355328 then (impl_QuoteWord.l0 k x0 (y477 ++ [bt x0 x16]) x15 (wrap64 (x16 + 1))) else (none))) else (none)) else (if (bt x0 x16) = 92 then (if x3.length < 140737488355328 then ((some (x3 ++ [92] : List Int)).bind fun y483 => (if y483.length < 140737488355328 then (impl_QuoteWord.l0 k x0 (y483 ++ [bt x0 x16]) x15 (wrap64 (x16 + 1))) else (none))) else (none)) else (if x3.length < 140737488355328 then (impl_QuoteWord.l0 k x0 (x3 ++ [bt x0 x16]) x15 (wrap64 (x16 + 1))) else (none)))) else (none)) else (none)) else (if x3.length < 140737488355328 then (some (strOfNums (x3 ++ [34]))) else (none))
def impl_QuoteWord.f (k : Nat) (a0 : ByteArray) : Option (ByteArray) := (impl_TextValid.f k a0).bind fun t472 => (if t472 = true then ((impl_AtomValid.f k a0).bind fun t473 => (if t473 = true then (some a0) else (impl_QuoteWord.l0 k a0 (([34] : List Int)) (a0.size : Int) 0))) else (some (⟨#[]⟩ : ByteArray)))
set_option maxHeartbeats 8000000 in
set_option maxRecDepth 100000 in
theorem impl_QuoteWord.calls (k : Nat) (a0 : ByteArray) (r : ByteArray) (w : World) (h : impl_QuoteWord.f k a0 = some r) :
  Calls Tryz.prog 166 #[.string a0] w fun e w' => e = .returned (.string r) ∧ Below w.heap.size w w' := by
 have HB := ak (Below.refl w.heap.size w)
 have H : ((impl_TextValid.f k a0).bind fun t472 => (if t472 = true then ((impl_AtomValid.f k a0).bind fun t473 => (if t473 = true then (some a0) else (impl_QuoteWord.l0 k a0 (([34] : List Int)) (a0.size : Int) 0))) else (some (⟨#[]⟩ : ByteArray)))) = some r := h
 clear h
 replace H := bd H; obtain ⟨t472, A2, H⟩ := H; replace H := sb H
 rcases H with ⟨rfl, H⟩ | ⟨rfl, H⟩
 ·
  replace H := bd H; obtain ⟨t473, A4, H⟩ := H; replace H := sb H
  rcases H with ⟨rfl, H⟩ | ⟨rfl, H⟩
  ·
   obtain rfl := Option.some.inj H
   go_enter Tryz.func166, Tryz.ntmps166
   go_wp2_with (first | (refine gL 89 7 Tryz.func89 #[.string a0] ?_; (with_reducible refine (impl_TextValid.calls k a0 true _ A2.out).mono ?_); rintro e w' ⟨rfl, ⟨nd, rfl⟩⟩; refine ⟨_, rfl, ?_⟩) | (refine gL 193 11 Tryz.func193 #[.string a0] ?_; (with_reducible refine (impl_AtomValid.calls k a0 true _ A4.out).mono ?_); rintro e w' ⟨rfl, ⟨nd, rfl⟩⟩; refine ⟨_, rfl, ?_⟩))
   go_ret
   exact ⟨er, ul HB.out⟩
  ·
   obtain ⟨y474, Ny474⟩ := nm ([34] : List Int)
   rw [← Ny474.out] at H
   (try rw [Option.bind_some] at H)
   have H' := ak H; clear H
   go_enter Tryz.func166, Tryz.ntmps166
   go_wp2_with (first | (refine gL 89 7 Tryz.func89 #[.string a0] ?_; (with_reducible refine (impl_TextValid.calls k a0 true _ A2.out).mono ?_); rintro e w' ⟨rfl, ⟨nd, rfl⟩⟩; refine ⟨_, rfl, ?_⟩) | (refine gL 193 11 Tryz.func193 #[.string a0] ?_; (with_reducible refine (impl_AtomValid.calls k a0 false _ A4.out).mono ?_); rintro e w' ⟨rfl, ⟨nd, rfl⟩⟩; refine ⟨_, rfl, ?_⟩) | ((with_reducible refine gate_dst (N := 13) rfl ?_); refine Kd.R_lit (Kd.int .u8) _ 5 ?hg (N := 13) ?hd (xs := ([34] : List Int)) (inner := [.int .u8 34]) (ok := fun _ => True) (okp := fun _ => True) ?hr ?hp (fun _ hk => hk) trivial (Below.refl _ _) (Nat.le_refl _) (by simp) ?_; (case hd => rfl); (case hg => rfl); (case hr => first | (go_simp; done) | (go_simp; rfl)); (case hp => exact (Reps.one (show Kd.M (Kd.int .u8) _ _ _ 34 [.int .u8 34] from rfl) (Reps.none _ _))); intro v475 w6 ho7 hb hg_ hnew_; clear hg_ hnew_; (first | rw [← Ny474.out] at ho7 | (simp only [Int.reduceToNat] at ho7; rw [← Ny474.out] at ho7)); have HO476 := ak (Kd.R_lower ho7 (below_size (ul HB.out))); replace HB := bs HB hb; clear hb ho7))
   go_loopg [3, 16] k (fun kq v3 v16 w' => ∃ (x3_1 : List Int) (x16_1 : Int), v16 = .int .i64 x16_1 ∧ Aside0 (impl_QuoteWord.l0 kq a0 x3_1 (a0.size : Int) x16_1 = some r) ∧ Aside0 (kq ≤ k) ∧ Aside0 (Kd.R (Kd.int .u8) 5 w' w.heap.size (fun _ => True) v3 x3_1) ∧ Aside0 (Below w.heap.size w w'))
   case atStart => exact ⟨(y474), (0), rs, H', ⟨Nat.le_refl _⟩, ⟨ur HO476.out⟩, ⟨ul HB.out⟩⟩
   case round =>
    clear H'
    try clear c1
    try clear p2
    try clear c3
    try clear c5
    obtain ⟨x3_1, x16_1, rfl, HA, HK1, HO_3, HB⟩ := hrel
    cases gk with
    | zero => exact absurd HA.out (by simp [impl_QuoteWord.l0])
    | succ k1 =>
     have H := HA.out
     clear HA
     simp only [impl_QuoteWord.l0] at H
     replace H := sd H
     rcases H with ⟨c8b0, H⟩ | ⟨c8b0, H⟩
     ·
      replace H := nde H; obtain ⟨c9b0, H⟩ := H; replace H := nde H; obtain ⟨c10b0, H⟩ := H; replace H := sq H
      rcases H with ⟨c12b0, c12b1, H⟩ | ⟨c12, c12b0, c12b1, H⟩
      ·
       replace H := nl H; obtain ⟨LMc13, H⟩ := H
       obtain ⟨y477, Ny477⟩ := nm (x3_1 ++ [92])
       rw [← Ny477.out] at H
       (try rw [Option.bind_some] at H)
       replace H := nl H; obtain ⟨LMc15, H⟩ := H
       obtain ⟨y480, Ny480⟩ := nm (y477 ++ [bt a0 x16_1])
       rw [← Ny480.out] at H
       (try rw [Option.bind_some] at H)
       have H' := ak H; clear H
       obtain ⟨p11, q11, hx11⟩ := bx a0 x16_1
       go_wp2_with (first | ((with_reducible refine gate_builtin (b := .append) (xs := #[.tmp 29, .tmp 30]) rfl ?_); at_builtin; refine Kd.R_append (Kd.int .u8) (w0 := w) w.heap.size rfl (.tmp 29) (.tmp 30) 22 5 (.int .u8 0) 1 rfl Tryz.underlying22 info5 rfl (by decide) (by omega) u3 x3_1 92 [.int .u8 92] (fun _ => True) (fun _ => False) rfl rfl ?aP (fun _ hk => hk.elim) ?aF ?aO ?aB ?aS ?aL ?_; (case aP => exact rfl); (case aB => exact (ul HB.out)); (case aF => exact (fun _ _ => trivial)); (case aO => exact (ur HO_3.out)); (case aS => exact (below_size (ul HB.out))); (case aL => have := LMc13.out; omega); intro v478 w16 ho hb hg hat; rw [← Ny477.out] at ho; have n0_ := ak (hb); have n1_ := ak (ho); clear HB; clear HO_3; have HB := n0_; have HO479 := n1_; clear n0_ n1_; clear ho hb hg hat; have p14 : 0 ≤ (x16_1 : Int) := of_decide_eq_true (by assumption); have q14 : x16_1 < (a0.size : Int) := of_decide_eq_true (by assumption); have hx14 := bt_at a0 x16_1; replace p14 := eq_true p14; replace q14 := eq_true q14) | ((with_reducible refine gate_builtin (b := .append) (xs := #[.tmp 32, .tmp 36]) rfl ?_); at_builtin; refine Kd.R_append (Kd.int .u8) (w0 := w) w.heap.size rfl (.tmp 32) (.tmp 36) 22 5 (.int .u8 0) 1 rfl Tryz.underlying22 info5 rfl (by decide) (by omega) v478 y477 (bt a0 x16_1) [.int .u8 (bt a0 x16_1)] (fun _ => True) (fun _ => False) rfl rfl ?aP (fun _ hk => hk.elim) ?aF ?aO ?aB ?aS ?aL ?_; (case aP => exact rfl); (case aB => exact (ul HB.out)); (case aF => exact (fun _ _ => trivial)); (case aO => exact (ur HO479.out)); (case aS => exact (below_size (ul HB.out))); (case aL => have := LMc15.out; omega); intro v481 w17 ho hb hg hat; rw [← Ny480.out] at ho; have n0_ := ak (hb); have n1_ := ak (ho); clear HB; clear HO479; have HB := n0_; have HO482 := n1_; clear n0_ n1_; clear ho hb hg hat))
       go_roundg k1
       case measure => have := HK1.out; omega
       case rel => exact ⟨(y480), (wrap64 (x16_1 + 1)), rs, H', ⟨by have := HK1.out; omega⟩, ⟨ur HO482.out⟩, ⟨ul HB.out⟩⟩
      ·
       replace H := sq H
       rcases H with ⟨c19b0, c19b1, H⟩ | ⟨c19, c19b0, c19b1, H⟩
       ·
        replace H := nl H; obtain ⟨LMc20, H⟩ := H
        obtain ⟨y483, Ny483⟩ := nm (x3_1 ++ [92])
        rw [← Ny483.out] at H
        (try rw [Option.bind_some] at H)
        replace H := nl H; obtain ⟨LMc22, H⟩ := H
        obtain ⟨y486, Ny486⟩ := nm (y483 ++ [bt a0 x16_1])
        rw [← Ny486.out] at H
        (try rw [Option.bind_some] at H)
        have H' := ak H; clear H
        obtain ⟨p11, q11, hx11⟩ := bx a0 x16_1
        obtain ⟨p18, q18, hx18⟩ := bx a0 x16_1
        go_wp2_with (first | ((with_reducible refine gate_builtin (b := .append) (xs := #[.tmp 29, .tmp 30]) rfl ?_); at_builtin; refine Kd.R_append (Kd.int .u8) (w0 := w) w.heap.size rfl (.tmp 29) (.tmp 30) 22 5 (.int .u8 0) 1 rfl Tryz.underlying22 info5 rfl (by decide) (by omega) u3 x3_1 92 [.int .u8 92] (fun _ => True) (fun _ => False) rfl rfl ?aP (fun _ hk => hk.elim) ?aF ?aO ?aB ?aS ?aL ?_; (case aP => exact rfl); (case aB => exact (ul HB.out)); (case aF => exact (fun _ _ => trivial)); (case aO => exact (ur HO_3.out)); (case aS => exact (below_size (ul HB.out))); (case aL => have := LMc20.out; omega); intro v484 w23 ho hb hg hat; rw [← Ny483.out] at ho; have n0_ := ak (hb); have n1_ := ak (ho); clear HB; clear HO_3; have HB := n0_; have HO485 := n1_; clear n0_ n1_; clear ho hb hg hat; have p21 : 0 ≤ (x16_1 : Int) := of_decide_eq_true (by assumption); have q21 : x16_1 < (a0.size : Int) := of_decide_eq_true (by assumption); have hx21 := bt_at a0 x16_1; replace p21 := eq_true p21; replace q21 := eq_true q21) | ((with_reducible refine gate_builtin (b := .append) (xs := #[.tmp 32, .tmp 36]) rfl ?_); at_builtin; refine Kd.R_append (Kd.int .u8) (w0 := w) w.heap.size rfl (.tmp 32) (.tmp 36) 22 5 (.int .u8 0) 1 rfl Tryz.underlying22 info5 rfl (by decide) (by omega) v484 y483 (bt a0 x16_1) [.int .u8 (bt a0 x16_1)] (fun _ => True) (fun _ => False) rfl rfl ?aP (fun _ hk => hk.elim) ?aF ?aO ?aB ?aS ?aL ?_; (case aP => exact rfl); (case aB => exact (ul HB.out)); (case aF => exact (fun _ _ => trivial)); (case aO => exact (ur HO485.out)); (case aS => exact (below_size (ul HB.out))); (case aL => have := LMc22.out; omega); intro v487 w24 ho hb hg hat; rw [← Ny486.out] at ho; have n0_ := ak (hb); have n1_ := ak (ho); clear HB; clear HO485; have HB := n0_; have HO488 := n1_; clear n0_ n1_; clear ho hb hg hat))
        go_roundg k1
        case measure => have := HK1.out; omega
        case rel => exact ⟨(y486), (wrap64 (x16_1 + 1)), rs, H', ⟨by have := HK1.out; omega⟩, ⟨ur HO488.out⟩, ⟨ul HB.out⟩⟩
       ·
        replace H := nl H; obtain ⟨LMc26, H⟩ := H
        obtain ⟨y489, Ny489⟩ := nm (x3_1 ++ [bt a0 x16_1])
        rw [← Ny489.out] at H
        (try rw [Option.bind_some] at H)
        have H' := ak H; clear H
        obtain ⟨p11, q11, hx11⟩ := bx a0 x16_1
        obtain ⟨p18, q18, hx18⟩ := bx a0 x16_1
        obtain ⟨p25, q25, hx25⟩ := bx a0 x16_1
        go_wp2_with (first | ((with_reducible refine gate_builtin (b := .append) (xs := #[.tmp 32, .tmp 36]) rfl ?_); at_builtin; refine Kd.R_append (Kd.int .u8) (w0 := w) w.heap.size rfl (.tmp 32) (.tmp 36) 22 5 (.int .u8 0) 1 rfl Tryz.underlying22 info5 rfl (by decide) (by omega) u3 x3_1 (bt a0 x16_1) [.int .u8 (bt a0 x16_1)] (fun _ => True) (fun _ => False) rfl rfl ?aP (fun _ hk => hk.elim) ?aF ?aO ?aB ?aS ?aL ?_; (case aP => exact rfl); (case aB => exact (ul HB.out)); (case aF => exact (fun _ _ => trivial)); (case aO => exact (ur HO_3.out)); (case aS => exact (below_size (ul HB.out))); (case aL => have := LMc26.out; omega); intro v490 w27 ho hb hg hat; rw [← Ny489.out] at ho; have n0_ := ak (hb); have n1_ := ak (ho); clear HB; clear HO_3; have HB := n0_; have HO491 := n1_; clear n0_ n1_; clear ho hb hg hat))
        go_roundg k1
        case measure => have := HK1.out; omega
        case rel => exact ⟨(y489), (wrap64 (x16_1 + 1)), rs, H', ⟨by have := HK1.out; omega⟩, ⟨ur HO491.out⟩, ⟨ul HB.out⟩⟩
     ·
      replace H := nl H; obtain ⟨LMc28, H⟩ := H
      obtain ⟨y492, Ny492⟩ := nm (x3_1 ++ [34])
      rw [← Ny492.out] at H
      (try rw [Option.bind_some] at H)
      obtain rfl := Option.some.inj H
      go_wp2_with (first | ((with_reducible refine gate_builtin (b := .append) (xs := #[.tmp 39, .tmp 40]) rfl ?_); at_builtin; refine Kd.R_append (Kd.int .u8) (w0 := w) w.heap.size rfl (.tmp 39) (.tmp 40) 22 5 (.int .u8 0) 1 rfl Tryz.underlying22 info5 rfl (by decide) (by omega) u3 x3_1 34 [.int .u8 34] (fun _ => True) (fun _ => False) rfl rfl ?aP (fun _ hk => hk.elim) ?aF ?aO ?aB ?aS ?aL ?_; (case aP => exact rfl); (case aB => exact (ul HB.out)); (case aF => exact (fun _ _ => trivial)); (case aO => exact (ur HO_3.out)); (case aS => exact (below_size (ul HB.out))); (case aL => have := LMc28.out; omega); intro v493 w29 ho hb hg hat; rw [← Ny492.out] at ho; have n0_ := ak (hb); have n1_ := ak (ho); clear HB; clear HO_3; have HB := n0_; have HO494 := n1_; clear n0_ n1_; clear ho hb hg hat; have hcv30 := own_string (P := Tryz.prog) Tryz.underlying22 Tryz.underlying5 Tryz.underlying9 (Kd.own_of_R HO494.out)))
      go_ret
      exact ⟨er, ul HB.out⟩
 ·
  obtain rfl := Option.some.inj H
  go_enter Tryz.func166, Tryz.ntmps166
  go_wp2_with (first | (refine gL 89 7 Tryz.func89 #[.string a0] ?_; (with_reducible refine (impl_TextValid.calls k a0 false _ A2.out).mono ?_); rintro e w' ⟨rfl, ⟨nd, rfl⟩⟩; refine ⟨_, rfl, ?_⟩))
  go_ret
  exact ⟨er, ul HB.out⟩
def impl_kindText.l0 : Nat → ByteArray → List (S69) → Int → Int → Option (ByteArray)
 | 0, _, _, _, _ => none
 | k + 1, x3, x13, x14, x15 => if x15 < x14 then (if 0 ≤ x15 then (if x15 < (x13.length : Int) then (if 2 + ((rd_T69 x13 x15).f0).size ≤ 9223372036854775807 then (if ((⟨#[59, 32]⟩ : ByteArray) ++ ((rd_T69 x13 x15).f0)).size + 1 ≤ 9223372036854775807 then ((impl_QuoteWord.f k ((rd_T69 x13 x15).f1)).bind fun t498 => (if (((⟨#[59, 32]⟩ : ByteArray) ++ ((rd_T69 x13 x15).f0)) ++ (⟨#[61]⟩ : ByteArray)).size + t498.size ≤ 9223372036854775807 then (if x3.size + ((((⟨#[59, 32]⟩ : ByteArray) ++ ((rd_T69 x13 x15).f0)) ++ (⟨#[61]⟩ : ByteArray)) ++ t498).size ≤ 9223372036854775807 then (impl_kindText.l0 k (x3 ++ ((((⟨#[59, 32]⟩ : ByteArray) ++ ((rd_T69 x13 x15).f0)) ++ (⟨#[61]⟩ : ByteArray)) ++ t498)) x13 x14 (wrap64 (x15 + 1))) else (none)) else (none))) else (none)) else (none)) else (none)) else (none)) else (some x3)
def impl_kindText.f (k : Nat) (a0_0 : ByteArray) (a0_1 : ByteArray) (l0_2 : List (S69)) : Option (ByteArray) := if a0_0.size + 1 ≤ 9223372036854775807 then (if (a0_0 ++ (⟨#[47]⟩ : ByteArray)).size + a0_1.size ≤ 9223372036854775807 then (impl_kindText.l0 k ((a0_0 ++ (⟨#[47]⟩ : ByteArray)) ++ a0_1) l0_2 (l0_2.length : Int) 0) else (none)) else (none)
def impl_kindText.T5 : Bool × List (List Nat × List Nat) := (true, [([], []), ([], []), ([1], [1]), ([2], [2]), ([3], [3]), ([], []), ([5], [5]), ([6], [6]), ([4, 7], [4, 7]), ([0, 8], [0, 8]), ([9, 7, 0, 1, 2, 3, 4, 5, 6, 7, 8, 9], [0, 9])])
def impl_kindText.B5 : List Nat := [0, 0, 2, 6, 14, 0, 32, 96, 254, 511, 1023]
theorem impl_kindText.tab5 : rtab .any (opsOf Tryz.f137 5) = impl_kindText.T5 := by kernel_rfl
theorem impl_kindText.bits5 : waitsOk impl_kindText.T5.2 impl_kindText.B5 = true := by kernel_rfl
set_option maxHeartbeats 8000000 in
set_option maxRecDepth 100000 in
theorem impl_kindText.calls (k : Nat) (a0_0 : ByteArray) (a0_1 : ByteArray) (A0_2 : Option Addr) (c0_2 : Nat) (l0_2 : List (S69)) (r : ByteArray) (w : World) (hr0_2 : Kd.C k69 w A0_2 l0_2.length l0_2) (hc0_2 : l0_2.length ≤ c0_2) (h : impl_kindText.f k a0_0 a0_1 l0_2 = some r) :
  Calls Tryz.prog 137 #[.agg #[.string a0_0, .string a0_1, .slice A0_2 l0_2.length c0_2]] w fun e w' => e = .returned (.string r) ∧ Below w.heap.size w w' := by
 have hu61 := Tryz.underlying61
 have hu69 := Tryz.underlying69
 have HR0_2 := ak hr0_2
 have HC0_2 := ak hc0_2
 clear hr0_2 hc0_2
 have HB := ak (Below.refl w.heap.size w)
 have H : (if a0_0.size + 1 ≤ 9223372036854775807 then (if (a0_0 ++ (⟨#[47]⟩ : ByteArray)).size + a0_1.size ≤ 9223372036854775807 then (impl_kindText.l0 k ((a0_0 ++ (⟨#[47]⟩ : ByteArray)) ++ a0_1) l0_2 (l0_2.length : Int) 0) else (none)) else (none)) = some r := h
 clear h
 replace H := nn H; obtain ⟨c2, H⟩ := H
 have c2b0 := eq_true c2
 have c2b1 := decide_eq_true c2
 try have c2b2 : (9223372036854775807 < a0_0.size + 1) = False := eq_false (Nat.not_lt.2 c2)
 replace H := nn H; obtain ⟨c3, H⟩ := H
 have c3b0 := eq_true c3
 have c3b1 := decide_eq_true c3
 try have c3b3 : (9223372036854775807 < a0_0.size + 1 + a0_1.size) = False := by have h_ := (eq_false (Nat.not_lt.2 c3) : (9223372036854775807 < (a0_0 ++ (⟨#[47]⟩ : ByteArray)).size + a0_1.size) = False); simp only [ByteArray.size_append] at h_; exact h_
 try have c3b2 : (9223372036854775807 < (a0_0 ++ (⟨#[47]⟩ : ByteArray)).size + a0_1.size) = False := eq_false (Nat.not_lt.2 c3)
 have H' := ak H; clear H
 go_enter Tryz.func137, Tryz.ntmps137
 go_wp2_with (first | (refine bE 1 #[.string a0_0, .string a0_1, .slice A0_2 l0_2.length c0_2] 61 ?_; intro gb495 hg w4 hbox hb; have BK495 := ak (hbox); have GW495 := ge_ HB hg; have GE495 := ge_ HB hg; replace HB := bs HB hb; clear hb hbox hg; obtain ⟨hcz5_0, hcz5_1, hcz5_2, hfz5_0, hfz5_1, hfz5_2⟩ := cz3 BK495.out))
 go_loopg [3, 15] k (fun kq v3 v15 w' => ∃ (x3_1 : ByteArray) (x15_1 : Int), v3 = .string x3_1 ∧ v15 = .int .i64 x15_1 ∧ Aside0 (impl_kindText.l0 kq x3_1 l0_2 (l0_2.length : Int) x15_1 = some r) ∧ Aside0 (kq ≤ k) ∧ Aside0 (w'.heap[gb495]? = some (.cells #[.string a0_0, .string a0_1, (.slice A0_2 l0_2.length c0_2)] 61 (0, 0))) ∧ Aside0 (Below w.heap.size w w'))
 case atStart => exact ⟨((a0_0 ++ (⟨#[47]⟩ : ByteArray)) ++ a0_1), (0), rs, rs, H', ⟨Nat.le_refl _⟩, ⟨ub BK495.out⟩, ⟨bb⟩⟩
 case round =>
  clear H'
  try clear c1
  try clear c2
  try clear c2b0
  try clear c2b1
  try clear c2b2
  try clear p2
  try clear c3
  try clear c3b0
  try clear c3b1
  try clear c3b2
  try clear hcz5_0
  try clear hcz5_1
  try clear hcz5_2
  try clear hfz5_0
  try clear hfz5_1
  try clear hfz5_2
  obtain ⟨x3_1, x15_1, rfl, rfl, HA, HK1, BK495, HB⟩ := hrel
  cases gk with
  | zero => exact absurd HA.out (by simp [impl_kindText.l0])
  | succ k1 =>
   have H := HA.out
   clear HA
   simp only [impl_kindText.l0] at H
   replace H := sd H
   rcases H with ⟨c6b0, H⟩ | ⟨c6b0, H⟩
   ·
    replace H := nde H; obtain ⟨c7b0, H⟩ := H; replace H := nde H; obtain ⟨c8b0, H⟩ := H; replace H := nn H; obtain ⟨c9, H⟩ := H
    have c9b0 := eq_true c9
    have c9b1 := decide_eq_true c9
    try have c9b2 : (9223372036854775807 < 2 + ((rd_T69 l0_2 x15_1).f0).size) = False := eq_false (Nat.not_lt.2 c9)
    replace H := nn H; obtain ⟨c10, H⟩ := H
    have c10b0 := eq_true c10
    have c10b1 := decide_eq_true c10
    try have c10b3 : (9223372036854775807 < 2 + ((rd_T69 l0_2 x15_1).f0).size + 1) = False := by have h_ := (eq_false (Nat.not_lt.2 c10) : (9223372036854775807 < ((⟨#[59, 32]⟩ : ByteArray) ++ ((rd_T69 l0_2 x15_1).f0)).size + 1) = False); simp only [ByteArray.size_append] at h_; exact h_
    try have c10b2 : (9223372036854775807 < ((⟨#[59, 32]⟩ : ByteArray) ++ ((rd_T69 l0_2 x15_1).f0)).size + 1) = False := eq_false (Nat.not_lt.2 c10)
    replace H := bd H; obtain ⟨t498, A11, H⟩ := H; replace H := nn H; obtain ⟨c12, H⟩ := H
    have c12b0 := eq_true c12
    have c12b1 := decide_eq_true c12
    try have c12b3 : (9223372036854775807 < 2 + ((rd_T69 l0_2 x15_1).f0).size + 1 + t498.size) = False := by have h_ := (eq_false (Nat.not_lt.2 c12) : (9223372036854775807 < (((⟨#[59, 32]⟩ : ByteArray) ++ ((rd_T69 l0_2 x15_1).f0)) ++ (⟨#[61]⟩ : ByteArray)).size + t498.size) = False); simp only [ByteArray.size_append] at h_; exact h_
    try have c12b2 : (9223372036854775807 < (((⟨#[59, 32]⟩ : ByteArray) ++ ((rd_T69 l0_2 x15_1).f0)) ++ (⟨#[61]⟩ : ByteArray)).size + t498.size) = False := eq_false (Nat.not_lt.2 c12)
    replace H := nn H; obtain ⟨c13, H⟩ := H
    have c13b0 := eq_true c13
    have c13b1 := decide_eq_true c13
    try have c13b3 : (9223372036854775807 < x3_1.size + (2 + ((rd_T69 l0_2 x15_1).f0).size + 1 + t498.size)) = False := by have h_ := (eq_false (Nat.not_lt.2 c13) : (9223372036854775807 < x3_1.size + ((((⟨#[59, 32]⟩ : ByteArray) ++ ((rd_T69 l0_2 x15_1).f0)) ++ (⟨#[61]⟩ : ByteArray)) ++ t498).size) = False); simp only [ByteArray.size_append] at h_; exact h_
    try have c13b2 : (9223372036854775807 < x3_1.size + ((((⟨#[59, 32]⟩ : ByteArray) ++ ((rd_T69 l0_2 x15_1).f0)) ++ (⟨#[61]⟩ : ByteArray)) ++ t498).size) = False := eq_false (Nat.not_lt.2 c13)
    have H' := ak H; clear H
    have p496 := zi x15_1
    have q496 := zj x15_1 l0_2.length
    obtain ⟨ad496, e496, hx496_0, hx496_1⟩ := at_T69 HR0_2.out x15_1 p496 q496
    cases e496
    replace hx496_0 := cl HB.out hx496_0
    replace hx496_1 := cl HB.out hx496_1
    replace p496 := eq_true p496
    replace q496 := eq_true q496
    try go_wp2_with (first | (refine bE 5 #[.string (⟨#[]⟩ : ByteArray), .string (⟨#[]⟩ : ByteArray)] 69 ?_; intro gb497 hg w14 hbox hb; have BK497 := ak (hbox); have GW497 := ak ((by rw [hg]; exact (below_size bb) : w.heap.size ≤ gb497)); have GE497 := ak ((by rw [hg]; exact (below_size bb) : w.heap.size ≤ gb497)); have NB495_497 := ak ((by rw [hg]; exact Nat.ne_of_lt (blk_lt (ub BK495.out)) : gb495 ≠ gb497)); have NB497_495 := ak ((by rw [hg]; exact Nat.ne_of_gt (blk_lt (ub BK495.out)) : gb497 ≠ gb495)); replace BK495 := kb BK495 hb; replace HB := ak (below_step bb hb); clear hb hbox hg; have hnb15 := NB497_495.out; have hnc15 := NB495_497.out; obtain ⟨hcz16_0, hcz16_1, hfz16_0, hfz16_1⟩ := cz2 BK497.out))
    have n0_ : Aside0 (((w14.setCell ⟨gb497, 0, none⟩ (.string ((rd_T69 l0_2 x15_1).f0))).setCell ⟨gb497, 1, none⟩ (.string ((rd_T69 l0_2 x15_1).f1))).heap[gb495]? = some (.cells #[.string a0_0, .string a0_1, .slice (some ad496) l0_2.length c0_2] 61 (0, 0))) := ⟨by (with_reducible repeat (first | refine blk_drewN ?_ _ | refine blk_drew ?_ | refine blk_alloc ?_ _)); refine blk_far ?_ NB495_497.out _; (with_reducible repeat (first | refine blk_drewN ?_ _ | refine blk_drew ?_ | refine blk_alloc ?_ _)); refine blk_far ?_ NB495_497.out _; (with_reducible repeat (first | refine blk_drewN ?_ _ | refine blk_drew ?_ | refine blk_alloc ?_ _)); exact BK495.out⟩
    have n1_ : Aside0 (((w14.setCell ⟨gb497, 0, none⟩ (.string ((rd_T69 l0_2 x15_1).f0))).setCell ⟨gb497, 1, none⟩ (.string ((rd_T69 l0_2 x15_1).f1))).heap[gb497]? = some (.cells #[.string ((rd_T69 l0_2 x15_1).f0), .string ((rd_T69 l0_2 x15_1).f1)] 69 (0, 0))) := ⟨by (with_reducible repeat (first | refine blk_drewN ?_ _ | refine blk_drew ?_ | refine blk_alloc ?_ _)); refine blk_put (cs := #[.string ((rd_T69 l0_2 x15_1).f0), .string (⟨#[]⟩ : ByteArray)]) ?_ 1 _ rfl; (with_reducible repeat (first | refine blk_drewN ?_ _ | refine blk_drew ?_ | refine blk_alloc ?_ _)); refine blk_put (cs := #[.string (⟨#[]⟩ : ByteArray), .string (⟨#[]⟩ : ByteArray)]) ?_ 0 _ rfl; (with_reducible repeat (first | refine blk_drewN ?_ _ | refine blk_drew ?_ | refine blk_alloc ?_ _)); exact BK497.out⟩
    have n2_ : Aside0 (Below w.heap.size w ((w14.setCell ⟨gb497, 0, none⟩ (.string ((rd_T69 l0_2 x15_1).f0))).setCell ⟨gb497, 1, none⟩ (.string ((rd_T69 l0_2 x15_1).f1)))) := ⟨bb⟩
    (try clear BK495)
    (try clear BK497)
    (try clear HB)
    generalize ((w14.setCell ⟨gb497, 0, none⟩ (.string ((rd_T69 l0_2 x15_1).f0))).setCell ⟨gb497, 1, none⟩ (.string ((rd_T69 l0_2 x15_1).f1))) = w17 at n0_ n1_ n2_ ⊢
    have BK495 := n0_
    have BK497 := n1_
    have HB := n2_
    clear n0_ n1_ n2_
    replace BK495 := ak (blk_drew BK495.out)
    replace BK497 := ak (blk_drew BK497.out)
    replace HB := ak (below_drew1 HB.out)
    refine ro [7] [0, 1, 5, 2, 3, 4, 6, 7, 8, 9, 10] (fun w' => w'.cell? ⟨gb497, 0, none⟩ = some (.string ((rd_T69 l0_2 x15_1).f0)) ∧ w'.cell? ⟨gb497, 1, none⟩ = some (.string ((rd_T69 l0_2 x15_1).f1))) ⟨(blk_cell BK497.out 0).trans rfl, (blk_cell BK497.out 1).trans rfl⟩ ?_
    generalize w17.drew = w18 at BK495 BK497 HB ⊢
    repeat (refine lk (v := ?_) (a' := ?_) (gk.trans rfl) rfl rfl ?_ ?_ ?_; rotate_left; (focus (rintro w' ⟨s0, s1⟩; go_simp; with_reducible rfl)); rotate_left; (focus (simp only [Act.put, l_a, l_b, l_c, i64_w, i32_w]; rfl)))
    refine ld (N := some 26) (gk.trans rfl) rfl rfl (fun K hK => ?_)
    refine goes_ Tryz.func166 (by kernel_rfl) rfl #[.string ((rd_T69 l0_2 x15_1).f1)] (by rfl) rfl rfl ma ?_
    with_reducible refine (impl_QuoteWord.calls k1 ((rd_T69 l0_2 x15_1).f1) t498 _ A11.out).mono ?_
    rintro e w19 ⟨rfl, hb⟩
    refine ⟨_, rfl, ?_⟩
    replace BK495 := kb BK495 hb
    replace BK497 := kb BK497 hb
    replace HB := ak (below_step bb hb)
    (try clear hb)
    refine hK.out _ _ ⟨(blk_cell BK497.out 0).trans rfl, (blk_cell BK497.out 1).trans rfl⟩ ?_
    clear hK K
    refine no (a' := ?_) ?_ ?_
    rotate_left
    ·
     show Act.put _ (some 26) _ = _
     simp only [Act.put, l_a, l_b, l_c, i64_w, i32_w]
     rfl
    repeat (refine lk (v := ?_) (a' := ?_) (gk.trans rfl) rfl rfl ?_ ?_ ?_; rotate_left; (focus (rintro w' ⟨s0, s1⟩; go_simp; with_reducible rfl)); rotate_left; (focus (simp only [Act.put, l_a, l_b, l_c, i64_w, i32_w]; rfl)))
    refine on ?_
    try go_wp2
    go_roundg k1
    case measure => have := HK1.out; omega
    case rel => exact ⟨(x3_1 ++ ((((⟨#[59, 32]⟩ : ByteArray) ++ ((rd_T69 l0_2 x15_1).f0)) ++ (⟨#[61]⟩ : ByteArray)) ++ t498)), (wrap64 (x15_1 + 1)), rs, rs, H', ⟨by have := HK1.out; omega⟩, ⟨ub BK495.out⟩, ⟨bb⟩⟩
   ·
    obtain rfl := Option.some.inj H
    go_wp2
    go_ret
    exact ⟨er, bb⟩
end Go.Proofs.YtncdadcmghglkaaGreatDoor.PFnExactCountParts
