/- Printed walks; conditions: those in each statement. -/
import Derived.Test.YtncdadcmghglkaaGreatDoorVFnExactCountPartsQt
import Derived.Test.YtncdadcmghglkaaGreatDoorVFnExactCountPartsYt
import Derived.Test.YtncdadcmghglkaaGreatDoorPFnExactCountPartsx0
import Derived.Test.YtncdadcmghglkaaGreatDoorPFnExactCountPartsx11
import Derived.Test.YtncdadcmghglkaaGreatDoorPFnExactCountPartsx13
import Derived.Test.YtncdadcmghglkaaGreatDoorPFnExactCountPartsx16
import Derived.Test.YtncdadcmghglkaaGreatDoorPFnExactCountPartsx17
-- short
-- dense
-- sq
namespace Go.Proofs.YtncdadcmghglkaaGreatDoor.PFnExactCountParts
open Go.RowKit Go.Proofs.YtncdadcmghglkaaGreatDoor.X Go.Proofs.YtncdadcmghglkaaGreatDoorW.PrintWords Go.Proofs.YtncdadcmghglkaaGreatDoorW.PrintLast Go.Proofs.YtncdadcmghglkaaGreatDoorW.PrintMore
attribute [local go_sem] max2_int min2_int max_two min_two max_three min_three max_four min_four   -- for this text's walks alone
set_option linter.unusedVariables false
set_option linter.unusedSimpArgs false
def impl_BoundaryOf.j0 : Nat → Bool → ByteArray → ByteArray → List (S69) → Option (ByteArray × Bool)
 | 0, _, _, _, _ => none
 | k + 1, x13, x550000, x550001, x550002 => if x13 = true then (some ((⟨#[]⟩ : ByteArray), false)) else ((impl_GetField.f k x550002 (⟨#[98, 111, 117, 110, 100, 97, 114, 121]⟩ : ByteArray)).bind fun bt551 => ((impl_isBoundary.f k bt551.1).bind fun t553 => (if t553 = true then (some (bt551.1, true)) else (some ((⟨#[]⟩ : ByteArray), false)))))
def impl_BoundaryOf.f (k : Nat) (a0_0 : ByteArray) (a0_1 : ByteArray) (l0_2 : List (S69)) : Option (ByteArray × Bool) := (impl_KindValid.f k a0_0 a0_1 l0_2).bind fun t550 => (if t550 = true then (impl_BoundaryOf.j0 k (a0_0.toList != ([109, 117, 108, 116, 105, 112, 97, 114, 116] : List UInt8)) a0_0 a0_1 l0_2) else (impl_BoundaryOf.j0 k true a0_0 a0_1 l0_2))
set_option maxHeartbeats 8000000 in
set_option maxRecDepth 100000 in
theorem impl_BoundaryOf.calls (k : Nat) (a0_0 : ByteArray) (a0_1 : ByteArray) (A0_2 : Option Addr) (c0_2 : Nat) (l0_2 : List (S69)) (r1 : ByteArray) (r2 : Bool) (w : World) (hr0_2 : Kd.C k69 w A0_2 l0_2.length l0_2) (hc0_2 : l0_2.length ≤ c0_2) (h : impl_BoundaryOf.f k a0_0 a0_1 l0_2 = some (r1, r2)) :
  Calls Tryz.prog 49 #[.agg #[.string a0_0, .string a0_1, .slice A0_2 l0_2.length c0_2]] w fun e w' => e = .returned (.tuple #[.string r1, .bool r2]) ∧ Below w.heap.size w w' := by
 have hu61 := Tryz.underlying61
 have HR0_2 := ak hr0_2
 have HC0_2 := ak hc0_2
 clear hr0_2 hc0_2
 have HB := ak (Below.refl w.heap.size w)
 have H : ((impl_KindValid.f k a0_0 a0_1 l0_2).bind fun t550 => (if t550 = true then (impl_BoundaryOf.j0 k (a0_0.toList != ([109, 117, 108, 116, 105, 112, 97, 114, 116] : List UInt8)) a0_0 a0_1 l0_2) else (impl_BoundaryOf.j0 k true a0_0 a0_1 l0_2))) = some (r1, r2) := h
 clear h
 have HC2 := ak H
 clear H
 go_enter Tryz.func49, Tryz.ntmps49
 go_upto_region 1 with (first | (refine bE 1 #[.string a0_0, .string a0_1, .slice A0_2 l0_2.length c0_2] 61 ?_; intro gb549 hg w3 hbox hb; have BK549 := ak (hbox); have GW549 := ge_ HB hg; have GE549 := ge_ HB hg; replace HB := bs HB hb; clear hb hbox hg))
 (try simp only [Act.put, l_a, l_b, l_c])
 go_cut [13] (fun v13 wc => ∃ (kq : Nat) (x13_1 : Bool), v13 = .bool x13_1 ∧ Aside0 (impl_BoundaryOf.j0 kq x13_1 a0_0 a0_1 l0_2 = some (r1, r2)) ∧ Aside0 (kq ≤ k) ∧ Aside0 (wc.heap[gb549]? = some (.cells #[.string a0_0, .string a0_1, (.slice A0_2 l0_2.length c0_2)] 61 (0, 0))) ∧ Aside0 (Below w.heap.size w wc))
 case first =>
  have H := HC2.out
  clear HC2
  replace H := bd H; obtain ⟨t550, A4, H⟩ := H; replace H := sb H
  rcases H with ⟨rfl, H⟩ | ⟨rfl, H⟩
  ·
   have H' := ak H; clear H
   obtain ⟨hcz6_0, hcz6_1, hcz6_2, hfz6_0, hfz6_1, hfz6_2⟩ := cz3 BK549.out
   go_wp2_with (first | (refine gL 95 7 Tryz.func95 #[.agg #[.string a0_0, .string a0_1, .slice A0_2 l0_2.length c0_2]] ?_; (with_reducible refine (impl_KindValid.calls k a0_0 a0_1 _ _ l0_2 true _ (cu (Kd.C_below HR0_2.out HB.out)) HC0_2.out A4.out).mono ?_); rintro e w7 ⟨rfl, hb⟩; refine ⟨_, rfl, ?_⟩; replace BK549 := kb BK549 hb; replace HB := ak (below_step bb hb); (try clear hb); obtain ⟨hcz8_0, hcz8_1, hcz8_2, hfz8_0, hfz8_1, hfz8_2⟩ := cz3 BK549.out))
   go_meet
   case rel => exact ⟨_, ((a0_0.toList != ([109, 117, 108, 116, 105, 112, 97, 114, 116] : List UInt8))), rs, H', ⟨le_⟩, ⟨ub BK549.out⟩, ⟨bb⟩⟩
  ·
   have H' := ak H; clear H
   obtain ⟨hcz9_0, hcz9_1, hcz9_2, hfz9_0, hfz9_1, hfz9_2⟩ := cz3 BK549.out
   go_wp2_with (first | (refine gL 95 7 Tryz.func95 #[.agg #[.string a0_0, .string a0_1, .slice A0_2 l0_2.length c0_2]] ?_; (with_reducible refine (impl_KindValid.calls k a0_0 a0_1 _ _ l0_2 false _ (cu (Kd.C_below HR0_2.out HB.out)) HC0_2.out A4.out).mono ?_); rintro e w10 ⟨rfl, hb⟩; refine ⟨_, rfl, ?_⟩; replace BK549 := kb BK549 hb; replace HB := ak (below_step bb hb); (try clear hb)))
   go_meet
   case rel => exact ⟨_, (true), rs, H', ⟨le_⟩, ⟨ub BK549.out⟩, ⟨bb⟩⟩
 case rest =>
  clear HC2
  try clear p2
  try clear c4
  try clear c5
  try clear c9
  try clear hcz6_0
  try clear hcz6_1
  try clear hcz6_2
  try clear hcz8_0
  try clear hcz8_1
  try clear hcz8_2
  try clear hcz9_0
  try clear hcz9_1
  try clear hcz9_2
  try clear hfz6_0
  try clear hfz6_1
  try clear hfz6_2
  try clear hfz8_0
  try clear hfz8_1
  try clear hfz8_2
  try clear hfz9_0
  try clear hfz9_1
  try clear hfz9_2
  obtain ⟨kq, x13_1, rfl, HA, HJ1, BK549, HB⟩ := hcut
  cases kq with
  | zero => exact absurd HA.out (by simp [impl_BoundaryOf.j0])
  | succ kj1 =>
   have H := HA.out
   clear HA
   simp only [impl_BoundaryOf.j0] at H
   replace H := sb H
   rcases H with ⟨rfl, H⟩ | ⟨rfl, H⟩
   ·
    simp only [Option.some.injEq, Prod.mk.injEq] at H
    obtain ⟨rfl, rfl⟩ := H
    go_wp2
    go_ret2
    exact ⟨er, bb⟩
   ·
    replace H := bd H
    obtain ⟨⟨t551, t552⟩, A12, H⟩ := H
    (try dsimp only at H)
    replace H := bd H; obtain ⟨t553, A13, H⟩ := H; replace H := sb H
    rcases H with ⟨rfl, H⟩ | ⟨rfl, H⟩
    ·
     simp only [Option.some.injEq, Prod.mk.injEq] at H
     obtain ⟨rfl, rfl⟩ := H
     obtain ⟨hcz15_0, hcz15_1, hcz15_2, hfz15_0, hfz15_1, hfz15_2⟩ := cz3 BK549.out
     go_wp2_with (first | (refine gL 47 17 Tryz.func47 #[.slice A0_2 l0_2.length c0_2, .string (⟨#[98, 111, 117, 110, 100, 97, 114, 121]⟩ : ByteArray)] ?_; (with_reducible refine (impl_GetField.calls kj1 _ _ l0_2 (⟨#[98, 111, 117, 110, 100, 97, 114, 121]⟩ : ByteArray) t551 t552 _ (cu (Kd.C_below HR0_2.out HB.out)) HC0_2.out A12.out).mono ?_); rintro e w16 ⟨rfl, hb⟩; refine ⟨_, rfl, ?_⟩; replace BK549 := kb BK549 hb; replace HB := ak (below_step bb hb); (try clear hb)) | (refine gL 96 21 Tryz.func96 #[.string t551] ?_; (with_reducible refine (impl_isBoundary.calls kj1 t551 true _ A13.out).mono ?_); rintro e w' ⟨rfl, ⟨nd, rfl⟩⟩; refine ⟨_, rfl, ?_⟩))
     go_ret2
     exact ⟨er, bb⟩
    ·
     simp only [Option.some.injEq, Prod.mk.injEq] at H
     obtain ⟨rfl, rfl⟩ := H
     obtain ⟨hcz17_0, hcz17_1, hcz17_2, hfz17_0, hfz17_1, hfz17_2⟩ := cz3 BK549.out
     go_wp2_with (first | (refine gL 47 17 Tryz.func47 #[.slice A0_2 l0_2.length c0_2, .string (⟨#[98, 111, 117, 110, 100, 97, 114, 121]⟩ : ByteArray)] ?_; (with_reducible refine (impl_GetField.calls kj1 _ _ l0_2 (⟨#[98, 111, 117, 110, 100, 97, 114, 121]⟩ : ByteArray) t551 t552 _ (cu (Kd.C_below HR0_2.out HB.out)) HC0_2.out A12.out).mono ?_); rintro e w18 ⟨rfl, hb⟩; refine ⟨_, rfl, ?_⟩; replace BK549 := kb BK549 hb; replace HB := ak (below_step bb hb); (try clear hb)) | (refine gL 96 21 Tryz.func96 #[.string t551] ?_; (with_reducible refine (impl_isBoundary.calls kj1 t551 false _ A13.out).mono ?_); rintro e w' ⟨rfl, ⟨nd, rfl⟩⟩; refine ⟨_, rfl, ?_⟩))
     go_ret2
     exact ⟨er, bb⟩
def impl_Part_boundary.f (k : Nat) (l0_0 : List (S69)) (l0_1 : List ByteArray) (l0_2 : List (S28)) : Option (ByteArray × Bool) := (impl_GetField.f k l0_0 (⟨#[67, 111, 110, 116, 101, 110, 116, 45, 84, 121, 112, 101]⟩ : ByteArray)).bind fun bt555 => ((impl_ParseKind.f k bt555.1).bind fun bt557 => (if bt557.2.2.2 = true then ((impl_BoundaryOf.f k bt557.1 bt557.2.1 bt557.2.2.1).bind fun bt564 => (some (bt564.1, bt564.2))) else (some ((⟨#[]⟩ : ByteArray), false))))
set_option maxHeartbeats 8000000 in
set_option maxRecDepth 100000 in
theorem impl_Part_boundary.calls (k : Nat) (A0_0 : Option Addr) (c0_0 : Nat) (l0_0 : List (S69)) (A0_1 : Option Addr) (c0_1 : Nat) (l0_1 : List ByteArray) (A0_2 : Option Addr) (c0_2 : Nat) (l0_2 : List (S28)) (r1 : ByteArray) (r2 : Bool) (w : World) (hr0_0 : Kd.C k69 w A0_0 l0_0.length l0_0) (hc0_0 : l0_0.length ≤ c0_0) (hr0_1 : Kd.C Kd.string w A0_1 l0_1.length l0_1) (hc0_1 : l0_1.length ≤ c0_1) (hr0_2 : Kd.C k28 w A0_2 l0_2.length l0_2) (hc0_2 : l0_2.length ≤ c0_2) (hg_ : MaxOk w) (h : impl_Part_boundary.f k l0_0 l0_1 l0_2 = some (r1, r2)) :
  Calls Tryz.prog 101 #[.agg #[.slice A0_0 l0_0.length c0_0, .slice A0_1 l0_1.length c0_1, .slice A0_2 l0_2.length c0_2]] w fun e w' => e = .returned (.tuple #[.string r1, .bool r2]) ∧ Below w.heap.size w w' := by
 have hu28 := Tryz.underlying28
 have hu61 := Tryz.underlying61
 have HR0_0 := ak hr0_0
 have HC0_0 := ak hc0_0
 clear hr0_0 hc0_0
 have HR0_1 := ak hr0_1
 have HC0_1 := ak hc0_1
 clear hr0_1 hc0_1
 have HR0_2 := ak hr0_2
 have HC0_2 := ak hc0_2
 clear hr0_2 hc0_2
 have HG := ak hg_
 clear hg_
 have HB := ak (Below.refl w.heap.size w)
 have H : ((impl_GetField.f k l0_0 (⟨#[67, 111, 110, 116, 101, 110, 116, 45, 84, 121, 112, 101]⟩ : ByteArray)).bind fun bt555 => ((impl_ParseKind.f k bt555.1).bind fun bt557 => (if bt557.2.2.2 = true then ((impl_BoundaryOf.f k bt557.1 bt557.2.1 bt557.2.2.1).bind fun bt564 => (some (bt564.1, bt564.2))) else (some ((⟨#[]⟩ : ByteArray), false))))) = some (r1, r2) := h
 clear h
 replace H := bd H
 obtain ⟨⟨t555, t556⟩, A2, H⟩ := H
 (try dsimp only at H)
 replace H := bd H
 obtain ⟨⟨t557, t558, t559, t562⟩, A3, H⟩ := H
 (try dsimp only at H)
 replace H := sb H
 rcases H with ⟨rfl, H⟩ | ⟨rfl, H⟩
 ·
  replace H := bd H
  obtain ⟨⟨t564, t565⟩, A5, H⟩ := H
  (try dsimp only at H)
  simp only [Option.some.injEq, Prod.mk.injEq] at H
  obtain ⟨rfl, rfl⟩ := H
  go_enter Tryz.func101, Tryz.ntmps101
  go_wp2_with (first | (refine bE 1 #[.slice A0_0 l0_0.length c0_0, .slice A0_1 l0_1.length c0_1, .slice A0_2 l0_2.length c0_2] 28 ?_; intro gb554 hg w6 hbox hb; have BK554 := ak (hbox); have GW554 := ge_ HB hg; have GE554 := ge_ HB hg; replace HB := bs HB hb; clear hb hbox hg; obtain ⟨hcz7_0, hcz7_1, hcz7_2, hfz7_0, hfz7_1, hfz7_2⟩ := cz3 BK554.out) | (refine gL 47 11 Tryz.func47 #[.slice A0_0 l0_0.length c0_0, .string (⟨#[67, 111, 110, 116, 101, 110, 116, 45, 84, 121, 112, 101]⟩ : ByteArray)] ?_; (with_reducible refine (impl_GetField.calls k _ _ l0_0 (⟨#[67, 111, 110, 116, 101, 110, 116, 45, 84, 121, 112, 101]⟩ : ByteArray) t555 t556 _ (cu (Kd.C_below HR0_0.out HB.out)) HC0_0.out A2.out).mono ?_); rintro e w8 ⟨rfl, hb⟩; refine ⟨_, rfl, ?_⟩; replace BK554 := kb BK554 hb; replace HB := ak (below_step bb hb); (try clear hb)) | (refine gL 48 16 Tryz.func48 #[.string t555] ?_; (with_reducible refine (impl_ParseKind.calls k t555 t557 t558 t559 true _ ?side1 A3.out).mono ?_); (case side1 => first | exact HG.out | exact MaxOk.below HG.out bb | (repeat (first | exact HG.out | apply MaxOk.drewN | apply MaxOk.drew))); rintro e w9 ⟨v560, rfl, ho0, hb⟩; refine ⟨_, rfl, ?_⟩; have HO561 := ak (Kd.R_lower ho0 (below_size bb)); replace BK554 := kb BK554 hb; replace HB := ak (below_step bb hb); (try clear hb); (try clear ho0)) | (refine bE 6 #[.string (⟨#[]⟩ : ByteArray), .string (⟨#[]⟩ : ByteArray), .slice none 0 0] 61 ?_; intro gb563 hg w10 hbox hb; have BK563 := ak (hbox); have GW563 := ak ((by rw [hg]; exact (below_size bb) : w.heap.size ≤ gb563)); have GE563 := ak ((by rw [hg]; exact (below_size bb) : w.heap.size ≤ gb563)); have NB554_563 := ak ((by rw [hg]; exact Nat.ne_of_lt (blk_lt (ub BK554.out)) : gb554 ≠ gb563)); have NB563_554 := ak ((by rw [hg]; exact Nat.ne_of_gt (blk_lt (ub BK554.out)) : gb563 ≠ gb554)); replace HO561 := rb HO561 hb; replace BK554 := kb BK554 hb; replace HB := ak (below_step bb hb); clear hb hbox hg; have hnb11 := NB563_554.out; have hnc11 := NB554_563.out; obtain ⟨hcz12_0, hcz12_1, hcz12_2, hfz12_0, hfz12_1, hfz12_2⟩ := cz3 BK563.out; obtain ⟨Ao13, co13, eo13⟩ := Kd.R_slice HO561.out; subst eo13) | (refine gL 49 22 Tryz.func49 #[.agg #[.string t557, .string t558, .slice Ao13 t559.length co13]] ?_; (with_reducible refine (impl_BoundaryOf.calls k t557 t558 _ _ t559 t564 t565 _ ?side1 ?side2 A5.out).mono ?_); (case side1 => refine (Kd.R_reads' (e := 69) (base := w.heap.size) (ok := fun k_ => True) (n := t559.length) (c := co13) ?_).2.2; exact (ur (Kd.R_mono (Kd.R_far (p := ⟨gb563, 2, none⟩) (Kd.R_far (p := ⟨gb563, 1, none⟩) (Kd.R_far (p := ⟨gb563, 0, none⟩) (Kd.R_types HO561.out BK563.out (by decide)) (fun _ hk => hk.2) (.string t557)) (fun _ hk => hk.2) (.string t558)) (fun _ hk => hk.2) (.slice Ao13 t559.length co13)) (fun _ h_ => h_.1)))); (case side2 => exact (Kd.R_reads' HO561.out).2.1); rintro e w14 ⟨rfl, hb⟩; refine ⟨_, rfl, ?_⟩; replace HO561 := ak (Kd.R_below (ur (Kd.R_mono (Kd.R_far (p := ⟨gb563, 2, none⟩) (Kd.R_far (p := ⟨gb563, 1, none⟩) (Kd.R_far (p := ⟨gb563, 0, none⟩) (Kd.R_types HO561.out BK563.out (by decide)) (fun _ hk => hk.2) (.string t557)) (fun _ hk => hk.2) (.string t558)) (fun _ hk => hk.2) (.slice Ao13 t559.length co13)) (fun _ h_ => h_.1))) hb); replace BK554 := ak (blk_below (g := gb554) (o := .cells #[.slice A0_0 l0_0.length c0_0, .slice A0_1 l0_1.length c0_1, .slice A0_2 l0_2.length c0_2] 28 (0, 0)) (by (with_reducible repeat (first | refine blk_drewN ?_ _ | refine blk_drew ?_ | refine blk_alloc ?_ _)); refine blk_far ?_ NB554_563.out _; (with_reducible repeat (first | refine blk_drewN ?_ _ | refine blk_drew ?_ | refine blk_alloc ?_ _)); refine blk_far ?_ NB554_563.out _; (with_reducible repeat (first | refine blk_drewN ?_ _ | refine blk_drew ?_ | refine blk_alloc ?_ _)); refine blk_far ?_ NB554_563.out _; (with_reducible repeat (first | refine blk_drewN ?_ _ | refine blk_drew ?_ | refine blk_alloc ?_ _)); exact BK554.out) hb); replace BK563 := ak (blk_below (g := gb563) (o := .cells #[.string t557, .string t558, .slice Ao13 t559.length co13] 61 (0, 0)) (by (with_reducible repeat (first | refine blk_drewN ?_ _ | refine blk_drew ?_ | refine blk_alloc ?_ _)); refine blk_put (cs := #[.string t557, .string t558, .slice none 0 0]) ?_ 2 _ rfl; (with_reducible repeat (first | refine blk_drewN ?_ _ | refine blk_drew ?_ | refine blk_alloc ?_ _)); refine blk_put (cs := #[.string t557, .string (⟨#[]⟩ : ByteArray), .slice none 0 0]) ?_ 1 _ rfl; (with_reducible repeat (first | refine blk_drewN ?_ _ | refine blk_drew ?_ | refine blk_alloc ?_ _)); refine blk_put (cs := #[.string (⟨#[]⟩ : ByteArray), .string (⟨#[]⟩ : ByteArray), .slice none 0 0]) ?_ 0 _ rfl; (with_reducible repeat (first | refine blk_drewN ?_ _ | refine blk_drew ?_ | refine blk_alloc ?_ _)); exact BK563.out) hb); replace HB := ak (below_step bb hb); (try clear hb)))
  go_ret2
  exact ⟨er, bb⟩
 ·
  simp only [Option.some.injEq, Prod.mk.injEq] at H
  obtain ⟨rfl, rfl⟩ := H
  go_enter Tryz.func101, Tryz.ntmps101
  go_wp2_with (first | (refine bE 1 #[.slice A0_0 l0_0.length c0_0, .slice A0_1 l0_1.length c0_1, .slice A0_2 l0_2.length c0_2] 28 ?_; intro gb554 hg w15 hbox hb; have BK554 := ak (hbox); have GW554 := ge_ HB hg; have GE554 := ge_ HB hg; replace HB := bs HB hb; clear hb hbox hg; obtain ⟨hcz16_0, hcz16_1, hcz16_2, hfz16_0, hfz16_1, hfz16_2⟩ := cz3 BK554.out) | (refine gL 47 11 Tryz.func47 #[.slice A0_0 l0_0.length c0_0, .string (⟨#[67, 111, 110, 116, 101, 110, 116, 45, 84, 121, 112, 101]⟩ : ByteArray)] ?_; (with_reducible refine (impl_GetField.calls k _ _ l0_0 (⟨#[67, 111, 110, 116, 101, 110, 116, 45, 84, 121, 112, 101]⟩ : ByteArray) t555 t556 _ (cu (Kd.C_below HR0_0.out HB.out)) HC0_0.out A2.out).mono ?_); rintro e w17 ⟨rfl, hb⟩; refine ⟨_, rfl, ?_⟩; replace BK554 := kb BK554 hb; replace HB := ak (below_step bb hb); (try clear hb)) | (refine gL 48 16 Tryz.func48 #[.string t555] ?_; (with_reducible refine (impl_ParseKind.calls k t555 t557 t558 t559 false _ ?side1 A3.out).mono ?_); (case side1 => first | exact HG.out | exact MaxOk.below HG.out bb | (repeat (first | exact HG.out | apply MaxOk.drewN | apply MaxOk.drew))); rintro e w18 ⟨v560, rfl, ho0, hb⟩; refine ⟨_, rfl, ?_⟩; have HO561 := ak (Kd.R_lower ho0 (below_size bb)); replace BK554 := kb BK554 hb; replace HB := ak (below_step bb hb); (try clear hb); (try clear ho0)) | (refine bE 6 #[.string (⟨#[]⟩ : ByteArray), .string (⟨#[]⟩ : ByteArray), .slice none 0 0] 61 ?_; intro gb563 hg w19 hbox hb; have BK563 := ak (hbox); have GW563 := ak ((by rw [hg]; exact (below_size bb) : w.heap.size ≤ gb563)); have GE563 := ak ((by rw [hg]; exact (below_size bb) : w.heap.size ≤ gb563)); have NB554_563 := ak ((by rw [hg]; exact Nat.ne_of_lt (blk_lt (ub BK554.out)) : gb554 ≠ gb563)); have NB563_554 := ak ((by rw [hg]; exact Nat.ne_of_gt (blk_lt (ub BK554.out)) : gb563 ≠ gb554)); replace HO561 := rb HO561 hb; replace BK554 := kb BK554 hb; replace HB := ak (below_step bb hb); clear hb hbox hg; have hnb20 := NB563_554.out; have hnc20 := NB554_563.out; obtain ⟨hcz21_0, hcz21_1, hcz21_2, hfz21_0, hfz21_1, hfz21_2⟩ := cz3 BK563.out; obtain ⟨Ao22, co22, eo22⟩ := Kd.R_slice HO561.out; subst eo22))
  go_ret2
  exact ⟨er, bb⟩
def impl_areTexts_1.f (k : Nat) (a0 : ByteArray) : Option (Bool) := (impl_TextValid.f k a0).bind fun t566 => (some (!t566))
set_option maxHeartbeats 8000000 in
set_option maxRecDepth 100000 in
theorem impl_areTexts_1.calls (k : Nat) (a0 : ByteArray) (r : Bool) (w : World) (h : impl_areTexts_1.f k a0 = some r) :
  Calls Tryz.prog 149 #[.string a0] w fun e w' => e = .returned (.bool r) ∧ Drawn0 w w' := by
 have H : ((impl_TextValid.f k a0).bind fun t566 => (some (!t566))) = some r := h
 clear h
 replace H := bd H; obtain ⟨t566, A2, H⟩ := H
 obtain rfl := Option.some.inj H
 go_enter Tryz.func149, Tryz.ntmps149
 go_wp2_with (first | (refine gL 89 4 Tryz.func89 #[.string a0] ?_; (with_reducible refine (impl_TextValid.calls k a0 t566 _ A2.out).mono ?_); rintro e w' ⟨rfl, ⟨nd, rfl⟩⟩; refine ⟨_, rfl, ?_⟩))
 go_ret
 exact ⟨rs, dn⟩
def slices_IndexFunc_string_string_areTexts_1.l0 : Nat → List ByteArray → Int → Int → Option (Int)
 | 0, _, _, _ => none
 | k + 1, x0, x7, x8 => if x8 < x7 then (if 0 ≤ x8 then (if x8 < (x0.length : Int) then ((impl_areTexts_1.f k (rdOf ByteArray.empty x0 x8)).bind fun t568 => (if t568 = true then (some x8) else (slices_IndexFunc_string_string_areTexts_1.l0 k x0 x7 (wrap64 (x8 + 1))))) else (none)) else (none)) else (some (-1))
def slices_IndexFunc_string_string_areTexts_1.f (k : Nat) (l0 : List ByteArray)  : Option (Int) := slices_IndexFunc_string_string_areTexts_1.l0 k l0 (l0.length : Int) 0
set_option maxHeartbeats 8000000 in
set_option maxRecDepth 100000 in
theorem slices_IndexFunc_string_string_areTexts_1.calls (k : Nat) (A0 : Option Addr) (c0 : Nat) (l0 : List ByteArray)  (r : Int) (w : World) (hr0 : Kd.C Kd.string w A0 l0.length l0) (hc0 : l0.length ≤ c0) (h : slices_IndexFunc_string_string_areTexts_1.f k l0 = some r) :
  Calls Tryz.prog 173 #[.slice A0 l0.length c0, .func (.func 149) #[] #[]] w fun e w' => e = .returned (.int .i64 r) ∧ Drawn0 w w' := by
 have HR0 := ak hr0
 have HC0 := ak hc0
 clear hr0 hc0
 have H : (slices_IndexFunc_string_string_areTexts_1.l0 k l0 (l0.length : Int) 0) = some r := h
 clear h
 have H' := ak H; clear H
 go_enter Tryz.func173, Tryz.ntmps173
 go_wp2
 go_loopg [8] k (fun kq v8 w' => ∃ (x8_1 : Int), v8 = .int .i64 x8_1 ∧ Aside0 (slices_IndexFunc_string_string_areTexts_1.l0 kq l0 (l0.length : Int) x8_1 = some r) ∧ Aside0 (kq ≤ k) ∧ Drawn0 w w')
 case atStart => exact ⟨(0), rs, H', ⟨Nat.le_refl _⟩, dn⟩
 case round =>
  clear H'
  try clear c2
  try clear p2
  obtain ⟨x8_1, rfl, HA, HK1, ⟨m1, rfl⟩⟩ := hrel
  cases gk with
  | zero => exact absurd HA.out (by simp [slices_IndexFunc_string_string_areTexts_1.l0])
  | succ k1 =>
   have H := HA.out
   clear HA
   simp only [slices_IndexFunc_string_string_areTexts_1.l0] at H
   replace H := sd H
   rcases H with ⟨c3b0, H⟩ | ⟨c3b0, H⟩
   ·
    replace H := nde H; obtain ⟨c4b0, H⟩ := H; replace H := nde H; obtain ⟨c5b0, H⟩ := H; replace H := bd H; obtain ⟨t568, A6, H⟩ := H; replace H := sb H
    rcases H with ⟨rfl, H⟩ | ⟨rfl, H⟩
    ·
     obtain rfl := Option.some.inj H
     have p567 := zi x8_1
     have q567 := zj x8_1 l0.length
     obtain ⟨ad567, e567, hx567_0⟩ := Kd.at_string HR0.out x8_1 p567 q567
     cases e567
     replace p567 := eq_true p567
     replace q567 := eq_true q567
     go_wp2_with (first | (go_at_call 149; (with_reducible refine (impl_areTexts_1.calls k1 (rdOf ByteArray.empty l0 x8_1) true _ A6.out).mono ?_); rintro e w' ⟨rfl, ⟨nd, rfl⟩⟩))
     go_ret
     exact ⟨rs, dn⟩
    ·
     have H' := ak H; clear H
     have p567 := zi x8_1
     have q567 := zj x8_1 l0.length
     obtain ⟨ad567, e567, hx567_0⟩ := Kd.at_string HR0.out x8_1 p567 q567
     cases e567
     replace p567 := eq_true p567
     replace q567 := eq_true q567
     go_wp2_with (first | (go_at_call 149; (with_reducible refine (impl_areTexts_1.calls k1 (rdOf ByteArray.empty l0 x8_1) false _ A6.out).mono ?_); rintro e w' ⟨rfl, ⟨nd, rfl⟩⟩))
     go_roundg k1
     case measure => have := HK1.out; omega
     case rel => exact ⟨(wrap64 (x8_1 + 1)), rs, H', ⟨by have := HK1.out; omega⟩, dn⟩
   ·
    obtain rfl := Option.some.inj H
    go_wp2
    go_ret
    exact ⟨rs, dn⟩
def slices_ContainsFunc_string_string_areTexts_1.f (k : Nat) (l0 : List ByteArray)  : Option (Bool) := (slices_IndexFunc_string_string_areTexts_1.f k l0).bind fun t569 => (some (decide (t569 ≥ 0)))
set_option maxHeartbeats 8000000 in
set_option maxRecDepth 100000 in
theorem slices_ContainsFunc_string_string_areTexts_1.calls (k : Nat) (A0 : Option Addr) (c0 : Nat) (l0 : List ByteArray)  (r : Bool) (w : World) (hr0 : Kd.C Kd.string w A0 l0.length l0) (hc0 : l0.length ≤ c0) (h : slices_ContainsFunc_string_string_areTexts_1.f k l0 = some r) :
  Calls Tryz.prog 148 #[.slice A0 l0.length c0, .func (.func 149) #[] #[]] w fun e w' => e = .returned (.bool r) ∧ Drawn0 w w' := by
 have HR0 := ak hr0
 have HC0 := ak hc0
 clear hr0 hc0
 have H : ((slices_IndexFunc_string_string_areTexts_1.f k l0).bind fun t569 => (some (decide (t569 ≥ 0)))) = some r := h
 clear h
 replace H := bd H; obtain ⟨t569, A3, H⟩ := H
 obtain rfl := Option.some.inj H
 go_enter Tryz.func148, Tryz.ntmps148
 go_wp2_with (first | (refine gL 173 7 Tryz.func173 #[.slice A0 l0.length c0, .func (.func 149) #[] #[]] ?_; (with_reducible refine (slices_IndexFunc_string_string_areTexts_1.calls k _ _ l0  t569 _ (cu HR0.out) HC0.out A3.out).mono ?_); rintro e w' ⟨rfl, ⟨nd, rfl⟩⟩; refine ⟨_, rfl, ?_⟩))
 go_ret
 exact ⟨rs, dn⟩
def impl_areTexts.f (k : Nat) (l0 : List ByteArray) (a1 : Int) : Option (Bool) := if (l0.length : Int) ≤ a1 then ((slices_ContainsFunc_string_string_areTexts_1.f k l0).bind fun t570 => (some (!t570))) else (some false)
set_option maxHeartbeats 8000000 in
set_option maxRecDepth 100000 in
theorem impl_areTexts.calls (k : Nat) (A0 : Option Addr) (c0 : Nat) (l0 : List ByteArray) (a1 : Int) (r : Bool) (w : World) (hr0 : Kd.C Kd.string w A0 l0.length l0) (hc0 : l0.length ≤ c0) (h : impl_areTexts.f k l0 a1 = some r) :
  Calls Tryz.prog 105 #[.slice A0 l0.length c0, .int .i64 a1] w fun e w' => e = .returned (.bool r) ∧ Drawn0 w w' := by
 have HR0 := ak hr0
 have HC0 := ak hc0
 clear hr0 hc0
 have H : (if (l0.length : Int) ≤ a1 then ((slices_ContainsFunc_string_string_areTexts_1.f k l0).bind fun t570 => (some (!t570))) else (some false)) = some r := h
 clear h
 replace H := sd H
 rcases H with ⟨c3b0, H⟩ | ⟨c3b0, H⟩
 ·
  replace H := bd H; obtain ⟨t570, A4, H⟩ := H
  obtain rfl := Option.some.inj H
  go_enter Tryz.func105, Tryz.ntmps105
  go_wp2_with (first | (go_at_call 148; (with_reducible refine (slices_ContainsFunc_string_string_areTexts_1.calls k _ _ l0  t570 _ (cu HR0.out) HC0.out A4.out).mono ?_); rintro e w' ⟨rfl, ⟨nd, rfl⟩⟩))
  go_ret
  exact ⟨rs, dn⟩
 ·
  obtain rfl := Option.some.inj H
  go_enter Tryz.func105, Tryz.ntmps105
  go_wp2
  go_ret
  exact ⟨rs, dn⟩
def slices_Index_string_string.l0 : Nat → List ByteArray → ByteArray → Int → Int → Option (Int)
 | 0, _, _, _, _ => none
 | k + 1, x0, x1, x7, x8 => if x8 < x7 then (if 0 ≤ x8 then (if x8 < (x0.length : Int) then (if x1.toList = (rdOf ByteArray.empty x0 x8).toList then (some x8) else (slices_Index_string_string.l0 k x0 x1 x7 (wrap64 (x8 + 1)))) else (none)) else (none)) else (some (-1))
def slices_Index_string_string.f (k : Nat) (l0 : List ByteArray) (a1 : ByteArray) : Option (Int) := slices_Index_string_string.l0 k l0 a1 (l0.length : Int) 0
set_option maxHeartbeats 8000000 in
set_option maxRecDepth 100000 in
theorem slices_Index_string_string.calls (k : Nat) (A0 : Option Addr) (c0 : Nat) (l0 : List ByteArray) (a1 : ByteArray) (r : Int) (w : World) (hr0 : Kd.C Kd.string w A0 l0.length l0) (hc0 : l0.length ≤ c0) (h : slices_Index_string_string.f k l0 a1 = some r) :
  Calls Tryz.prog 99 #[.slice A0 l0.length c0, .string a1] w fun e w' => e = .returned (.int .i64 r) ∧ Drawn0 w w' := by
 have HR0 := ak hr0
 have HC0 := ak hc0
 clear hr0 hc0
 have H : (slices_Index_string_string.l0 k l0 a1 (l0.length : Int) 0) = some r := h
 clear h
 have H' := ak H; clear H
 go_enter Tryz.func99, Tryz.ntmps99
 go_wp2
 go_loopg [8] k (fun kq v8 w' => ∃ (x8_1 : Int), v8 = .int .i64 x8_1 ∧ Aside0 (slices_Index_string_string.l0 kq l0 a1 (l0.length : Int) x8_1 = some r) ∧ Aside0 (kq ≤ k) ∧ Drawn0 w w')
 case atStart => exact ⟨(0), rs, H', ⟨Nat.le_refl _⟩, dn⟩
 case round =>
  clear H'
  try clear p2
  obtain ⟨x8_1, rfl, HA, HK1, ⟨m1, rfl⟩⟩ := hrel
  cases gk with
  | zero => exact absurd HA.out (by simp [slices_Index_string_string.l0])
  | succ k1 =>
   have H := HA.out
   clear HA
   simp only [slices_Index_string_string.l0] at H
   replace H := sd H
   rcases H with ⟨c3b0, H⟩ | ⟨c3b0, H⟩
   ·
    replace H := nde H; obtain ⟨c4b0, H⟩ := H; replace H := nde H; obtain ⟨c5b0, H⟩ := H; replace H := sq H
    rcases H with ⟨c6b0, c6b1, H⟩ | ⟨c6, c6b0, c6b1, H⟩
    ·
     obtain rfl := Option.some.inj H
     have p571 := zi x8_1
     have q571 := zj x8_1 l0.length
     obtain ⟨ad571, e571, hx571_0⟩ := Kd.at_string HR0.out x8_1 p571 q571
     cases e571
     replace p571 := eq_true p571
     replace q571 := eq_true q571
     go_wp2
     go_ret
     exact ⟨rs, dn⟩
    ·
     have H' := ak H; clear H
     have p571 := zi x8_1
     have q571 := zj x8_1 l0.length
     obtain ⟨ad571, e571, hx571_0⟩ := Kd.at_string HR0.out x8_1 p571 q571
     cases e571
     replace p571 := eq_true p571
     replace q571 := eq_true q571
     go_wp2
     go_roundg k1
     case measure => have := HK1.out; omega
     case rel => exact ⟨(wrap64 (x8_1 + 1)), rs, H', ⟨by have := HK1.out; omega⟩, dn⟩
   ·
    obtain rfl := Option.some.inj H
    go_wp2
    go_ret
    exact ⟨rs, dn⟩
def slices_Contains_string_string.f (k : Nat) (l0 : List ByteArray) (a1 : ByteArray) : Option (Bool) := (slices_Index_string_string.f k l0 a1).bind fun t572 => (some (decide (t572 ≥ 0)))
set_option maxHeartbeats 8000000 in
set_option maxRecDepth 100000 in
theorem slices_Contains_string_string.calls (k : Nat) (A0 : Option Addr) (c0 : Nat) (l0 : List ByteArray) (a1 : ByteArray) (r : Bool) (w : World) (hr0 : Kd.C Kd.string w A0 l0.length l0) (hc0 : l0.length ≤ c0) (h : slices_Contains_string_string.f k l0 a1 = some r) :
  Calls Tryz.prog 175 #[.slice A0 l0.length c0, .string a1] w fun e w' => e = .returned (.bool r) ∧ Drawn0 w w' := by
 have HR0 := ak hr0
 have HC0 := ak hc0
 clear hr0 hc0
 have H : ((slices_Index_string_string.f k l0 a1).bind fun t572 => (some (decide (t572 ≥ 0)))) = some r := h
 clear h
 replace H := bd H; obtain ⟨t572, A3, H⟩ := H
 obtain rfl := Option.some.inj H
 go_enter Tryz.func175, Tryz.ntmps175
 go_wp2_with (first | (refine gL 99 7 Tryz.func99 #[.slice A0 l0.length c0, .string a1] ?_; (with_reducible refine (slices_Index_string_string.calls k _ _ l0 a1 t572 _ (cu HR0.out) HC0.out A3.out).mono ?_); rintro e w' ⟨rfl, ⟨nd, rfl⟩⟩; refine ⟨_, rfl, ?_⟩))
 go_ret
 exact ⟨rs, dn⟩
def impl_divides.f (k : Nat) (l0 : List ByteArray) (a1 : ByteArray) : Option (Bool) := if 2 + a1.size ≤ 9223372036854775807 then ((slices_Contains_string_string.f k l0 ((⟨#[45, 45]⟩ : ByteArray) ++ a1)).bind fun t573 => (if t573 = true then (some true) else (if ((⟨#[45, 45]⟩ : ByteArray) ++ a1).size + 2 ≤ 9223372036854775807 then ((slices_Contains_string_string.f k l0 (((⟨#[45, 45]⟩ : ByteArray) ++ a1) ++ (⟨#[45, 45]⟩ : ByteArray))).bind fun t574 => (some t574)) else (none)))) else (none)
set_option maxHeartbeats 8000000 in
set_option maxRecDepth 100000 in
theorem impl_divides.calls (k : Nat) (A0 : Option Addr) (c0 : Nat) (l0 : List ByteArray) (a1 : ByteArray) (r : Bool) (w : World) (hr0 : Kd.C Kd.string w A0 l0.length l0) (hc0 : l0.length ≤ c0) (h : impl_divides.f k l0 a1 = some r) :
  Calls Tryz.prog 152 #[.slice A0 l0.length c0, .string a1] w fun e w' => e = .returned (.bool r) ∧ Drawn0 w w' := by
 have HR0 := ak hr0
 have HC0 := ak hc0
 clear hr0 hc0
 have H : (if 2 + a1.size ≤ 9223372036854775807 then ((slices_Contains_string_string.f k l0 ((⟨#[45, 45]⟩ : ByteArray) ++ a1)).bind fun t573 => (if t573 = true then (some true) else (if ((⟨#[45, 45]⟩ : ByteArray) ++ a1).size + 2 ≤ 9223372036854775807 then ((slices_Contains_string_string.f k l0 (((⟨#[45, 45]⟩ : ByteArray) ++ a1) ++ (⟨#[45, 45]⟩ : ByteArray))).bind fun t574 => (some t574)) else (none)))) else (none)) = some r := h
 clear h
 replace H := nn H; obtain ⟨c3, H⟩ := H
 have c3b0 := eq_true c3
 have c3b1 := decide_eq_true c3
 try have c3b2 : (9223372036854775807 < 2 + a1.size) = False := eq_false (Nat.not_lt.2 c3)
 replace H := bd H; obtain ⟨t573, A4, H⟩ := H; replace H := sb H
 rcases H with ⟨rfl, H⟩ | ⟨rfl, H⟩
 ·
  obtain rfl := Option.some.inj H
  go_enter Tryz.func152, Tryz.ntmps152
  go_wp2_with (first | (refine gL 175 8 Tryz.func175 #[.slice A0 l0.length c0, .string ((⟨#[45, 45]⟩ : ByteArray) ++ a1)] ?_; (with_reducible refine (slices_Contains_string_string.calls k _ _ l0 ((⟨#[45, 45]⟩ : ByteArray) ++ a1) true _ (cu HR0.out) HC0.out A4.out).mono ?_); rintro e w' ⟨rfl, ⟨nd, rfl⟩⟩; refine ⟨_, rfl, ?_⟩))
  go_ret
  exact ⟨rs, dn⟩
 ·
  replace H := nn H; obtain ⟨c6, H⟩ := H
  have c6b0 := eq_true c6
  have c6b1 := decide_eq_true c6
  try have c6b3 : (9223372036854775807 < 2 + a1.size + 2) = False := by have h_ := (eq_false (Nat.not_lt.2 c6) : (9223372036854775807 < ((⟨#[45, 45]⟩ : ByteArray) ++ a1).size + 2) = False); simp only [ByteArray.size_append] at h_; exact h_
  try have c6b2 : (9223372036854775807 < ((⟨#[45, 45]⟩ : ByteArray) ++ a1).size + 2) = False := eq_false (Nat.not_lt.2 c6)
  replace H := bd H; obtain ⟨t574, A7, H⟩ := H
  obtain rfl := Option.some.inj H
  go_enter Tryz.func152, Tryz.ntmps152
  go_wp2_with (first | (refine gL 175 8 Tryz.func175 #[.slice A0 l0.length c0, .string ((⟨#[45, 45]⟩ : ByteArray) ++ a1)] ?_; (with_reducible refine (slices_Contains_string_string.calls k _ _ l0 ((⟨#[45, 45]⟩ : ByteArray) ++ a1) false _ (cu HR0.out) HC0.out A4.out).mono ?_); rintro e w' ⟨rfl, ⟨nd, rfl⟩⟩; refine ⟨_, rfl, ?_⟩) | (go_at_call 175; (with_reducible refine (slices_Contains_string_string.calls k _ _ l0 (((⟨#[45, 45]⟩ : ByteArray) ++ a1) ++ (⟨#[45, 45]⟩ : ByteArray)) t574 _ (cu HR0.out) HC0.out A7.out).mono ?_); rintro e w' ⟨rfl, ⟨nd, rfl⟩⟩))
  go_ret
  exact ⟨rs, dn⟩
def impl_JoinParts_1.f (k : Nat) (l0 : List ByteArray) (a1 : ByteArray) : Option (Bool) := (impl_divides.f k l0 a1).bind fun t575 => (some t575)
set_option maxHeartbeats 8000000 in
set_option maxRecDepth 100000 in
theorem impl_JoinParts_1.calls (k : Nat) (A0 : Option Addr) (c0 : Nat) (l0 : List ByteArray) (gq1 : Nat) (a1 : ByteArray)  (r : Bool) (w : World) (hr0 : Kd.C Kd.string w A0 l0.length l0) (hc0 : l0.length ≤ c0) (hq1 : w.heap[gq1]? = some (.cells #[.string a1] 9 (0, 0))) (h : impl_JoinParts_1.f k l0 a1 = some r) :
  Calls Tryz.prog 151 #[.slice A0 l0.length c0, .pointer (some ⟨gq1, 0, none⟩)] w fun e w' => e = .returned (.bool r) ∧ Below w.heap.size w w' := by
 have HR0 := ak hr0
 have HC0 := ak hc0
 clear hr0 hc0
 have BK46 := ak hq1
 clear hq1
 have HB := ak (Below.refl w.heap.size w)
 have H : ((impl_divides.f k l0 a1).bind fun t575 => (some t575)) = some r := h
 clear h
 replace H := bd H; obtain ⟨t575, A3, H⟩ := H
 obtain rfl := Option.some.inj H
 have hcz4_0 : w.cell? ⟨gq1, 0, none⟩ = some (.string a1) := (blk_cell BK46.out 0).trans rfl
 have hfz4_0 := blk_frozen BK46.out 0
 go_enter Tryz.func151, Tryz.ntmps151
 go_wp2_with (first | (refine gL 152 6 Tryz.func152 #[.slice A0 l0.length c0, .string a1] ?_; (with_reducible refine (impl_divides.calls k _ _ l0 a1 t575 _ (cu HR0.out) HC0.out A3.out).mono ?_); rintro e w' ⟨rfl, ⟨nd, rfl⟩⟩; refine ⟨_, rfl, ?_⟩))
 go_ret
 exact ⟨er, bb⟩
def slices_IndexFunc_string_string_JoinParts_1.l0 : Nat → List (List ByteArray) → Int → Int → ByteArray → Option (Int)
 | 0, _, _, _, _ => none
 | k + 1, x0, x7, x8, x47000 => if x8 < x7 then (if 0 ≤ x8 then (if x8 < (x0.length : Int) then ((impl_JoinParts_1.f k (rd_L3 x0 x8) x47000).bind fun t577 => (if t577 = true then (some x8) else (slices_IndexFunc_string_string_JoinParts_1.l0 k x0 x7 (wrap64 (x8 + 1)) x47000))) else (none)) else (none)) else (some (-1))
def slices_IndexFunc_string_string_JoinParts_1.f (k : Nat) (l0 : List (List ByteArray)) (a1_0 : ByteArray) : Option (Int) := slices_IndexFunc_string_string_JoinParts_1.l0 k l0 (l0.length : Int) 0 a1_0
set_option maxHeartbeats 8000000 in
set_option maxRecDepth 100000 in
theorem slices_IndexFunc_string_string_JoinParts_1.calls (k : Nat) (A0 : Option Addr) (c0 : Nat) (l0 : List (List ByteArray)) (gq1_0 : Nat) (a1_0 : ByteArray)  (r : Int) (w : World) (hr0 : Kd.C (Kd.slice 9 Kd.string) w A0 l0.length l0) (hc0 : l0.length ≤ c0) (hq1_0 : w.heap[gq1_0]? = some (.cells #[.string a1_0] 9 (0, 0))) (h : slices_IndexFunc_string_string_JoinParts_1.f k l0 a1_0 = some r) :
  Calls Tryz.prog 174 #[.slice A0 l0.length c0, .func (.func 151) #[] #[.pointer (some ⟨gq1_0, 0, none⟩)]] w fun e w' => e = .returned (.int .i64 r) ∧ Below w.heap.size w w' := by
 have HR0 := ak hr0
 have HC0 := ak hc0
 clear hr0 hc0
 have BK46 := ak hq1_0
 clear hq1_0
 have HB := ak (Below.refl w.heap.size w)
 have H : (slices_IndexFunc_string_string_JoinParts_1.l0 k l0 (l0.length : Int) 0 a1_0) = some r := h
 clear h
 have H' := ak H; clear H
 go_enter Tryz.func174, Tryz.ntmps174
 go_wp2
 go_loopg [8] k (fun kq v8 w' => ∃ (x8_1 : Int), v8 = .int .i64 x8_1 ∧ Aside0 (slices_IndexFunc_string_string_JoinParts_1.l0 kq l0 (l0.length : Int) x8_1 a1_0 = some r) ∧ Aside0 (kq ≤ k) ∧ Aside0 (w'.heap[gq1_0]? = some (.cells #[.string a1_0] 9 (0, 0))) ∧ Aside0 (Below w.heap.size w w'))
 case atStart => exact ⟨(0), rs, H', ⟨Nat.le_refl _⟩, ⟨ub BK46.out⟩, ⟨bb⟩⟩
 case round =>
  clear H'
  try clear q1
  try clear c2
  try clear p2
  obtain ⟨x8_1, rfl, HA, HK1, BK46, HB⟩ := hrel
  cases gk with
  | zero => exact absurd HA.out (by simp [slices_IndexFunc_string_string_JoinParts_1.l0])
  | succ k1 =>
   have H := HA.out
   clear HA
   simp only [slices_IndexFunc_string_string_JoinParts_1.l0] at H
   replace H := sd H
   rcases H with ⟨c3b0, H⟩ | ⟨c3b0, H⟩
   ·
    replace H := nde H; obtain ⟨c4b0, H⟩ := H; replace H := nde H; obtain ⟨c5b0, H⟩ := H; replace H := bd H; obtain ⟨t577, A6, H⟩ := H; replace H := sb H
    rcases H with ⟨rfl, H⟩ | ⟨rfl, H⟩
    ·
     obtain rfl := Option.some.inj H
     have p576 := zi x8_1
     have q576 := zj x8_1 l0.length
     obtain ⟨ad576, A576_0, c576_0, e576, hx576_0, hl576_0, hi576_0⟩ := at_L3 HR0.out x8_1 p576 q576
     cases e576
     replace hx576_0 := cl HB.out hx576_0
     have HR576_0 := ak hi576_0
     have HC576_0 := ak hl576_0
     clear hi576_0 hl576_0
     replace p576 := eq_true p576
     replace q576 := eq_true q576
     go_wp2_with (first | (go_at_call 151; (with_reducible refine (impl_JoinParts_1.calls k1 _ _ (rd_L3 l0 x8_1) gq1_0 a1_0 true _ (cu (Kd.C_below HR576_0.out HB.out)) HC576_0.out (ub BK46.out) A6.out).mono ?_); rintro e w8 ⟨rfl, hb⟩; replace BK46 := kb BK46 hb; replace HB := ak (below_step bb hb); (try clear hb)))
     go_ret
     exact ⟨er, bb⟩
    ·
     have H' := ak H; clear H
     have p576 := zi x8_1
     have q576 := zj x8_1 l0.length
     obtain ⟨ad576, A576_0, c576_0, e576, hx576_0, hl576_0, hi576_0⟩ := at_L3 HR0.out x8_1 p576 q576
     cases e576
     replace hx576_0 := cl HB.out hx576_0
     have HR576_0 := ak hi576_0
     have HC576_0 := ak hl576_0
     clear hi576_0 hl576_0
     replace p576 := eq_true p576
     replace q576 := eq_true q576
     go_wp2_with (first | (go_at_call 151; (with_reducible refine (impl_JoinParts_1.calls k1 _ _ (rd_L3 l0 x8_1) gq1_0 a1_0 false _ (cu (Kd.C_below HR576_0.out HB.out)) HC576_0.out (ub BK46.out) A6.out).mono ?_); rintro e w9 ⟨rfl, hb⟩; replace BK46 := kb BK46 hb; replace HB := ak (below_step bb hb); (try clear hb)))
     go_roundg k1
     case measure => have := HK1.out; omega
     case rel => exact ⟨(wrap64 (x8_1 + 1)), rs, H', ⟨by have := HK1.out; omega⟩, ⟨ub BK46.out⟩, ⟨bb⟩⟩
   ·
    obtain rfl := Option.some.inj H
    go_wp2
    go_ret
    exact ⟨er, bb⟩
def slices_ContainsFunc_string_string_JoinParts_1.f (k : Nat) (l0 : List (List ByteArray)) (a1_0 : ByteArray) : Option (Bool) := (slices_IndexFunc_string_string_JoinParts_1.f k l0 a1_0).bind fun t578 => (some (decide (t578 ≥ 0)))
set_option maxHeartbeats 8000000 in
set_option maxRecDepth 100000 in
theorem slices_ContainsFunc_string_string_JoinParts_1.calls (k : Nat) (A0 : Option Addr) (c0 : Nat) (l0 : List (List ByteArray)) (gq1_0 : Nat) (a1_0 : ByteArray)  (r : Bool) (w : World) (hr0 : Kd.C (Kd.slice 9 Kd.string) w A0 l0.length l0) (hc0 : l0.length ≤ c0) (hq1_0 : w.heap[gq1_0]? = some (.cells #[.string a1_0] 9 (0, 0))) (h : slices_ContainsFunc_string_string_JoinParts_1.f k l0 a1_0 = some r) :
  Calls Tryz.prog 150 #[.slice A0 l0.length c0, .func (.func 151) #[] #[.pointer (some ⟨gq1_0, 0, none⟩)]] w fun e w' => e = .returned (.bool r) ∧ Below w.heap.size w w' := by
 have HR0 := ak hr0
 have HC0 := ak hc0
 clear hr0 hc0
 have BK46 := ak hq1_0
 clear hq1_0
 have HB := ak (Below.refl w.heap.size w)
 have H : ((slices_IndexFunc_string_string_JoinParts_1.f k l0 a1_0).bind fun t578 => (some (decide (t578 ≥ 0)))) = some r := h
 clear h
 replace H := bd H; obtain ⟨t578, A3, H⟩ := H
 obtain rfl := Option.some.inj H
 go_enter Tryz.func150, Tryz.ntmps150
 go_wp2_with (first | (refine gL 174 7 Tryz.func174 #[.slice A0 l0.length c0, .func (.func 151) #[] #[.pointer (some ⟨gq1_0, 0, none⟩)]] ?_; (with_reducible refine (slices_IndexFunc_string_string_JoinParts_1.calls k _ _ l0 gq1_0 a1_0 t578 _ (cu HR0.out) HC0.out (ub BK46.out) A3.out).mono ?_); rintro e w4 ⟨rfl, hb⟩; refine ⟨_, rfl, ?_⟩; replace BK46 := kb BK46 hb; replace HB := ak (below_step bb hb); (try clear hb)))
 go_ret
 exact ⟨er, bb⟩
end Go.Proofs.YtncdadcmghglkaaGreatDoor.PFnExactCountParts
