/- Printed walks; conditions: those in each statement. -/
import Derived.Test.YtncdadcmghglkaaGreatDoorVFnExactCountPartsQt
import Derived.Test.YtncdadcmghglkaaGreatDoorVFnExactCountPartsYt
import Derived.Test.YtncdadcmghglkaaGreatDoorPFnExactCountPartsx0
import Derived.Test.YtncdadcmghglkaaGreatDoorPFnExactCountPartsx11
import Derived.Test.YtncdadcmghglkaaGreatDoorPFnExactCountPartsx12
import Derived.Test.YtncdadcmghglkaaGreatDoorPFnExactCountPartsx13
import Derived.Test.YtncdadcmghglkaaGreatDoorPFnExactCountPartsx14
import Derived.Test.YtncdadcmghglkaaGreatDoorPFnExactCountPartsx16
-- short
-- dense
-- sq
namespace Go.Proofs.YtncdadcmghglkaaGreatDoor.PFnExactCountParts
open Go.RowKit Go.Proofs.YtncdadcmghglkaaGreatDoor.X Go.Proofs.YtncdadcmghglkaaGreatDoorW.PrintWords Go.Proofs.YtncdadcmghglkaaGreatDoorW.PrintLast Go.Proofs.YtncdadcmghglkaaGreatDoorW.PrintMore
attribute [local go_sem] max2_int min2_int max_two min_two max_three min_three max_four min_four   -- for this text's walks alone
set_option linter.unusedVariables false
set_option linter.unusedSimpArgs false
mutual
def impl_ParseKind.l0 : Nat → Bool → List ByteArray → Int → Int → ByteArray → ByteArray → List (S69) → Option (ByteArray × ByteArray × (List (S69)) × Bool)
 | 0, _, _, _, _, _, _, _ => none
 | k + 1, x7, x37, x38, x39, x525000, x525001, x525002 => if x39 < x38 then (if 0 ≤ x39 then (if x39 < (x37.length : Int) then ((strings_Cut.f (rdOf ByteArray.empty x37 x39) (⟨#[61]⟩ : ByteArray)).bind fun bt532 => ((impl_SplitWords.f k bt532.2.1).bind fun bt535 => (if bt532.2.2 = true then (if bt535.2 = true then (impl_ParseKind.j1 k x7 bt532.1 bt535.1 x37 x38 x39 ((bt535.1.length : Int) != 1) x525000 x525001 x525002) else (impl_ParseKind.j1 k x7 bt532.1 bt535.1 x37 x38 x39 true x525000 x525001 x525002)) else (impl_ParseKind.j1 k x7 bt532.1 bt535.1 x37 x38 x39 true x525000 x525001 x525002)))) else (none)) else (none)) else (if x7 = true then ((impl_KindValid.f k x525000 x525001 x525002).bind fun t530 => (if t530 = true then (some (x525000, x525001, x525002, true)) else (some ((⟨#[]⟩ : ByteArray), (⟨#[]⟩ : ByteArray), ([] : List (S69)), false)))) else (some ((⟨#[]⟩ : ByteArray), (⟨#[]⟩ : ByteArray), ([] : List (S69)), false)))
def impl_ParseKind.j1 : Nat → Bool → ByteArray → List ByteArray → List ByteArray → Int → Int → Bool → ByteArray → ByteArray → List (S69) → Option (ByteArray × ByteArray × (List (S69)) × Bool)
 | 0, _, _, _, _, _, _, _, _, _, _ => none
 | k + 1, x7, x11, x14, x37, x38, x39, x64, x525000, x525001, x525002 => if x64 = true then (some ((⟨#[]⟩ : ByteArray), (⟨#[]⟩ : ByteArray), ([] : List (S69)), false)) else ((strings_Trim.f x11 (⟨#[32]⟩ : ByteArray)).bind fun t539 => ((impl_LowerText.f t539).bind fun t540 => (if 0 < (x14.length : Int) then (if x525002.length < 4398046511104 then (impl_ParseKind.l0 k x7 x37 x38 (wrap64 (x39 + 1)) x525000 x525001 (x525002 ++ [(⟨t540, rdOf ByteArray.empty x14 0⟩ : S69)])) else (none)) else (none))))
end
def impl_ParseKind.f (k : Nat) (a0 : ByteArray) : Option (ByteArray × ByteArray × (List (S69)) × Bool) := (impl_TextValid.f k a0).bind fun t513 => (if t513 = true then ((impl_splitOutside.f k a0 59).bind fun t514 => (if 0 < (t514.length : Int) then ((strings_Trim.f (rdOf ByteArray.empty t514 0) (⟨#[32]⟩ : ByteArray)).bind fun t518 => ((strings_Cut.f t518 (⟨#[47]⟩ : ByteArray)).bind fun bt519 => ((impl_LowerText.f bt519.1).bind fun t522 => ((impl_LowerText.f bt519.2.1).bind fun t523 => (if 1 ≤ (t514.length : Int) then ((some (t514.drop 1 : List ByteArray)).bind fun y525 => (impl_ParseKind.l0 k bt519.2.2 y525 (y525.length : Int) 0 t522 t523 ([] : List (S69)))) else (none)))))) else (none))) else (some ((⟨#[]⟩ : ByteArray), (⟨#[]⟩ : ByteArray), ([] : List (S69)), false)))
def impl_ParseKind.T13 : Bool × List (List Nat × List Nat) := (true, [([], []), ([0], [0]), ([], []), ([2], [2]), ([3, 3], [3]), ([], []), ([5], [5]), ([6], [6]), ([4, 7], [4, 7]), ([8], [8]), ([1, 9, 4], [1, 9]), ([0, 1, 2, 3, 4, 5, 6, 7, 8, 9, 10], []), ([11, 10, 10, 0, 1, 2, 3, 4, 5, 6, 7, 8, 9, 10], [10, 11])])
def impl_ParseKind.B13 : List Nat := [0, 1, 0, 4, 12, 0, 32, 96, 252, 508, 1023, 2047, 4095]
theorem impl_ParseKind.tab13 : rtab .any (opsOf Tryz.f48 13) = impl_ParseKind.T13 := by kernel_rfl
theorem impl_ParseKind.bits13 : waitsOk impl_ParseKind.T13.2 impl_ParseKind.B13 = true := by kernel_rfl
set_option maxHeartbeats 8000000 in
set_option maxRecDepth 100000 in
theorem impl_ParseKind.calls (k : Nat) (a0 : ByteArray) (r1 : ByteArray) (r2 : ByteArray) (r3 : List (S69)) (r4 : Bool) (w : World) (hg_ : MaxOk w) (h : impl_ParseKind.f k a0 = some (r1, r2, r3, r4)) :
  Calls Tryz.prog 48 #[.string a0] w fun e w' => ∃ v2_ : Value, e = .returned (.tuple #[.agg #[.string r1, .string r2, v2_], .bool r4]) ∧ Kd.R k69 69 w' w.heap.size (fun _ => True) v2_ r3 ∧ Below w.heap.size w w' := by
 have hu61 := Tryz.underlying61
 have hu69 := Tryz.underlying69
 have HG := ak hg_
 clear hg_
 have HB := ak (Below.refl w.heap.size w)
 have H : ((impl_TextValid.f k a0).bind fun t513 => (if t513 = true then ((impl_splitOutside.f k a0 59).bind fun t514 => (if 0 < (t514.length : Int) then ((strings_Trim.f (rdOf ByteArray.empty t514 0) (⟨#[32]⟩ : ByteArray)).bind fun t518 => ((strings_Cut.f t518 (⟨#[47]⟩ : ByteArray)).bind fun bt519 => ((impl_LowerText.f bt519.1).bind fun t522 => ((impl_LowerText.f bt519.2.1).bind fun t523 => (if 1 ≤ (t514.length : Int) then ((some (t514.drop 1 : List ByteArray)).bind fun y525 => (impl_ParseKind.l0 k bt519.2.2 y525 (y525.length : Int) 0 t522 t523 ([] : List (S69)))) else (none)))))) else (none))) else (some ((⟨#[]⟩ : ByteArray), (⟨#[]⟩ : ByteArray), ([] : List (S69)), false)))) = some (r1, r2, r3, r4) := h
 clear h
 replace H := bd H; obtain ⟨t513, A2, H⟩ := H; replace H := sb H
 rcases H with ⟨rfl, H⟩ | ⟨rfl, H⟩
 ·
  replace H := bd H; obtain ⟨t514, A4, H⟩ := H; replace H := nn H; obtain ⟨c5, H⟩ := H
  have c5b0 := decide_eq_true c5
  have c5b1 : decide (0 < t514.length) = true := decide_eq_true (by omega)
  clear c5
  replace H := bd H; obtain ⟨t518, A6, H⟩ := H; replace H := bd H
  obtain ⟨⟨t519, t520, t521⟩, A7, H⟩ := H
  (try dsimp only at H)
  replace H := bd H; obtain ⟨t522, A8, H⟩ := H; replace H := bd H; obtain ⟨t523, A9, H⟩ := H; replace H := ne_ H; obtain ⟨c10b0, c10b1, H⟩ := H
  obtain ⟨y525, Ny525⟩ := nm (t514.drop 1)
  rw [← Ny525.out] at H
  (try rw [Option.bind_some] at H)
  have H' := ak H; clear H
  go_enter Tryz.func48, Tryz.ntmps48
  go_wp2_with (first | (refine gate_dst (N := 2) rfl ?_; (try (refine gate_guard (by rfl) ?_; dsimp only)); refine bE 2 #[.string (⟨#[]⟩ : ByteArray), .string (⟨#[]⟩ : ByteArray), .slice none 0 0] 61 ?_; intro gb512 hg w11 hbox hb; have BK512 := ak (hbox); have GW512 := ge_ HB hg; have GE512 := ge_ HB hg; replace HB := bs HB hb; clear hb hbox hg) | (refine gL 89 17 Tryz.func89 #[.string a0] ?_; (with_reducible refine (impl_TextValid.calls k a0 true _ A2.out).mono ?_); rintro e w' ⟨rfl, ⟨nd, rfl⟩⟩; refine ⟨_, rfl, ?_⟩; (try (rw [drewN_self w11]; generalize hq_ : World.drewN w11 _ = w11; have n0_ : Aside0 (w11.heap[gb512]? = some (.cells #[.string (⟨#[]⟩ : ByteArray), .string (⟨#[]⟩ : ByteArray), .slice none 0 0] 61 (0, 0))) := ⟨by rw [← hq_]; exact (ub BK512.out)⟩; have n1_ : Aside0 (Below w.heap.size w w11) := ⟨by rw [← hq_]; exact bb⟩; clear BK512 HB hq_; have BK512 := n0_; have HB := n1_; clear n0_ n1_))) | (refine gL 90 21 Tryz.func90 #[.string a0, .int .u8 59] ?_; (with_reducible refine (impl_splitOutside.calls k a0 59 t514 _ A4.out).mono ?_); rintro e w12 ⟨v515, rfl, ho0, hb⟩; refine ⟨_, rfl, ?_⟩; have HO516 := ak (Kd.R_lower ho0 (below_size bb)); replace BK512 := kb BK512 hb; replace HB := ak (below_step bb hb); (try clear hb); (try clear ho0); obtain ⟨Ao13, co13, eo13⟩ := Kd.R_slice HO516.out; subst eo13; have p517 : 0 ≤ (0 : Int) := (by omega); have q517 : 0 < (t514.length : Int) := of_decide_eq_true (by assumption); obtain ⟨ad517, e517, hx517_0⟩ := Kd.at_string (Kd.R_reads' HO516.out).2.2 0 p517 q517; cases e517; have qi517 : (0 < t514.length) = True := eq_true (by omega); (try rw [show ((0 : Int)).toNat = 0 from rfl] at hx517_0); (try rw [Addr.add_zero'] at hx517_0); replace p517 := eq_true p517; replace q517 := eq_true q517) | (refine gL 92 26 Tryz.func92 #[.string (rdOf ByteArray.empty t514 0), .string (⟨#[32]⟩ : ByteArray)] ?_; (with_reducible refine (strings_Trim.calls (rdOf ByteArray.empty t514 0) (⟨#[32]⟩ : ByteArray) t518 _ A6.out).mono ?_); rintro e w' ⟨rfl, ⟨nd, rfl⟩⟩; refine ⟨_, rfl, ?_⟩; (try (rw [drewN_self w12]; generalize hq_ : World.drewN w12 _ = w12; have n0_ : Aside0 (Kd.R Kd.string 9 w12 w.heap.size (fun _ => True) (.slice (some ad517) t514.length co13) t514) := ⟨by rw [← hq_]; exact (ur HO516.out)⟩; have n1_ : Aside0 (w12.heap[gb512]? = some (.cells #[.string (⟨#[]⟩ : ByteArray), .string (⟨#[]⟩ : ByteArray), .slice none 0 0] 61 (0, 0))) := ⟨by rw [← hq_]; exact (ub BK512.out)⟩; have n2_ : Aside0 (Below w.heap.size w w12) := ⟨by rw [← hq_]; exact bb⟩; clear HO516 BK512 HB hq_; have HO516 := n0_; have BK512 := n1_; have HB := n2_; clear n0_ n1_ n2_))) | (refine gL 91 27 Tryz.func91 #[.string t518, .string (⟨#[47]⟩ : ByteArray)] ?_; (with_reducible refine (strings_Cut.calls t518 (⟨#[47]⟩ : ByteArray) t519 t520 t521 _ ?side1 A7.out).mono ?_); (case side1 => first | exact HG.out | exact MaxOk.below HG.out bb | (repeat (first | exact HG.out | apply MaxOk.drewN | apply MaxOk.drew))); rintro e w' ⟨rfl, ⟨nd, rfl⟩⟩; refine ⟨_, rfl, ?_⟩; (try (rw [drewN_self w12]; generalize hq_ : World.drewN w12 _ = w12; have n0_ : Aside0 (Kd.R Kd.string 9 w12 w.heap.size (fun _ => True) (.slice (some ad517) t514.length co13) t514) := ⟨by rw [← hq_]; exact (ur HO516.out)⟩; have n1_ : Aside0 (w12.heap[gb512]? = some (.cells #[.string (⟨#[]⟩ : ByteArray), .string (⟨#[]⟩ : ByteArray), .slice none 0 0] 61 (0, 0))) := ⟨by rw [← hq_]; exact (ub BK512.out)⟩; have n2_ : Aside0 (Below w.heap.size w w12) := ⟨by rw [← hq_]; exact bb⟩; clear HO516 BK512 HB hq_; have HO516 := n0_; have BK512 := n1_; have HB := n2_; clear n0_ n1_ n2_))) | (refine gL 93 32 Tryz.func93 #[.string t519] ?_; (with_reducible refine (impl_LowerText.calls t519 t522 _ A8.out).mono ?_); rintro e w14 ⟨rfl, hb⟩; refine ⟨_, rfl, ?_⟩; replace HO516 := rb HO516 hb; replace BK512 := kb BK512 hb; replace HB := ak (below_step bb hb); (try clear hb)) | (refine gL 93 34 Tryz.func93 #[.string t520] ?_; (with_reducible refine (impl_LowerText.calls t520 t523 _ A9.out).mono ?_); rintro e w15 ⟨rfl, hb⟩; refine ⟨_, rfl, ?_⟩; replace HO516 := rb HO516 hb; replace BK512 := kb BK512 hb; replace HB := ak (below_step bb hb); (try clear hb)) | (refine gate_dst (N := 8) rfl ?_; (try (refine gate_guard (by rfl) ?_; dsimp only)); refine bE 8 #[.string (⟨#[]⟩ : ByteArray), .string (⟨#[]⟩ : ByteArray), .slice none 0 0] 61 ?_; intro gb524 hg w16 hbox hb; have BK524 := ak (hbox); have GW524 := ak ((by rw [hg]; exact (below_size bb) : w.heap.size ≤ gb524)); have GE524 := ak ((by rw [hg]; exact (below_size bb) : w.heap.size ≤ gb524)); have NB512_524 := ak ((by rw [hg]; exact Nat.ne_of_lt (blk_lt (ub BK512.out)) : gb512 ≠ gb524)); have NB524_512 := ak ((by rw [hg]; exact Nat.ne_of_gt (blk_lt (ub BK512.out)) : gb524 ≠ gb512)); replace HO516 := rb HO516 hb; replace BK512 := kb BK512 hb; replace HB := ak (below_step bb hb); clear hb hbox hg; have hnb17 := NB524_512.out; have hnc17 := NB512_524.out; obtain ⟨hcz18_0, hcz18_1, hcz18_2, hfz18_0, hfz18_1, hfz18_2⟩ := cz3 BK524.out) | ((with_reducible refine gate_store (t := 61) (p := 8) rfl ?_); refine store_event (t := 61) (p := 8) (v := ?vo_w19) (w1 := (((w16.setCell ⟨gb524, 0, none⟩ (.string t522)).setCell ⟨gb524, 1, none⟩ (.string t523)).setCell ⟨gb524, 2, none⟩ (.slice none 0 0))) ?hg ?ho ?hn ?hr ?_; (case ho => rfl); (case hg => rfl); (case hn => rfl); (case hr => first | (go_simp; done) | (go_simp; rfl)); intro w19 hw; have n0_ : Aside0 (Kd.R Kd.string 9 w19 w.heap.size (fun _ => True) (.slice (some ad517) t514.length co13) t514) := ⟨(by rw [hw]; exact (ur (Kd.R_mono (Kd.R_far (p := ⟨gb524, 2, none⟩) (Kd.R_far (p := ⟨gb524, 1, none⟩) (Kd.R_far (p := ⟨gb524, 0, none⟩) (Kd.R_types HO516.out BK524.out (by decide)) (fun _ hk => hk.2) (.string t522)) (fun _ hk => hk.2) (.string t523)) (fun _ hk => hk.2) (.slice none 0 0)) (fun _ hk => trivial))))⟩; have n1_ : Aside0 (w19.heap[gb512]? = some (.cells #[.string (⟨#[]⟩ : ByteArray), .string (⟨#[]⟩ : ByteArray), .slice none 0 0] 61 (0, 0))) := ⟨(by rw [hw]; exact (by (with_reducible repeat (first | refine blk_drewN ?_ _ | refine blk_drew ?_ | refine blk_alloc ?_ _)); refine blk_far ?_ NB512_524.out _; (with_reducible repeat (first | refine blk_drewN ?_ _ | refine blk_drew ?_ | refine blk_alloc ?_ _)); refine blk_far ?_ NB512_524.out _; (with_reducible repeat (first | refine blk_drewN ?_ _ | refine blk_drew ?_ | refine blk_alloc ?_ _)); refine blk_far ?_ NB512_524.out _; (with_reducible repeat (first | refine blk_drewN ?_ _ | refine blk_drew ?_ | refine blk_alloc ?_ _)); exact BK512.out))⟩; have n2_ : Aside0 (w19.heap[gb524]? = some (.cells #[.string t522, .string t523, .slice none 0 0] 61 (0, 0))) := ⟨(by rw [hw]; exact (by (with_reducible repeat (first | refine blk_drewN ?_ _ | refine blk_drew ?_ | refine blk_alloc ?_ _)); refine blk_put (cs := #[.string t522, .string t523, .slice none 0 0]) ?_ 2 _ rfl; (with_reducible repeat (first | refine blk_drewN ?_ _ | refine blk_drew ?_ | refine blk_alloc ?_ _)); refine blk_put (cs := #[.string t522, .string (⟨#[]⟩ : ByteArray), .slice none 0 0]) ?_ 1 _ rfl; (with_reducible repeat (first | refine blk_drewN ?_ _ | refine blk_drew ?_ | refine blk_alloc ?_ _)); refine blk_put (cs := #[.string (⟨#[]⟩ : ByteArray), .string (⟨#[]⟩ : ByteArray), .slice none 0 0]) ?_ 0 _ rfl; (with_reducible repeat (first | refine blk_drewN ?_ _ | refine blk_drew ?_ | refine blk_alloc ?_ _)); exact BK524.out))⟩; have n3_ : Aside0 (Below w.heap.size w w19) := ⟨(by rw [hw]; exact bb)⟩; clear hw; clear HO516; clear BK512; clear BK524; clear HB; have HO516 := n0_; have BK512 := n1_; have BK524 := n2_; have HB := n3_; clear n0_ n1_ n2_ n3_; have q20 : (1 : Int) ≤ ((t514.length : Int) : Int) := of_decide_eq_true (by assumption); obtain ⟨i020, hi020, _, hsz20, _⟩ := info_parts info9; have hroom20 : t514.length ≤ co13 := (Kd.R_reads' HO516.out).2.1; have hC20 : Kd.F Kd.string _ _ (some ad517) t514.length t514 := (Kd.V_at (base := w.heap.size) (Kd.R_V (Kd.R_types (Kd.R_types (HO516.out) BK512.out (by decide)) BK524.out (by decide)))).2.2; have hcut20 := cut_from (P := Tryz.prog) 23 9 .i64 Tryz.underlying23 hi020 1 hsz20 (some ad517) t514.length co13 1 (by omega) q20; have hr20 := Kd.F_cut (m := (1 : Int).toNat) (c := co13) hC20 (by omega) hroom20; obtain ⟨A20, hA20⟩ : ∃ A1, A1 = (if co13 = (1 : Int).toNat then (some ad517) else ((some ad517) : Option Addr).map (·.add ((1 : Int).toNat * 1))) := ⟨_, rfl⟩; obtain ⟨c20, hc20⟩ : ∃ c1, c1 = co13 - (1 : Int).toNat := ⟨_, rfl⟩; have hy20 : y525.length = t514.length - (1 : Int).toNat := (by rw [Ny525.out, List.length_drop] <;> omega); rw [show (t514).drop (1 : Int).toNat = y525 from Ny525.out.symm] at hr20; replace hr20 : Kd.F Kd.string _ _ A20 y525.length y525 := (by rw [hA20]; exact hr20); rw [← hy20, ← hA20, ← hc20] at hcut20; have HO529 := ak (show Kd.V Kd.string 9 _ w.heap.size _ (.slice A20 y525.length c20) y525 from Kd.V_mk (by rw [hy20, hc20]; exact Nat.sub_le_sub_right hroom20 _) hr20); have HC529 := ak (show y525.length ≤ c20 from by rw [hy20, hc20]; exact Nat.sub_le_sub_right hroom20 _); clear hr20 hC20 hroom20 hi020 hsz20 hc20; have KY20 := ak hy20; have KA20 := ak hA20; clear hy20 hA20; replace q20 := eq_true q20))
  go_loopg [39] k (fun kq v39 w' => ∃ (x39_1 : Int) (x513000_1 : ByteArray) (x513001_1 : ByteArray) (x525002_1 : List (S69)) (u525002 : Value), v39 = .int .i64 x39_1 ∧ Aside0 (impl_ParseKind.l0 kq t521 y525 (y525.length : Int) x39_1 t522 t523 x525002_1 = some (r1, r2, r3, r4)) ∧ Aside0 (kq ≤ k) ∧ Aside0 (Kd.V Kd.string 9 w' w.heap.size (fun k_ => some k_ ≠ (u525002 : Value).ownBlock ∧ k_ ≠ gb512 ∧ k_ ≠ gb524) (.slice A20 y525.length c20) y525) ∧ Aside0 (Kd.R k69 69 w' w.heap.size (fun _ => True) u525002 x525002_1) ∧ Aside0 (w'.heap[gb512]? = some (.cells #[.string x513000_1, .string x513001_1, (.slice none 0 0)] 61 (0, 0))) ∧ Aside0 (w'.heap[gb524]? = some (.cells #[.string t522, .string t523, u525002] 61 (0, 0))) ∧ Aside0 (Below w.heap.size w w'))
  case atStart => exact ⟨(0), ((⟨#[]⟩ : ByteArray)), ((⟨#[]⟩ : ByteArray)), (([] : List (S69))), (.slice none 0 0), rs, H', ⟨Nat.le_refl _⟩, ⟨by (with_reducible repeat (first | apply Kd.V_alloc | apply Kd.V_drewN | apply Kd.V_drew)); exact Kd.V_mono HO529.out (fun _ hk => ⟨(by simp [Value.ownBlock]), ⟨hk.1.2, hk.2⟩⟩)⟩, ⟨nx⟩, ⟨ub BK512.out⟩, ⟨ub BK524.out⟩, ⟨bb⟩⟩
  case round =>
   clear H'
   try clear c1
   try clear c2
   try clear p2
   try clear q2
   try clear c3
   try clear c4
   try clear c5
   try clear c5b0
   try clear c5b1
   try clear p5
   try clear q5
   try clear hx5
   try clear qi5
   try clear c8
   try clear c9
   try clear c10
   try clear c10b0
   try clear c10b1
   try clear c17
   try clear c20
   try clear q20
   try clear hcz18_0
   try clear hcz18_1
   try clear hcz18_2
   try clear hfz18_0
   try clear hfz18_1
   try clear hfz18_2
   try clear hx517_0
   try clear p517
   try clear q20
   try clear q517
   obtain ⟨x39_1, x513000_1, x513001_1, x525002_1, u525002, rfl, HA, HK1, HO_37, HO_525002, BK512, BK524, HB⟩ := hrel
   cases gk with
   | zero => exact absurd HA.out (by simp [impl_ParseKind.l0])
   | succ k1 =>
    have H := HA.out
    clear HA
    simp only [impl_ParseKind.l0] at H
    replace H := sd H
    rcases H with ⟨c21b0, H⟩ | ⟨c21b0, H⟩
    ·
     replace H := nde H; obtain ⟨c22b0, H⟩ := H; replace H := nde H; obtain ⟨c23b0, H⟩ := H; replace H := bd H
     obtain ⟨⟨t532, t533, t534⟩, A24, H⟩ := H
     (try dsimp only at H)
     replace H := bd H
     obtain ⟨⟨t535, t536⟩, A25, H⟩ := H
     (try dsimp only at H)
     have HC26 := ak H
     clear H
     have p531 := zi x39_1
     have q531 := zj x39_1 y525.length
     obtain ⟨ad531, e531, hx531_0⟩ := Kd.at_string (Kd.V_reads' HO_37.out).2.2 x39_1 p531 q531
     cases e531
     replace p531 := eq_true p531
     replace q531 := eq_true q531
     go_upto_region 11 with (first | (refine gL 91 45 Tryz.func91 #[.string (rdOf ByteArray.empty y525 x39_1), .string (⟨#[61]⟩ : ByteArray)] ?_; (with_reducible refine (strings_Cut.calls (rdOf ByteArray.empty y525 x39_1) (⟨#[61]⟩ : ByteArray) t532 t533 t534 _ ?side1 A24.out).mono ?_); (case side1 => first | exact HG.out | exact MaxOk.below HG.out bb | (repeat (first | exact HG.out | apply MaxOk.drewN | apply MaxOk.drew))); rintro e w' ⟨rfl, ⟨nd, rfl⟩⟩; refine ⟨_, rfl, ?_⟩) | (refine gL 94 51 Tryz.func94 #[.string t533] ?_; (with_reducible refine (impl_SplitWords.calls k1 t533 t535 t536 _ A25.out).mono ?_); rintro e w27 ⟨v537, rfl, ho0, hb⟩; refine ⟨_, rfl, ?_⟩; have HO538 := ak (Kd.R_lower ho0 (below_size bb)); replace HO_37 := ak (Kd.V_elder' (by (with_reducible repeat (first | apply Kd.V_alloc | apply Kd.V_drewN | apply Kd.V_drew)); exact HO_37.out) (Kd.R_base ho0) hb); replace HO_525002 := rb HO_525002 hb; replace BK512 := kb BK512 hb; replace BK524 := kb BK524 hb; replace HB := ak (below_step bb hb); (try clear hb); (try clear ho0)))
     (try simp only [Act.put, l_a, l_b, l_c])
     go_cut [64] (fun v64 wc => ∃ (kq : Nat) (x64_25 : Bool), v64 = .bool x64_25 ∧ Aside0 (impl_ParseKind.j1 kq t521 t532 t535 y525 (y525.length : Int) x39_1 x64_25 t522 t523 x525002_1 = some (r1, r2, r3, r4)) ∧ Aside0 (kq ≤ k1) ∧ Aside0 (Kd.R Kd.string 9 wc w.heap.size (fun _ => True) v537 t535) ∧ Aside0 (Kd.V Kd.string 9 wc w.heap.size (fun k_ => some k_ ≠ (v537 : Value).ownBlock ∧ some k_ ≠ (u525002 : Value).ownBlock ∧ k_ ≠ gb512 ∧ k_ ≠ gb524) (.slice (some ad531) y525.length c20) y525) ∧ Aside0 (Kd.R k69 69 wc w.heap.size (fun _ => True) u525002 x525002_1) ∧ Aside0 (wc.heap[gb512]? = some (.cells #[.string x513000_1, .string x513001_1, (.slice none 0 0)] 61 (0, 0))) ∧ Aside0 (wc.heap[gb524]? = some (.cells #[.string t522, .string t523, u525002] 61 (0, 0))) ∧ Aside0 (Below w.heap.size w wc))
     case first =>
      have H := HC26.out
      clear HC26
      replace H := sb H
      rcases H with ⟨rfl, H⟩ | ⟨rfl, H⟩
      ·
       replace H := sb H
       rcases H with ⟨rfl, H⟩ | ⟨rfl, H⟩
       ·
        have H' := ak H; clear H
        obtain ⟨Ao30, co30, eo30⟩ := Kd.R_slice HO538.out
        subst eo30
        go_wp2
        go_meet
        case rel => exact ⟨_, (((t535.length : Int) != 1)), rs, H', ⟨by have := HK1.out; first | omega | exact Nat.le_refl _⟩, ⟨ur HO538.out⟩, ⟨by (with_reducible repeat (first | apply Kd.V_alloc | apply Kd.V_drewN | apply Kd.V_drew)); exact Kd.V_mono HO_37.out (fun _ hk => ⟨hk.2, ⟨hk.1.1, ⟨hk.1.2.1, hk.1.2.2⟩⟩⟩)⟩, ⟨ur HO_525002.out⟩, ⟨ub BK512.out⟩, ⟨ub BK524.out⟩, ⟨bb⟩⟩
       ·
        have H' := ak H; clear H
        go_wp2
        go_meet
        case rel => exact ⟨_, (true), rs, H', ⟨by have := HK1.out; first | omega | exact Nat.le_refl _⟩, ⟨ur HO538.out⟩, ⟨by (with_reducible repeat (first | apply Kd.V_alloc | apply Kd.V_drewN | apply Kd.V_drew)); exact Kd.V_mono HO_37.out (fun _ hk => ⟨hk.2, ⟨hk.1.1, ⟨hk.1.2.1, hk.1.2.2⟩⟩⟩)⟩, ⟨ur HO_525002.out⟩, ⟨ub BK512.out⟩, ⟨ub BK524.out⟩, ⟨bb⟩⟩
      ·
       have H' := ak H; clear H
       go_wp2
       go_meet
       case rel => exact ⟨_, (true), rs, H', ⟨by have := HK1.out; first | omega | exact Nat.le_refl _⟩, ⟨ur HO538.out⟩, ⟨by (with_reducible repeat (first | apply Kd.V_alloc | apply Kd.V_drewN | apply Kd.V_drew)); exact Kd.V_mono HO_37.out (fun _ hk => ⟨hk.2, ⟨hk.1.1, ⟨hk.1.2.1, hk.1.2.2⟩⟩⟩)⟩, ⟨ur HO_525002.out⟩, ⟨ub BK512.out⟩, ⟨ub BK524.out⟩, ⟨bb⟩⟩
     case rest =>
      clear HC26
      try clear c1
      try clear c2
      try clear p2
      try clear q2
      try clear c3
      try clear c4
      try clear c5
      try clear c5b0
      try clear c5b1
      try clear p5
      try clear q5
      try clear hx5
      try clear qi5
      try clear c8
      try clear c9
      try clear c10
      try clear c10b0
      try clear c10b1
      try clear c17
      try clear c20
      try clear q20
      try clear c21
      try clear c21b0
      try clear c22
      try clear c22b0
      try clear c23
      try clear c23b0
      try clear c28
      try clear c29
      try clear hcz18_0
      try clear hcz18_1
      try clear hcz18_2
      try clear hfz18_0
      try clear hfz18_1
      try clear hfz18_2
      try clear hx517_0
      try clear hx531_0
      try clear p2
      try clear p5
      try clear p517
      try clear p531
      try clear q2
      try clear q20
      try clear q5
      try clear q517
      try clear q531
      obtain ⟨kq, x64_25, rfl, HA, HJ25, HO_14, HO_37, HO_525002, BK512, BK524, HB⟩ := hcut
      cases kq with
      | zero => exact absurd HA.out (by simp [impl_ParseKind.j1])
      | succ kj25 =>
       have H := HA.out
       clear HA
       simp only [impl_ParseKind.j1] at H
       replace H := sb H
       rcases H with ⟨rfl, H⟩ | ⟨rfl, H⟩
       ·
        simp only [Option.some.injEq, Prod.mk.injEq] at H
        obtain ⟨rfl, rfl, rfl, rfl⟩ := H
        have hnb32 := NB512_524.out
        have hnc32 := NB524_512.out
        obtain ⟨hcz33_0, hcz33_1, hcz33_2, hfz33_0, hfz33_1, hfz33_2⟩ := cz3 BK512.out
        go_wp2
        refine bodyPost_ret (results_ct rfl _ _ gb512 61 #[.string (⟨#[]⟩ : ByteArray), .string (⟨#[]⟩ : ByteArray), .slice none 0 0] (0, 0) _ rfl (by (with_reducible repeat (first | refine blk_drewN ?_ _ | refine blk_drew ?_ | refine blk_alloc ?_ _)); refine blk_put (cs := #[.string (⟨#[]⟩ : ByteArray), .string (⟨#[]⟩ : ByteArray), .slice none 0 0]) ?_ 2 _ rfl; (with_reducible repeat (first | refine blk_drewN ?_ _ | refine blk_drew ?_ | refine blk_alloc ?_ _)); refine blk_put (cs := #[.string (⟨#[]⟩ : ByteArray), .string x513001_1, .slice none 0 0]) ?_ 1 _ rfl; (with_reducible repeat (first | refine blk_drewN ?_ _ | refine blk_drew ?_ | refine blk_alloc ?_ _)); refine blk_put (cs := #[.string x513000_1, .string x513001_1, .slice none 0 0]) ?_ 0 _ rfl; (with_reducible repeat (first | refine blk_drewN ?_ _ | refine blk_drew ?_ | refine blk_alloc ?_ _)); exact BK512.out) Tryz.underlying61 rfl (by kernel_rfl)) rfl ?_
        exact ⟨_, er, nx, bb⟩
       ·
        replace H := bd H; obtain ⟨t539, A34, H⟩ := H; replace H := bd H; obtain ⟨t540, A35, H⟩ := H; replace H := nn H; obtain ⟨c36, H⟩ := H
        have c36b0 := decide_eq_true c36
        have c36b1 : decide (0 < t535.length) = true := decide_eq_true (by omega)
        clear c36
        replace H := nl H; obtain ⟨LMc37, H⟩ := H
        obtain ⟨y542, Ny542⟩ := nm (x525002_1 ++ [(⟨t540, rdOf ByteArray.empty t535 0⟩ : S69)])
        rw [← Ny542.out] at H
        (try rw [Option.bind_some] at H)
        have H' := ak H; clear H
        try go_wp2
        replace HO_14 := ak (Kd.R_drew HO_14.out)
        replace HO_37 := ak (Kd.V_drew HO_37.out)
        replace HO_525002 := ak (Kd.R_drew HO_525002.out)
        replace BK512 := ak (blk_drew BK512.out)
        replace BK524 := ak (blk_drew BK524.out)
        replace HB := ak (below_drew1 HB.out)
        obtain ⟨Ao39, co39, eo39⟩ := Kd.R_slice HO_14.out
        (first | subst eo39 | (injection eo39 with f1_ f2_ f3_; have f4_ := f1_.symm; have f5_ := f3_.symm; clear f1_ f2_ f3_; subst f4_; subst f5_))
        have p541 : 0 ≤ (0 : Int) := (by omega)
        have q541 : 0 < (t535.length : Int) := of_decide_eq_true (by assumption)
        obtain ⟨ad541, e541, hx541_0⟩ := Kd.at_string (Kd.R_reads' HO_14.out).2.2 0 p541 q541
        cases e541
        have qi541 : (0 < t535.length) = True := eq_true (by omega)
        (try rw [show ((0 : Int)).toNat = 0 from rfl] at hx541_0)
        (try rw [Addr.add_zero'] at hx541_0)
        replace p541 := eq_true p541
        replace q541 := eq_true q541
        refine start_ (n := 13) (S := fun w' => w'.cell? ⟨gb524, 0, none⟩ = some (.string t522) ∧ w'.cell? ⟨gb524, 1, none⟩ = some (.string t523) ∧ w'.cell? ⟨gb524, 2, none⟩ = some (u525002) ∧ w'.cell? ad541 = some (.string (rdOf ByteArray.empty t535 0))) (ds := [10, 12]) #[false, false, false, false, false, false, false, false, false, false, false, false, false] (by kernel_rfl) rfl rfl ⟨(blk_cell BK524.out 0).trans rfl, (blk_cell BK524.out 1).trans rfl, (blk_cell BK524.out 2).trans rfl, hx541_0⟩ (fun hHeld => ?_); refine with_tabW impl_ParseKind.tab13 impl_ParseKind.bits13 (fun HT_ HW_ => ?_)
        generalize wc.drew = w38 at HO_14 HO_37 HO_525002 BK512 BK524 HB hx541_0 hHeld ⊢
        refine pure_ (i := 0) (N := some 66) (v := ?_) (a' := ?_) #[true, false, false, false, false, false, false, false, false, false, false, false, false] rfl rfl (any_of HT_.out (by kernel_rfl)) (fun _ _ _ h => h) (Or.inl ⟨by rfl, ?_⟩) ?_ ?_
        rotate_left
        ·
         intro w'
         go_simp
         with_reducible rfl
        rotate_left
        ·
         simp only [Act.put, l_a, l_b, l_c, i64_w, i32_w]
         rfl
        refine pure_ (i := 2) (N := some 68) (v := ?_) (a' := ?_) #[true, false, true, false, false, false, false, false, false, false, false, false, false] rfl rfl (any_of HT_.out (by kernel_rfl)) (fun _ _ _ h => h) (Or.inl ⟨by rfl, ?_⟩) ?_ ?_
        rotate_left
        ·
         intro w'
         go_simp
         with_reducible rfl
        rotate_left
        ·
         simp only [Act.put, l_a, l_b, l_c, i64_w, i32_w]
         rfl
        refine pure_ (i := 5) (N := some 71) (v := ?_) (a' := ?_) #[true, false, true, false, false, true, false, false, false, false, false, false, false] rfl rfl (any_of HT_.out (by kernel_rfl)) (fun _ _ _ h => h) (Or.inl ⟨by rfl, ?_⟩) ?_ ?_
        rotate_left
        ·
         intro w'
         go_simp
         with_reducible rfl
        rotate_left
        ·
         simp only [Act.put, l_a, l_b, l_c, i64_w, i32_w]
         rfl
        refine pure_ (i := 6) (N := some 72) (v := ?_) (a' := ?_) #[true, false, true, false, false, true, true, false, false, false, false, false, false] rfl rfl (any_of HT_.out (by kernel_rfl)) (fun _ _ _ h => h) (Or.inl ⟨by rfl, ?_⟩) ?_ ?_
        rotate_left
        ·
         intro w'
         go_simp
         with_reducible rfl
        rotate_left
        ·
         simp only [Act.put, l_a, l_b, l_c, i64_w, i32_w]
         rfl
        refine take_ (i := 1) (N := some 67) (v := ?_) (a' := ?_) #[true, true, true, false, false, true, true, false, false, false, false, false, false] rfl rfl (take_ofW HT_.out HW_.out (by kernel_rfl)) (fun _ _ _ h => h) (Or.inl ⟨by rfl, ?_⟩) hHeld ?_ ?_
        rotate_left
        ·
         rintro w' ⟨s0, s1, s2, s3⟩
         go_simp
         with_reducible rfl
        rotate_left
        ·
         simp only [Act.put, l_a, l_b, l_c, i64_w, i32_w]
         rfl
        refine take_ (i := 7) (N := some 73) (v := ?_) (a' := ?_) #[true, true, true, false, false, true, true, true, false, false, false, false, false] rfl rfl (take_ofW HT_.out HW_.out (by kernel_rfl)) (fun _ _ _ h => h) (Or.inl ⟨by rfl, ?_⟩) hHeld ?_ ?_
        rotate_left
        ·
         rintro w' ⟨s0, s1, s2, s3⟩
         go_simp
         with_reducible rfl
        rotate_left
        ·
         simp only [Act.put, l_a, l_b, l_c, i64_w, i32_w]
         rfl
        refine one_ (i := 3) (N := some 69) #[true, true, true, true, false, true, true, true, false, false, false, false, false] rfl rfl (one_of HT_.out (by kernel_rfl)) (by decide) (fun K hK => ?_)
        refine goes_ Tryz.func92 (by kernel_rfl) rfl #[.string t532, .string (⟨#[32]⟩ : ByteArray)] (by rfl) rfl rfl ma ?_
        with_reducible refine (strings_Trim.calls t532 (⟨#[32]⟩ : ByteArray) t539 _ A34.out).mono ?_
        rintro e w' ⟨rfl, ⟨nd, rfl⟩⟩
        refine ⟨_, rfl, ?_⟩
        refine hK.out _ _ ⟨(blk_cell BK524.out 0).trans rfl, (blk_cell BK524.out 1).trans rfl, (blk_cell BK524.out 2).trans rfl, hHeld.2.2.2⟩ (fun hHeld => ?_)
        clear hK K
        refine norm_ (a' := ?_) ?_ ?_
        rotate_left
        ·
         show Act.put _ (some 69) _ = _
         simp only [Act.put, l_a, l_b, l_c, i64_w, i32_w]
         rfl
        refine one_ (i := 4) (N := some 70) #[true, true, true, true, true, true, true, true, false, false, false, false, false] rfl rfl (one_of HT_.out (by kernel_rfl)) (by decide) (fun K hK => ?_)
        refine goes_ Tryz.func93 (by kernel_rfl) rfl #[.string t539] (by rfl) rfl rfl ma ?_
        with_reducible refine (impl_LowerText.calls t539 t540 _ A35.out).mono ?_
        rintro e w40 ⟨rfl, hb⟩
        have HS3_ := (hb.cell (World.block_lt_of_cell? _ _ (hHeld.2.2.2))).trans (hHeld.2.2.2)
        refine ⟨_, rfl, ?_⟩
        replace HO_14 := rb HO_14 hb
        replace HO_37 := ak (Kd.V_below (by (with_reducible repeat (first | apply Kd.V_alloc | apply Kd.V_drewN | apply Kd.V_drew)); exact HO_37.out) hb)
        replace HO_525002 := rb HO_525002 hb
        replace BK512 := kb BK512 hb
        replace BK524 := kb BK524 hb
        replace HB := ak (below_step bb hb)
        (try clear hb)
        refine hK.out _ _ ⟨(blk_cell BK524.out 0).trans rfl, (blk_cell BK524.out 1).trans rfl, (blk_cell BK524.out 2).trans rfl, HS3_⟩ (fun hHeld => ?_)
        clear hK K
        refine norm_ (a' := ?_) ?_ ?_
        rotate_left
        ·
         show Act.put _ (some 70) _ = _
         simp only [Act.put, l_a, l_b, l_c, i64_w, i32_w]
         rfl
        refine pure_ (i := 8) (N := some 74) (v := ?_) (a' := ?_) #[true, true, true, true, true, true, true, true, true, false, false, false, false] rfl rfl (any_of HT_.out (by kernel_rfl)) (fun _ _ _ h => h) (Or.inl ⟨by rfl, ?_⟩) ?_ ?_
        rotate_left
        ·
         intro w'
         go_simp
         with_reducible rfl
        rotate_left
        ·
         simp only [Act.put, l_a, l_b, l_c, i64_w, i32_w]
         rfl
        refine one_ (i := 9) (N := some 75) #[true, true, true, true, true, true, true, true, true, true, false, false, false] rfl rfl (one_of HT_.out (by kernel_rfl)) (by decide) (fun K hK => ?_)
        refine value_ (w1 := ?_) (v := ?_) (by rfl) rfl ?_ ?_
        rotate_left 2
        ·
         go_simp
         constructor
         ·
          rfl
         ·
          rfl
        refine hK.out _ _ ⟨(blk_cell (blk_alloc BK524.out _) 0).trans rfl, (blk_cell (blk_alloc BK524.out _) 1).trans rfl, (blk_cell (blk_alloc BK524.out _) 2).trans rfl, (World.cell?_alloc_lt _ _ _ (World.block_lt_of_cell? _ _ (hHeld.2.2.2))).trans (hHeld.2.2.2)⟩ (fun hHeld => ?_)
        clear hK K
        refine norm_ (a' := ?_) ?_ ?_
        rotate_left
        ·
         show Act.put _ (some 75) _ = _
         simp only [Act.put, l_a, l_b, l_c, i64_w, i32_w]
         rfl
        refine last_ (i := 10) (N := some 76) #[true, true, true, true, true, true, true, true, true, true, true, false, false] rfl rfl (one_of HT_.out (by kernel_rfl)) (by decide) (fun K hK => ?_)
        refine Kd.R_append_step k69 (w0 := w) w.heap.size (by rfl) (.tmp 67) (.tmp 75) 25 69 (.agg #[(.string ⟨#[]⟩), (.string ⟨#[]⟩)]) 32 rfl Tryz.underlying25 info69 rfl (by decide) (by omega) u525002 x525002_1 (⟨t540, rdOf ByteArray.empty t535 0⟩ : S69) [.string t540, .string (rdOf ByteArray.empty t535 0)] (fun _ => True) (fun _ => False) rfl rfl ?aP (fun _ hk => hk.elim) ?aF ?aO ?aB ?aS ?aL ?_
        (case aP => exact k69_mkM _ _ _ (⟨t540, rdOf ByteArray.empty t535 0⟩ : S69))
        (case aB => exact bb)
        (case aF => exact (fun _ _ => trivial))
        (case aO => exact (ur HO_525002.out))
        (case aS => exact (below_size bb))
        (case aL => have := LMc37.out; omega)
        intro v543 w41 ho hb hg hat
        rw [← Ny542.out] at ho
        have n0_ := ak (Kd.R_over' (ur HO_14.out) (Kd.R_typed (ur HO_525002.out)) (by decide) hg)
        have n1_ := ak (Kd.V_afterv (ok := (fun k_ => some k_ ≠ (.slice (some ad541) t535.length co39 : Value).ownBlock ∧ k_ ≠ gb512 ∧ k_ ≠ gb524)) (by (with_reducible repeat (first | apply Kd.V_alloc | apply Kd.V_drewN | apply Kd.V_drew)); exact Kd.V_mono HO_37.out (fun _ hk => ⟨⟨hk.1, ⟨hk.2.2.1, hk.2.2.2⟩⟩, hk.2.1⟩)) hg hat)
        have n2_ := ak (blk_grown (g := gb512) (o := .cells #[.string x513000_1, .string x513001_1, .slice none 0 0] 61 (0, 0)) (ub BK512.out) hg (Kd.R_ne HO_525002.out BK512.out (by decide)))
        have n3_ := ak (blk_grown (g := gb524) (o := .cells #[.string t522, .string t523, u525002] 61 (0, 0)) (ub BK524.out) hg (Kd.R_ne HO_525002.out BK524.out (by decide)))
        have n4_ := ak (hb)
        have n5_ := ak (ho)
        clear HO_14 HO_37 BK512 BK524 HB HO_525002
        have HO_14 := n0_
        have HO_37 := n1_
        have BK512 := n2_
        have BK524 := n3_
        have HB := n4_
        have HO544 := n5_
        clear n0_ n1_ n2_ n3_ n4_ n5_ ho hb hg hat
        obtain ⟨Ao42, co42, eo42⟩ := Kd.R_slice HO544.out
        (first | subst eo42 | (injection eo42 with f1_ f2_ f3_; have f4_ := f1_.symm; have f5_ := f3_.symm; clear f1_ f2_ f3_; subst f4_; subst f5_))
        refine hK.out _ _ ?_
        clear hK K
        refine norm_ (a' := ?_) ?_ ?_
        rotate_left
        ·
         show Act.put _ (some 76) _ = _
         simp only [Act.put, l_a, l_b, l_c, i64_w, i32_w]
         rfl
        refine pure_ (i := 11) (N := some 77) (v := ?_) (a' := ?_) #[true, true, true, true, true, true, true, true, true, true, true, true, false] rfl rfl (any_of HT_.out (by kernel_rfl)) (fun _ _ _ h => h) (Or.inl ⟨by rfl, ?_⟩) ?_ ?_
        rotate_left
        ·
         intro w'
         go_simp
         with_reducible rfl
        rotate_left
        ·
         simp only [Act.put, l_a, l_b, l_c, i64_w, i32_w]
         rfl
        refine last_ (i := 12) (N := none) #[true, true, true, true, true, true, true, true, true, true, true, true, true] rfl rfl (one_of HT_.out (by kernel_rfl)) (by decide) (fun K hK => ?_)
        have hs43 : w41.cell? ⟨gb524, 2, none⟩ = some (u525002) := (blk_cell BK524.out 2).trans rfl
        have hfs43 := blk_frozen BK524.out 2
        have hns43_0 := NB512_524.out
        have hms43_0 := NB524_512.out
        refine skip_ (w1 := ?_) (by rfl) rfl ?_ ?_
        rotate_left
        ·
         go_simp
         rfl
        refine hK.out _ _ ?_
        clear hK K
        refine done_ (done_of HT_.out (by kernel_rfl)) ?_
        try go_wp2
        go_roundg kj25
        case measure => have := HK1.out; have := HJ25.out; omega
        case rel => exact ⟨(wrap64 (x39_1 + 1)), (x513000_1), (x513001_1), (y542), (.slice Ao42 y542.length co42), rs, H', ⟨by have := HK1.out; have := HJ25.out; omega⟩, ⟨by (with_reducible repeat (first | apply Kd.V_alloc | apply Kd.V_drewN | apply Kd.V_drew)); exact Kd.V_mono (Kd.V_far (p := ⟨gb524, 2, none⟩) (Kd.V_mono HO_37.out (fun k_ hk => (⟨hk, hk.1.2.2⟩ : _ ∧ k_ ≠ gb524))) (fun _ hk => hk.2) (.slice Ao42 y542.length co42)) (fun _ hk => ⟨hk.1.2, ⟨hk.1.1.2.1, hk.1.1.2.2⟩⟩)⟩, ⟨ur (Kd.R_mono (Kd.R_far (p := ⟨gb524, 2, none⟩) (Kd.R_types HO544.out BK524.out (by decide)) (fun _ hk => hk.2) (.slice Ao42 y542.length co42)) (fun _ hk => trivial))⟩, ⟨by (with_reducible repeat (first | refine blk_drewN ?_ _ | refine blk_drew ?_ | refine blk_alloc ?_ _)); refine blk_far ?_ NB512_524.out _; (with_reducible repeat (first | refine blk_drewN ?_ _ | refine blk_drew ?_ | refine blk_alloc ?_ _)); exact BK512.out⟩, ⟨by (with_reducible repeat (first | refine blk_drewN ?_ _ | refine blk_drew ?_ | refine blk_alloc ?_ _)); refine blk_put (cs := #[.string t522, .string t523, u525002]) ?_ 2 _ rfl; (with_reducible repeat (first | refine blk_drewN ?_ _ | refine blk_drew ?_ | refine blk_alloc ?_ _)); exact BK524.out⟩, ⟨bb⟩⟩
    ·
     replace H := sb H
     rcases H with ⟨rfl, H⟩ | ⟨rfl, H⟩
     ·
      replace H := bd H; obtain ⟨t530, A45, H⟩ := H; replace H := sb H
      rcases H with ⟨rfl, H⟩ | ⟨rfl, H⟩
      ·
       simp only [Option.some.injEq, Prod.mk.injEq] at H
       obtain ⟨rfl, rfl, rfl, rfl⟩ := H
       have hnb47 := NB524_512.out
       have hnc47 := NB512_524.out
       obtain ⟨hcz48_0, hcz48_1, hcz48_2, hfz48_0, hfz48_1, hfz48_2⟩ := cz3 BK524.out
       obtain ⟨Ao49, co49, eo49⟩ := Kd.R_slice HO_525002.out
       subst eo49
       go_wp2_with (first | (go_at_call 95; (with_reducible refine (impl_KindValid.calls k1 t522 t523 _ _ x525002_1 true _ (cu ((Kd.R_reads' HO_525002.out).2.2)) ((Kd.R_reads' HO_525002.out).2.1) A45.out).mono ?_); rintro e w50 ⟨rfl, hb⟩; replace HO_37 := ak (Kd.V_below (by (with_reducible repeat (first | apply Kd.V_alloc | apply Kd.V_drewN | apply Kd.V_drew)); exact HO_37.out) hb); replace HO_525002 := rb HO_525002 hb; replace BK512 := kb BK512 hb; replace BK524 := kb BK524 hb; replace HB := ak (below_step bb hb); (try clear hb); obtain ⟨hcz51_0, hcz51_1, hcz51_2, hfz51_0, hfz51_1, hfz51_2⟩ := cz3 BK524.out; obtain ⟨hcz52_0, hcz52_1, hcz52_2, hfz52_0, hfz52_1, hfz52_2⟩ := cz3 BK512.out))
       refine bodyPost_ret (results_ct rfl _ _ gb512 61 #[.string t522, .string t523, .slice Ao49 x525002_1.length co49] (0, 0) _ rfl (by (with_reducible repeat (first | refine blk_drewN ?_ _ | refine blk_drew ?_ | refine blk_alloc ?_ _)); refine blk_put (cs := #[.string t522, .string t523, .slice none 0 0]) ?_ 2 _ rfl; (with_reducible repeat (first | refine blk_drewN ?_ _ | refine blk_drew ?_ | refine blk_alloc ?_ _)); refine blk_put (cs := #[.string t522, .string x513001_1, .slice none 0 0]) ?_ 1 _ rfl; (with_reducible repeat (first | refine blk_drewN ?_ _ | refine blk_drew ?_ | refine blk_alloc ?_ _)); refine blk_put (cs := #[.string x513000_1, .string x513001_1, .slice none 0 0]) ?_ 0 _ rfl; (with_reducible repeat (first | refine blk_drewN ?_ _ | refine blk_drew ?_ | refine blk_alloc ?_ _)); exact BK512.out) Tryz.underlying61 rfl (by kernel_rfl)) rfl ?_
       exact ⟨_, er, ur (Kd.R_mono (Kd.R_far (p := ⟨gb512, 2, none⟩) (Kd.R_far (p := ⟨gb512, 1, none⟩) (Kd.R_far (p := ⟨gb512, 0, none⟩) (Kd.R_types HO_525002.out BK512.out (by decide)) (fun _ hk => hk.2) (.string t522)) (fun _ hk => hk.2) (.string t523)) (fun _ hk => hk.2) (.slice Ao49 x525002_1.length co49)) (fun _ hk => trivial)), bb⟩
      ·
       simp only [Option.some.injEq, Prod.mk.injEq] at H
       obtain ⟨rfl, rfl, rfl, rfl⟩ := H
       have hnb53 := NB524_512.out
       have hnc53 := NB512_524.out
       obtain ⟨hcz54_0, hcz54_1, hcz54_2, hfz54_0, hfz54_1, hfz54_2⟩ := cz3 BK524.out
       obtain ⟨Ao55, co55, eo55⟩ := Kd.R_slice HO_525002.out
       subst eo55
       go_wp2_with (first | (go_at_call 95; (with_reducible refine (impl_KindValid.calls k1 t522 t523 _ _ x525002_1 false _ (cu ((Kd.R_reads' HO_525002.out).2.2)) ((Kd.R_reads' HO_525002.out).2.1) A45.out).mono ?_); rintro e w56 ⟨rfl, hb⟩; replace HO_37 := ak (Kd.V_below (by (with_reducible repeat (first | apply Kd.V_alloc | apply Kd.V_drewN | apply Kd.V_drew)); exact HO_37.out) hb); replace HO_525002 := rb HO_525002 hb; replace BK512 := kb BK512 hb; replace BK524 := kb BK524 hb; replace HB := ak (below_step bb hb); (try clear hb); obtain ⟨hcz57_0, hcz57_1, hcz57_2, hfz57_0, hfz57_1, hfz57_2⟩ := cz3 BK512.out))
       refine bodyPost_ret (results_ct rfl _ _ gb512 61 #[.string (⟨#[]⟩ : ByteArray), .string (⟨#[]⟩ : ByteArray), .slice none 0 0] (0, 0) _ rfl (by (with_reducible repeat (first | refine blk_drewN ?_ _ | refine blk_drew ?_ | refine blk_alloc ?_ _)); refine blk_put (cs := #[.string (⟨#[]⟩ : ByteArray), .string (⟨#[]⟩ : ByteArray), .slice none 0 0]) ?_ 2 _ rfl; (with_reducible repeat (first | refine blk_drewN ?_ _ | refine blk_drew ?_ | refine blk_alloc ?_ _)); refine blk_put (cs := #[.string (⟨#[]⟩ : ByteArray), .string x513001_1, .slice none 0 0]) ?_ 1 _ rfl; (with_reducible repeat (first | refine blk_drewN ?_ _ | refine blk_drew ?_ | refine blk_alloc ?_ _)); refine blk_put (cs := #[.string x513000_1, .string x513001_1, .slice none 0 0]) ?_ 0 _ rfl; (with_reducible repeat (first | refine blk_drewN ?_ _ | refine blk_drew ?_ | refine blk_alloc ?_ _)); exact BK512.out) Tryz.underlying61 rfl (by kernel_rfl)) rfl ?_
       exact ⟨_, er, nx, bb⟩
     ·
      simp only [Option.some.injEq, Prod.mk.injEq] at H
      obtain ⟨rfl, rfl, rfl, rfl⟩ := H
      have hnb58 := NB512_524.out
      have hnc58 := NB524_512.out
      obtain ⟨hcz59_0, hcz59_1, hcz59_2, hfz59_0, hfz59_1, hfz59_2⟩ := cz3 BK512.out
      go_wp2
      refine bodyPost_ret (results_ct rfl _ _ gb512 61 #[.string (⟨#[]⟩ : ByteArray), .string (⟨#[]⟩ : ByteArray), .slice none 0 0] (0, 0) _ rfl (by (with_reducible repeat (first | refine blk_drewN ?_ _ | refine blk_drew ?_ | refine blk_alloc ?_ _)); refine blk_put (cs := #[.string (⟨#[]⟩ : ByteArray), .string (⟨#[]⟩ : ByteArray), .slice none 0 0]) ?_ 2 _ rfl; (with_reducible repeat (first | refine blk_drewN ?_ _ | refine blk_drew ?_ | refine blk_alloc ?_ _)); refine blk_put (cs := #[.string (⟨#[]⟩ : ByteArray), .string x513001_1, .slice none 0 0]) ?_ 1 _ rfl; (with_reducible repeat (first | refine blk_drewN ?_ _ | refine blk_drew ?_ | refine blk_alloc ?_ _)); refine blk_put (cs := #[.string x513000_1, .string x513001_1, .slice none 0 0]) ?_ 0 _ rfl; (with_reducible repeat (first | refine blk_drewN ?_ _ | refine blk_drew ?_ | refine blk_alloc ?_ _)); exact BK512.out) Tryz.underlying61 rfl (by kernel_rfl)) rfl ?_
      exact ⟨_, er, nx, bb⟩
 ·
  simp only [Option.some.injEq, Prod.mk.injEq] at H
  obtain ⟨rfl, rfl, rfl, rfl⟩ := H
  go_enter Tryz.func48, Tryz.ntmps48
  go_wp2_with (first | (refine gate_dst (N := 2) rfl ?_; (try (refine gate_guard (by rfl) ?_; dsimp only)); refine bE 2 #[.string (⟨#[]⟩ : ByteArray), .string (⟨#[]⟩ : ByteArray), .slice none 0 0] 61 ?_; intro gb512 hg w60 hbox hb; have BK512 := ak (hbox); have GW512 := ge_ HB hg; have GE512 := ge_ HB hg; replace HB := bs HB hb; clear hb hbox hg) | (refine gL 89 17 Tryz.func89 #[.string a0] ?_; (with_reducible refine (impl_TextValid.calls k a0 false _ A2.out).mono ?_); rintro e w' ⟨rfl, ⟨nd, rfl⟩⟩; refine ⟨_, rfl, ?_⟩; (try (rw [drewN_self w60]; generalize hq_ : World.drewN w60 _ = w60; have n0_ : Aside0 (w60.heap[gb512]? = some (.cells #[.string (⟨#[]⟩ : ByteArray), .string (⟨#[]⟩ : ByteArray), .slice none 0 0] 61 (0, 0))) := ⟨by rw [← hq_]; exact (ub BK512.out)⟩; have n1_ : Aside0 (Below w.heap.size w w60) := ⟨by rw [← hq_]; exact bb⟩; clear BK512 HB hq_; have BK512 := n0_; have HB := n1_; clear n0_ n1_)); obtain ⟨hcz61_0, hcz61_1, hcz61_2, hfz61_0, hfz61_1, hfz61_2⟩ := cz3 BK512.out))
  refine bodyPost_ret (results_ct rfl _ _ gb512 61 #[.string (⟨#[]⟩ : ByteArray), .string (⟨#[]⟩ : ByteArray), .slice none 0 0] (0, 0) _ rfl (by (with_reducible repeat (first | refine blk_drewN ?_ _ | refine blk_drew ?_ | refine blk_alloc ?_ _)); refine blk_put (cs := #[.string (⟨#[]⟩ : ByteArray), .string (⟨#[]⟩ : ByteArray), .slice none 0 0]) ?_ 2 _ rfl; (with_reducible repeat (first | refine blk_drewN ?_ _ | refine blk_drew ?_ | refine blk_alloc ?_ _)); refine blk_put (cs := #[.string (⟨#[]⟩ : ByteArray), .string (⟨#[]⟩ : ByteArray), .slice none 0 0]) ?_ 1 _ rfl; (with_reducible repeat (first | refine blk_drewN ?_ _ | refine blk_drew ?_ | refine blk_alloc ?_ _)); refine blk_put (cs := #[.string (⟨#[]⟩ : ByteArray), .string (⟨#[]⟩ : ByteArray), .slice none 0 0]) ?_ 0 _ rfl; (with_reducible repeat (first | refine blk_drewN ?_ _ | refine blk_drew ?_ | refine blk_alloc ?_ _)); exact BK512.out) Tryz.underlying61 rfl (by kernel_rfl)) rfl ?_
  exact ⟨_, er, nx, bb⟩
def impl_isBoundary_1.f (a0 : Int) : Option (Bool) := (impl_isLetter.f a0).bind fun t545 => (if t545 = true then (some true) else ((impl_isDigit.f a0).bind fun t546 => (some t546)))
set_option maxHeartbeats 8000000 in
set_option maxRecDepth 100000 in
theorem impl_isBoundary_1.calls (a0 : Int) (r : Bool) (w : World) (h : impl_isBoundary_1.f a0 = some r) :
  Calls Tryz.prog 139 #[.int .u8 a0] w fun e w' => e = .returned (.bool r) ∧ Drawn0 w w' := by
 have H : ((impl_isLetter.f a0).bind fun t545 => (if t545 = true then (some true) else ((impl_isDigit.f a0).bind fun t546 => (some t546)))) = some r := h
 clear h
 replace H := bd H; obtain ⟨t545, A2, H⟩ := H; replace H := sb H
 rcases H with ⟨rfl, H⟩ | ⟨rfl, H⟩
 ·
  obtain rfl := Option.some.inj H
  go_enter Tryz.func139, Tryz.ntmps139
  go_wp2_with (first | (refine gL 140 4 Tryz.func140 #[.int .u8 a0] ?_; (with_reducible refine (impl_isLetter.calls a0 true _ A2.out).mono ?_); rintro e w' ⟨rfl, ⟨nd, rfl⟩⟩; refine ⟨_, rfl, ?_⟩))
  go_ret
  exact ⟨rs, dn⟩
 ·
  replace H := bd H; obtain ⟨t546, A4, H⟩ := H
  obtain rfl := Option.some.inj H
  go_enter Tryz.func139, Tryz.ntmps139
  go_wp2_with (first | (refine gL 140 4 Tryz.func140 #[.int .u8 a0] ?_; (with_reducible refine (impl_isLetter.calls a0 false _ A2.out).mono ?_); rintro e w' ⟨rfl, ⟨nd, rfl⟩⟩; refine ⟨_, rfl, ?_⟩) | (go_at_call 141; (with_reducible refine (impl_isDigit.calls a0 t546 _ A4.out).mono ?_); rintro e w' ⟨rfl, ⟨nd, rfl⟩⟩))
  go_ret
  exact ⟨rs, dn⟩
def impl_allBytes_isBoundary_1.l0 : Nat → ByteArray → Int → Int → Option (Bool)
 | 0, _, _, _ => none
 | k + 1, x0, x7, x8 => if x8 < x7 then (if 0 ≤ x8 then (if x8 < (x0.size : Int) then ((impl_isBoundary_1.f (bt x0 x8)).bind fun t547 => (if t547 = true then (impl_allBytes_isBoundary_1.l0 k x0 x7 (wrap64 (x8 + 1))) else (some false))) else (none)) else (none)) else (some true)
def impl_allBytes_isBoundary_1.f (k : Nat) (a0 : ByteArray)  : Option (Bool) := impl_allBytes_isBoundary_1.l0 k a0 (a0.size : Int) 0
set_option maxHeartbeats 8000000 in
set_option maxRecDepth 100000 in
theorem impl_allBytes_isBoundary_1.calls (k : Nat) (a0 : ByteArray)  (r : Bool) (w : World) (h : impl_allBytes_isBoundary_1.f k a0 = some r) :
  Calls Tryz.prog 138 #[.string a0, .func (.func 139) #[] #[]] w fun e w' => e = .returned (.bool r) ∧ Drawn0 w w' := by
 have H : (impl_allBytes_isBoundary_1.l0 k a0 (a0.size : Int) 0) = some r := h
 clear h
 have H' := ak H; clear H
 go_enter Tryz.func138, Tryz.ntmps138
 go_wp2
 go_loopg [8] k (fun kq v8 w' => ∃ (x8_1 : Int), v8 = .int .i64 x8_1 ∧ Aside0 (impl_allBytes_isBoundary_1.l0 kq a0 (a0.size : Int) x8_1 = some r) ∧ Aside0 (kq ≤ k) ∧ Drawn0 w w')
 case atStart => exact ⟨(0), rs, H', ⟨Nat.le_refl _⟩, dn⟩
 case round =>
  clear H'
  try clear c2
  try clear p2
  obtain ⟨x8_1, rfl, HA, HK1, ⟨m1, rfl⟩⟩ := hrel
  cases gk with
  | zero => exact absurd HA.out (by simp [impl_allBytes_isBoundary_1.l0])
  | succ k1 =>
   have H := HA.out
   clear HA
   simp only [impl_allBytes_isBoundary_1.l0] at H
   replace H := sd H
   rcases H with ⟨c3b0, H⟩ | ⟨c3b0, H⟩
   ·
    replace H := nde H; obtain ⟨c4b0, H⟩ := H; replace H := nde H; obtain ⟨c5b0, H⟩ := H; replace H := bd H; obtain ⟨t547, A7, H⟩ := H; replace H := sb H
    rcases H with ⟨rfl, H⟩ | ⟨rfl, H⟩
    ·
     have H' := ak H; clear H
     obtain ⟨p6, q6, hx6⟩ := bx a0 x8_1
     go_wp2_with (first | (go_at_call 139; (with_reducible refine (impl_isBoundary_1.calls (bt a0 x8_1) true _ A7.out).mono ?_); rintro e w' ⟨rfl, ⟨nd, rfl⟩⟩))
     go_roundg k1
     case measure => have := HK1.out; omega
     case rel => exact ⟨(wrap64 (x8_1 + 1)), rs, H', ⟨by have := HK1.out; omega⟩, dn⟩
    ·
     obtain rfl := Option.some.inj H
     obtain ⟨p6, q6, hx6⟩ := bx a0 x8_1
     go_wp2_with (first | (go_at_call 139; (with_reducible refine (impl_isBoundary_1.calls (bt a0 x8_1) false _ A7.out).mono ?_); rintro e w' ⟨rfl, ⟨nd, rfl⟩⟩))
     go_ret
     exact ⟨rs, dn⟩
   ·
    obtain rfl := Option.some.inj H
    go_wp2
    go_ret
    exact ⟨rs, dn⟩
def impl_isBoundary.f (k : Nat) (a0 : ByteArray) : Option (Bool) := if (a0.size : Int) ≥ 1 then (if (a0.size : Int) ≤ 20 then ((impl_allBytes_isBoundary_1.f k a0).bind fun t548 => (some t548)) else (some false)) else (some false)
set_option maxHeartbeats 8000000 in
set_option maxRecDepth 100000 in
theorem impl_isBoundary.calls (k : Nat) (a0 : ByteArray) (r : Bool) (w : World) (h : impl_isBoundary.f k a0 = some r) :
  Calls Tryz.prog 96 #[.string a0] w fun e w' => e = .returned (.bool r) ∧ Drawn0 w w' := by
 have H : (if (a0.size : Int) ≥ 1 then (if (a0.size : Int) ≤ 20 then ((impl_allBytes_isBoundary_1.f k a0).bind fun t548 => (some t548)) else (some false)) else (some false)) = some r := h
 clear h
 replace H := sp H
 rcases H with ⟨c2, H⟩ | ⟨c2, H⟩
 ·
  have c2b0 : decide (1 ≤ (a0.size : Int)) = true := decide_eq_true c2
  have c2b1 : decide (1 ≤ a0.size) = true := decide_eq_true (by omega)
  clear c2
  replace H := sp H
  rcases H with ⟨c3, H⟩ | ⟨c3, H⟩
  ·
   have c3b0 := decide_eq_true c3
   have c3b1 : decide (a0.size ≤ 20) = true := decide_eq_true (by omega)
   clear c3
   replace H := bd H; obtain ⟨t548, A4, H⟩ := H
   obtain rfl := Option.some.inj H
   go_enter Tryz.func96, Tryz.ntmps96
   go_wp2_with (first | (go_at_call 138; (with_reducible refine (impl_allBytes_isBoundary_1.calls k a0  t548 _ A4.out).mono ?_); rintro e w' ⟨rfl, ⟨nd, rfl⟩⟩))
   go_ret
   exact ⟨rs, dn⟩
  ·
   have c3b0 := decide_eq_false c3
   have c3b1 : decide (a0.size ≤ 20) = false := decide_eq_false (by omega)
   clear c3
   obtain rfl := Option.some.inj H
   go_enter Tryz.func96, Tryz.ntmps96
   go_wp2
   go_ret
   exact ⟨rs, dn⟩
 ·
  have c2b0 : decide (1 ≤ (a0.size : Int)) = false := decide_eq_false c2
  have c2b1 : decide (1 ≤ a0.size) = false := decide_eq_false (by omega)
  clear c2
  obtain rfl := Option.some.inj H
  go_enter Tryz.func96, Tryz.ntmps96
  go_wp2
  go_ret
  exact ⟨rs, dn⟩
end Go.Proofs.YtncdadcmghglkaaGreatDoor.PFnExactCountParts
