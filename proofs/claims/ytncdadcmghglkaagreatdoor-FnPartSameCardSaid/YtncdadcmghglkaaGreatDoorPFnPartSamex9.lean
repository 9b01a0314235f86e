/- Printed walks; conditions: those in each statement. -/
import Derived.Test.YtncdadcmghglkaaGreatDoorVFnPartSameQt
import Derived.Test.YtncdadcmghglkaaGreatDoorVFnPartSameYt
import Derived.Test.YtncdadcmghglkaaGreatDoorPFnPartSamex0
import Derived.Test.YtncdadcmghglkaaGreatDoorPFnPartSamex2
import Derived.Test.YtncdadcmghglkaaGreatDoorPFnPartSamex4
import Derived.Test.YtncdadcmghglkaaGreatDoorPFnPartSamex5
import Derived.Test.YtncdadcmghglkaaGreatDoorPFnPartSamex6
import Derived.Test.YtncdadcmghglkaaGreatDoorPFnPartSamex8
-- short
-- dense
-- sq
-- sq2
namespace Go.Proofs.YtncdadcmghglkaaGreatDoor.PFnPartSame
open Go.RowKit Go.Proofs.YtncdadcmghglkaaGreatDoor.X Go.Proofs.YtncdadcmghglkaaGreatDoorW.PrintWords Go.Proofs.YtncdadcmghglkaaGreatDoorW.PrintLast Go.Proofs.YtncdadcmghglkaaGreatDoorW.PrintMore
attribute [local go_sem] max2_int min2_int max_two min_two max_three min_three max_four min_four   -- for this text's walks alone
set_option linter.unusedVariables false
set_option maxHeartbeats 8000000
set_option maxRecDepth 100000
set_option linter.unusedSimpArgs false
mutual
def impl_ParseKind.l0 : Nat → Bool → List ByteArray → Int → Int → ByteArray → ByteArray → List (S69) → Option (ByteArray × ByteArray × (List (S69)) × Bool)
 | 0, _, _, _, _, _, _, _ => none
 | k + 1, x7, x37, x38, x39, x258000, x258001, x258002 => if x39 < x38 then (if 0 ≤ x39 then (if x39 < (x37.length : Int) then ((strings_Cut.f (rdOf ByteArray.empty x37 x39) (⟨#[61]⟩ : ByteArray)).bind fun bt265 => ((impl_SplitWords.f k bt265.2.1).bind fun bt268 => (if bt265.2.2 = true then (if bt268.2 = true then (impl_ParseKind.j1 k x7 bt265.1 bt268.1 x37 x38 x39 ((bt268.1.length : Int) != 1) x258000 x258001 x258002) else (impl_ParseKind.j1 k x7 bt265.1 bt268.1 x37 x38 x39 true x258000 x258001 x258002)) else (impl_ParseKind.j1 k x7 bt265.1 bt268.1 x37 x38 x39 true x258000 x258001 x258002)))) else (none)) else (none)) else (if x7 = true then ((impl_KindValid.f k x258000 x258001 x258002).bind fun t263 => (if t263 = true then (some (x258000, x258001, x258002, true)) else (some ((⟨#[]⟩ : ByteArray), (⟨#[]⟩ : ByteArray), ([] : List (S69)), false)))) else (some ((⟨#[]⟩ : ByteArray), (⟨#[]⟩ : ByteArray), ([] : List (S69)), false)))
def impl_ParseKind.j1 : Nat → Bool → ByteArray → List ByteArray → List ByteArray → Int → Int → Bool → ByteArray → ByteArray → List (S69) → Option (ByteArray × ByteArray × (List (S69)) × Bool)
 | 0, _, _, _, _, _, _, _, _, _, _ => none
 | k + 1, x7, x11, x14, x37, x38, x39, x64, x258000, x258001, x258002 => if x64 = true then (some ((⟨#[]⟩ : ByteArray), (⟨#[]⟩ : ByteArray), ([] : List (S69)), false)) else ((strings_Trim.f x11 (⟨#[32]⟩ : ByteArray)).bind fun t272 => ((impl_LowerText.f t272).bind fun t273 => (if 0 < (x14.length : Int) then (if x258002.length < 4398046511104 then (impl_ParseKind.l0 k x7 x37 x38 (wrap64 (x39 + 1)) x258000 x258001 (x258002 ++ [(⟨t273, rdOf ByteArray.empty x14 0⟩ : S69)])) else (none)) else (none))))
end
def impl_ParseKind.f (k : Nat) (a0 : ByteArray) : Option (ByteArray × ByteArray × (List (S69)) × Bool) := (impl_TextValid.f k a0).bind fun t246 => (if t246 = true then ((impl_splitOutside.f k a0 59).bind fun t247 => (if 0 < (t247.length : Int) then ((strings_Trim.f (rdOf ByteArray.empty t247 0) (⟨#[32]⟩ : ByteArray)).bind fun t251 => ((strings_Cut.f t251 (⟨#[47]⟩ : ByteArray)).bind fun bt252 => ((impl_LowerText.f bt252.1).bind fun t255 => ((impl_LowerText.f bt252.2.1).bind fun t256 => (if 1 ≤ (t247.length : Int) then ((some (t247.drop 1 : List ByteArray)).bind fun y258 => (impl_ParseKind.l0 k bt252.2.2 y258 (y258.length : Int) 0 t255 t256 ([] : List (S69)))) else (none)))))) else (none))) else (some ((⟨#[]⟩ : ByteArray), (⟨#[]⟩ : ByteArray), ([] : List (S69)), false)))
def impl_ParseKind.T13 : Bool × List (List Nat × List Nat) := (true, [([], []), ([0], [0]), ([], []), ([2], [2]), ([3, 3], [3]), ([], []), ([5], [5]), ([6], [6]), ([4, 7], [4, 7]), ([8], [8]), ([1, 9, 4], [1, 9]), ([0, 1, 2, 3, 4, 5, 6, 7, 8, 9, 10], []), ([11, 10, 10, 0, 1, 2, 3, 4, 5, 6, 7, 8, 9, 10], [10, 11])])
def impl_ParseKind.B13 : List Nat := [0, 1, 0, 4, 12, 0, 32, 96, 252, 508, 1023, 2047, 4095]
theorem impl_ParseKind.tab13 : rtab .any (opsOf Tryz.f48 13) = impl_ParseKind.T13 := by kernel_rfl
theorem impl_ParseKind.bits13 : waitsOk impl_ParseKind.T13.2 impl_ParseKind.B13 = true := by kernel_rfl
theorem impl_ParseKind.calls {k : Nat} {a0 r1 r2 : ByteArray} {r3 : List (S69)} {r4 : Bool} {w : World} (hg_ : MaxOk w) (h : impl_ParseKind.f k a0 = some (r1, r2, r3, r4)) :
  Calls Tryz.prog 48 #[.string a0] w fun e w' => ∃ v2_ : Value, e = .returned (.tuple #[.agg #[.string r1, .string r2, v2_], .bool r4]) ∧ Kd.R k69 69 w' w.heap.size (fun _ => True) v2_ r3 ∧ Below w.heap.size w w' := by
 have hu61 := Tryz.underlying61
 have hu69 := Tryz.underlying69
 have HG := ak hg_
 clear hg_
 have HB := ak (Below.refl w.heap.size w)
 have H : ((impl_TextValid.f k a0).bind fun t246 => (if t246 = true then ((impl_splitOutside.f k a0 59).bind fun t247 => (if 0 < (t247.length : Int) then ((strings_Trim.f (rdOf ByteArray.empty t247 0) (⟨#[32]⟩ : ByteArray)).bind fun t251 => ((strings_Cut.f t251 (⟨#[47]⟩ : ByteArray)).bind fun bt252 => ((impl_LowerText.f bt252.1).bind fun t255 => ((impl_LowerText.f bt252.2.1).bind fun t256 => (if 1 ≤ (t247.length : Int) then ((some (t247.drop 1 : List ByteArray)).bind fun y258 => (impl_ParseKind.l0 k bt252.2.2 y258 (y258.length : Int) 0 t255 t256 ([] : List (S69)))) else (none)))))) else (none))) else (some ((⟨#[]⟩ : ByteArray), (⟨#[]⟩ : ByteArray), ([] : List (S69)), false)))) = some (r1, r2, r3, r4) := h
 clear h
 replace H := bd H; obtain ⟨t246, A2, H⟩ := H; replace H := sb H
 rcases H with ⟨rfl, H⟩ | ⟨rfl, H⟩
 ·
  replace H := bd H; obtain ⟨t247, A4, H⟩ := H; replace H := nn H; obtain ⟨c5, H⟩ := H
  have c5b0 := decide_eq_true c5
  have c5b1 : decide (0 < t247.length) = true := decide_eq_true (by omega)
  clear c5
  replace H := bd H; obtain ⟨t251, A6, H⟩ := H; replace H := bd H
  obtain ⟨⟨t252, t253, t254⟩, A7, H⟩ := H
  (try dsimp only at H)
  replace H := bd H; obtain ⟨t255, A8, H⟩ := H; replace H := bd H; obtain ⟨t256, A9, H⟩ := H; replace H := ne_ H; obtain ⟨c10b0, c10b1, H⟩ := H
  replace H := ny H
  obtain ⟨y258, Ny258, H⟩ := H
  have H' := ak H; clear H
  go_enter Tryz.func48, Tryz.ntmps48
  go_wp2_with (first | (refine gG 2 ?_; refine bX HB 2 #[.string (⟨#[]⟩ : ByteArray), .string (⟨#[]⟩ : ByteArray), .slice none 0 0] 61 ?_; intro gb245 w11 BK245 GW245 hb; replace HB := bs HB hb; clear hb) | (refine gD Tryz.func89 (impl_TextValid.calls A2.out) ?_; intro w11 hb; replace BK245 := kb BK245 hb; replace HB := bz HB hb; clear hb) | (refine gV Tryz.func90 (impl_splitOutside.calls A4.out) ?_; rintro v248 w12 ⟨ho0, hb⟩; have HO249 := ak (Kd.R_lower ho0 (below_size bb)); replace BK245 := kb BK245 hb; replace HB := bz HB hb; clear hb; (try clear ho0); obtain ⟨Ao13, co13, eo13⟩ := Kd.R_slice HO249.out; subst eo13; have p250 : 0 ≤ (0 : Int) := (by omega); have q250 : 0 < (t247.length : Int) := of_decide_eq_true (by assumption); obtain ⟨ad250, e250, hx250_0⟩ := Kd.at_string (Kd.R_reads' HO249.out).2.2 0 p250 q250; cases e250; have qi250 : (0 < t247.length) = True := eq_true (by omega); (try rw [show ((0 : Int)).toNat = 0 from rfl] at hx250_0); (try rw [Addr.add_zero'] at hx250_0); replace p250 := eq_true p250; replace q250 := eq_true q250) | (refine gD Tryz.func92 (strings_Trim.calls A6.out) ?_; intro w12 hb; replace HO249 := rb HO249 hb; replace BK245 := kb BK245 hb; replace HB := bz HB hb; clear hb) | (refine gD Tryz.func91 (strings_Cut.calls ?side1 A7.out) ?_; (case side1 => first | exact HG.out | exact MaxOk.below HG.out bb | (repeat (first | exact HG.out | apply MaxOk.drewN | apply MaxOk.drew))); intro w12 hb; replace HO249 := rb HO249 hb; replace BK245 := kb BK245 hb; replace HB := bz HB hb; clear hb) | (refine gB Tryz.func93 (impl_LowerText.calls A8.out) ?_; intro w14 hb; replace HO249 := rb HO249 hb; replace BK245 := kb BK245 hb; replace HB := bz HB hb; clear hb) | (refine gB Tryz.func93 (impl_LowerText.calls A9.out) ?_; intro w15 hb; replace HO249 := rb HO249 hb; replace BK245 := kb BK245 hb; replace HB := bz HB hb; clear hb) | (refine gG 8 ?_; refine bY HB 8 #[.string (⟨#[]⟩ : ByteArray), .string (⟨#[]⟩ : ByteArray), .slice none 0 0] 61 ?_; intro gb257 w16 BK257 GW257 hg hb; have NB245_257 := nl_ BK245 hg; have NB257_245 := ng_ BK245 hg; replace HO249 := rb HO249 hb; replace BK245 := kb BK245 hb; replace HB := bz HB hb; clear hb hg; have hnb17 := NB257_245.out; have hnc17 := NB245_257.out; have z18 := cz3 BK257.out) | ((with_reducible refine gate_store (t := 61) (p := 8) rfl ?_); refine store_event (t := 61) (p := 8) (v := ?vo_w19) (w1 := (((w16.setCell ⟨gb257, 0, none⟩ (.string t255)).setCell ⟨gb257, 1, none⟩ (.string t256)).setCell ⟨gb257, 2, none⟩ (.slice none 0 0))) ?hg ?ho ?hn ?hr ?_; (case ho => rfl); (case hg => rfl); (case hn => rfl); (case hr => first | (go_simp; done) | (go_simp; rfl)); intro w19 hw; have n0_ : Aside0 (Kd.R Kd.string 9 w19 w.heap.size (fun _ => True) (.slice (some ad250) t247.length co13) t247) := ⟨(by rw [hw]; exact (ur (Kd.R_mono (Kd.R_far (p := ⟨gb257, 2, none⟩) (Kd.R_far (p := ⟨gb257, 1, none⟩) (Kd.R_far (p := ⟨gb257, 0, none⟩) (Kd.R_types HO249.out BK257.out (by decide)) (fun _ hk => hk.2) (.string t255)) (fun _ hk => hk.2) (.string t256)) (fun _ hk => hk.2) (.slice none 0 0)) (fun _ hk => trivial))))⟩; have n1_ : Aside0 (w19.heap[gb245]? = some (.cells #[.string (⟨#[]⟩ : ByteArray), .string (⟨#[]⟩ : ByteArray), .slice none 0 0] 61 (0, 0))) := ⟨(by rw [hw]; exact bq)⟩; have n2_ : Aside0 (w19.heap[gb257]? = some (.cells #[.string t255, .string t256, .slice none 0 0] 61 (0, 0))) := ⟨(by rw [hw]; exact bq)⟩; have n3_ : Aside0 (Below w.heap.size w w19) := ⟨(by rw [hw]; exact bb)⟩; clear hw; clear HO249; clear BK245; clear BK257; clear HB; have HO249 := n0_; have BK245 := n1_; have BK257 := n2_; have HB := n3_; clear n0_ n1_ n2_ n3_; have q20 : (1 : Int) ≤ ((t247.length : Int) : Int) := of_decide_eq_true (by assumption); obtain ⟨i020, hi020, _, hsz20, _⟩ := info_parts info9; have hroom20 : t247.length ≤ co13 := (Kd.R_reads' HO249.out).2.1; have hC20 : Kd.F Kd.string _ _ (some ad250) t247.length t247 := (Kd.V_at (base := w.heap.size) (Kd.R_V (Kd.R_types (Kd.R_types (HO249.out) BK245.out (by decide)) BK257.out (by decide)))).2.2; have hcut20 := cut_from (P := Tryz.prog) 23 9 .i64 Tryz.underlying23 hi020 1 hsz20 (some ad250) t247.length co13 1 (by omega) q20; have hr20 := Kd.F_cut (m := (1 : Int).toNat) (c := co13) hC20 (by omega) hroom20; obtain ⟨A20, hA20⟩ : ∃ A1, A1 = (if co13 = (1 : Int).toNat then (some ad250) else ((some ad250) : Option Addr).map (·.add ((1 : Int).toNat * 1))) := ⟨_, rfl⟩; obtain ⟨c20, hc20⟩ : ∃ c1, c1 = co13 - (1 : Int).toNat := ⟨_, rfl⟩; have hy20 : y258.length = t247.length - (1 : Int).toNat := (by rw [Ny258.out, List.length_drop] <;> omega); rw [show (t247).drop (1 : Int).toNat = y258 from Ny258.out.symm] at hr20; replace hr20 : Kd.F Kd.string _ _ A20 y258.length y258 := (by rw [hA20]; exact hr20); rw [← hy20, ← hA20, ← hc20] at hcut20; have HO262 := ak (show Kd.V Kd.string 9 _ w.heap.size _ (.slice A20 y258.length c20) y258 from Kd.V_mk (by rw [hy20, hc20]; exact Nat.sub_le_sub_right hroom20 _) hr20); have HC262 := ak (show y258.length ≤ c20 from by rw [hy20, hc20]; exact Nat.sub_le_sub_right hroom20 _); clear hr20 hC20 hroom20 hi020 hsz20 hc20; have KY20 := ak hy20; have KA20 := ak hA20; clear hy20 hA20; replace q20 := eq_true q20))
  go_loopg [39] k (fun kq v39 w' => ∃ (x39_1 : Int) (x246000_1 : ByteArray) (x246001_1 : ByteArray) (x258002_1 : List (S69)) (u258002 : Value), v39 = .int .i64 x39_1 ∧ Aside0 (impl_ParseKind.l0 kq t254 y258 (y258.length : Int) x39_1 t255 t256 x258002_1 = some (r1, r2, r3, r4)) ∧ Aside0 (kq ≤ k) ∧ Aside0 (Kd.V Kd.string 9 w' w.heap.size (fun k_ => some k_ ≠ (u258002 : Value).ownBlock ∧ k_ ≠ gb245 ∧ k_ ≠ gb257) (.slice A20 y258.length c20) y258) ∧ Aside0 (Kd.R k69 69 w' w.heap.size (fun _ => True) u258002 x258002_1) ∧ Aside0 (w'.heap[gb245]? = some (.cells #[.string x246000_1, .string x246001_1, (.slice none 0 0)] 61 (0, 0))) ∧ Aside0 (w'.heap[gb257]? = some (.cells #[.string t255, .string t256, u258002] 61 (0, 0))) ∧ Aside0 (Below w.heap.size w w'))
  case atStart => exact ⟨_, _, _, _, _, rs, H', ⟨Nat.le_refl _⟩, ⟨by (with_reducible repeat (first | apply Kd.V_alloc | apply Kd.V_drewN | apply Kd.V_drew)); exact Kd.V_mono HO262.out (fun _ hk => ⟨(by simp [Value.ownBlock]), ⟨hk.1.2, hk.2⟩⟩)⟩, ⟨nx⟩, ⟨ub BK245.out⟩, ⟨ub BK257.out⟩, ⟨bb⟩⟩
  case round =>
   clear H'
   try clear c1
   try clear c5
   try clear c5b0
   try clear c5b1
   try clear c10b0
   try clear c10b1
   try clear c20
   try clear q20
   try clear hx250_0
   try clear p250
   try clear q20
   try clear q250
   obtain ⟨x39_1, x246000_1, x246001_1, x258002_1, u258002, rfl, HA, HK1, HO_37, HO_258002, BK245, BK257, HB⟩ := hrel
   cases gk with
   | zero => exact zz HA.out
   | succ k1 =>
    obtain ⟨H⟩ := HA
    simp only [impl_ParseKind.l0] at H
    replace H := sd H
    rcases H with ⟨c21b0, H⟩ | ⟨c21b0, H⟩
    ·
     replace H := nde H; obtain ⟨c22b0, H⟩ := H; replace H := nde H; obtain ⟨c23b0, H⟩ := H; replace H := bd H
     obtain ⟨⟨t265, t266, t267⟩, A24, H⟩ := H
     (try dsimp only at H)
     replace H := bd H
     obtain ⟨⟨t268, t269⟩, A25, H⟩ := H
     (try dsimp only at H)
     have HC26 := ak H
     clear H
     have p264 := zi x39_1
     have q264 := zj x39_1 y258.length
     obtain ⟨ad264, e264, hx264_0⟩ := Kd.at_string (Kd.V_reads' HO_37.out).2.2 x39_1 p264 q264
     cases e264
     replace p264 := eq_true p264
     replace q264 := eq_true q264
     go_upto_region 11 with (first | (refine gA Tryz.func91 (strings_Cut.calls ?side1 A24.out) ?_; (case side1 => first | exact HG.out | exact MaxOk.below HG.out bb | (repeat (first | exact HG.out | apply MaxOk.drewN | apply MaxOk.drew))); intro nd) | (refine gV Tryz.func94 (impl_SplitWords.calls A25.out) ?_; rintro v270 w27 ⟨ho0, hb⟩; have HO271 := ak (Kd.R_lower ho0 (below_size bb)); replace HO_37 := ak (Kd.V_elder' (by (with_reducible repeat (first | apply Kd.V_alloc | apply Kd.V_drewN | apply Kd.V_drew)); exact HO_37.out) (Kd.R_base ho0) hb); replace HO_258002 := rb HO_258002 hb; replace BK245 := kb BK245 hb; replace BK257 := kb BK257 hb; replace HB := bz HB hb; clear hb; (try clear ho0)))
     (try simp only [Act.put, l_a, l_b, l_c])
     go_cut [64] (fun v64 wc => ∃ (kq : Nat) (x64_25 : Bool), v64 = .bool x64_25 ∧ Aside0 (impl_ParseKind.j1 kq t254 t265 t268 y258 (y258.length : Int) x39_1 x64_25 t255 t256 x258002_1 = some (r1, r2, r3, r4)) ∧ Aside0 (kq ≤ k1) ∧ Aside0 (Kd.R Kd.string 9 wc w.heap.size (fun _ => True) v270 t268) ∧ Aside0 (Kd.V Kd.string 9 wc w.heap.size (fun k_ => some k_ ≠ (v270 : Value).ownBlock ∧ some k_ ≠ (u258002 : Value).ownBlock ∧ k_ ≠ gb245 ∧ k_ ≠ gb257) (.slice (some ad264) y258.length c20) y258) ∧ Aside0 (Kd.R k69 69 wc w.heap.size (fun _ => True) u258002 x258002_1) ∧ Aside0 (wc.heap[gb245]? = some (.cells #[.string x246000_1, .string x246001_1, (.slice none 0 0)] 61 (0, 0))) ∧ Aside0 (wc.heap[gb257]? = some (.cells #[.string t255, .string t256, u258002] 61 (0, 0))) ∧ Aside0 (Below w.heap.size w wc))
     case first =>
      have H := HC26.out
      clear HC26
      replace H := sb H
      rcases H with ⟨rfl, H⟩ | ⟨rfl, H⟩
      ·
       replace H := sb H
       rcases H with ⟨rfl, H⟩ | ⟨rfl, H⟩
       ·
        have H' := ak H; clear H
        obtain ⟨Ao30, co30, eo30⟩ := Kd.R_slice HO271.out
        subst eo30
        go_wp2
        go_meet
        case rel => exact ⟨_, _, rs, H', ⟨kl⟩, ⟨ur HO271.out⟩, ⟨by (with_reducible repeat (first | apply Kd.V_alloc | apply Kd.V_drewN | apply Kd.V_drew)); exact Kd.V_mono HO_37.out (fun _ hk => ⟨hk.2, ⟨hk.1.1, ⟨hk.1.2.1, hk.1.2.2⟩⟩⟩)⟩, ⟨ur HO_258002.out⟩, ⟨ub BK245.out⟩, ⟨ub BK257.out⟩, ⟨bb⟩⟩
       ·
        have H' := ak H; clear H
        go_wp2
        go_meet
        case rel => exact ⟨_, _, rs, H', ⟨kl⟩, ⟨ur HO271.out⟩, ⟨by (with_reducible repeat (first | apply Kd.V_alloc | apply Kd.V_drewN | apply Kd.V_drew)); exact Kd.V_mono HO_37.out (fun _ hk => ⟨hk.2, ⟨hk.1.1, ⟨hk.1.2.1, hk.1.2.2⟩⟩⟩)⟩, ⟨ur HO_258002.out⟩, ⟨ub BK245.out⟩, ⟨ub BK257.out⟩, ⟨bb⟩⟩
      ·
       have H' := ak H; clear H
       go_wp2
       go_meet
       case rel => exact ⟨_, _, rs, H', ⟨kl⟩, ⟨ur HO271.out⟩, ⟨by (with_reducible repeat (first | apply Kd.V_alloc | apply Kd.V_drewN | apply Kd.V_drew)); exact Kd.V_mono HO_37.out (fun _ hk => ⟨hk.2, ⟨hk.1.1, ⟨hk.1.2.1, hk.1.2.2⟩⟩⟩)⟩, ⟨ur HO_258002.out⟩, ⟨ub BK245.out⟩, ⟨ub BK257.out⟩, ⟨bb⟩⟩
     case rest =>
      clear HC26
      try clear c1
      try clear c5
      try clear c5b0
      try clear c5b1
      try clear c10b0
      try clear c10b1
      try clear c20
      try clear q20
      try clear c21b0
      try clear c22b0
      try clear c23b0
      try clear hx250_0
      try clear hx264_0
      try clear p250
      try clear p264
      try clear q20
      try clear q250
      try clear q264
      obtain ⟨kq, x64_25, rfl, HA, HJ25, HO_14, HO_37, HO_258002, BK245, BK257, HB⟩ := hcut
      cases kq with
      | zero => exact zz HA.out
      | succ kj25 =>
       obtain ⟨H⟩ := HA
       simp only [impl_ParseKind.j1] at H
       replace H := sb H
       rcases H with ⟨rfl, H⟩ | ⟨rfl, H⟩
       ·
        obtain ⟨rfl, rfl, rfl, rfl⟩ := s4 H
        have hnb32 := NB245_257.out
        have hnc32 := NB257_245.out
        have z33 := cz3 BK245.out
        go_wp2
        refine bodyPost_ret (results_ct rfl _ _ gb245 61 #[.string (⟨#[]⟩ : ByteArray), .string (⟨#[]⟩ : ByteArray), .slice none 0 0] (0, 0) _ rfl bq Tryz.underlying61 rfl (by kernel_rfl)) rfl ?_
        exact ⟨_, er, nx, bb⟩
       ·
        replace H := bd H; obtain ⟨t272, A34, H⟩ := H; replace H := bd H; obtain ⟨t273, A35, H⟩ := H; replace H := nn H; obtain ⟨c36, H⟩ := H
        have c36b0 := decide_eq_true c36
        have c36b1 : decide (0 < t268.length) = true := decide_eq_true (by omega)
        clear c36
        replace H := nl H; obtain ⟨LMc37, H⟩ := H
        obtain ⟨y275, Ny275⟩ := nm (x258002_1 ++ [(⟨t273, rdOf ByteArray.empty t268 0⟩ : S69)])
        rw [← Ny275.out] at H
        have H' := ak H; clear H
        try go_wp2
        replace HO_14 := ak (Kd.R_drew HO_14.out)
        replace HO_37 := ak (Kd.V_drew HO_37.out)
        replace HO_258002 := ak (Kd.R_drew HO_258002.out)
        replace BK245 := ak (blk_drew BK245.out)
        replace BK257 := ak (blk_drew BK257.out)
        replace HB := ak (below_drew1 HB.out)
        obtain ⟨Ao39, co39, eo39⟩ := Kd.R_slice HO_14.out
        (first | subst eo39 | (injection eo39 with f1_ f2_ f3_; have f4_ := f1_.symm; have f5_ := f3_.symm; clear f1_ f2_ f3_; subst f4_; subst f5_))
        have p274 : 0 ≤ (0 : Int) := (by omega)
        have q274 : 0 < (t268.length : Int) := of_decide_eq_true (by assumption)
        obtain ⟨ad274, e274, hx274_0⟩ := Kd.at_string (Kd.R_reads' HO_14.out).2.2 0 p274 q274
        cases e274
        have qi274 : (0 < t268.length) = True := eq_true (by omega)
        (try rw [show ((0 : Int)).toNat = 0 from rfl] at hx274_0)
        (try rw [Addr.add_zero'] at hx274_0)
        replace p274 := eq_true p274
        replace q274 := eq_true q274
        refine start_ (n := 13) (S := fun w' => w'.cell? ⟨gb257, 0, none⟩ = some (.string t255) ∧ w'.cell? ⟨gb257, 1, none⟩ = some (.string t256) ∧ w'.cell? ⟨gb257, 2, none⟩ = some (u258002) ∧ w'.cell? ad274 = some (.string (rdOf ByteArray.empty t268 0))) (ds := [10, 12]) #[false, false, false, false, false, false, false, false, false, false, false, false, false] (by kernel_rfl) rfl rfl ⟨(blk_cell BK257.out 0).trans rfl, (blk_cell BK257.out 1).trans rfl, (blk_cell BK257.out 2).trans rfl, hx274_0⟩ (fun hHeld => ?_); refine with_tabW impl_ParseKind.tab13 impl_ParseKind.bits13 (fun HT_ HW_ => ?_)
        generalize wc.drew = w38 at HO_14 HO_37 HO_258002 BK245 BK257 HB hx274_0 hHeld ⊢
        refine pl 0 ?_
        refine pl 2 ?_
        refine pl 5 ?_
        refine pl 6 ?_
        refine tk 1 ?_
        refine tk 7 ?_
        refine o1 3 (fun K hK => ?_)
        refine goes_ Tryz.func92 (by kernel_rfl) rfl #[.string t265, .string (⟨#[32]⟩ : ByteArray)] (by rfl) rfl rfl ma ?_
        with_reducible refine (strings_Trim.calls A34.out).mono ?_
        rintro e w' ⟨rfl, ⟨nd, rfl⟩⟩
        refine ⟨_, rfl, ?_⟩
        refine hK.out _ _ ⟨(blk_cell BK257.out 0).trans rfl, (blk_cell BK257.out 1).trans rfl, (blk_cell BK257.out 2).trans rfl, hHeld.2.2.2⟩ (fun hHeld => ?_)
        clear hK K
        refine nrm ?_
        refine o1 4 (fun K hK => ?_)
        refine goes_ Tryz.func93 (by kernel_rfl) rfl #[.string t272] (by rfl) rfl rfl ma ?_
        with_reducible refine (impl_LowerText.calls A35.out).mono ?_
        rintro e w40 ⟨rfl, hb⟩
        have HS3_ := (hb.cell (World.block_lt_of_cell? _ _ (hHeld.2.2.2))).trans (hHeld.2.2.2)
        refine ⟨_, rfl, ?_⟩
        replace HO_14 := rb HO_14 hb
        replace HO_37 := vb HO_37 hb
        replace HO_258002 := rb HO_258002 hb
        replace BK245 := kb BK245 hb
        replace BK257 := kb BK257 hb
        replace HB := bz HB hb
        try clear hb
        refine hK.out _ _ ⟨(blk_cell BK257.out 0).trans rfl, (blk_cell BK257.out 1).trans rfl, (blk_cell BK257.out 2).trans rfl, HS3_⟩ (fun hHeld => ?_)
        clear hK K
        refine nrm ?_
        refine pl 8 ?_
        refine o1 9 (fun K hK => ?_)
        refine value_ (w1 := ?_) (v := ?_) (by rfl) rfl ?_ ?_
        rotate_left 2
        ·
         go_simp
         constructor
         ·
          rfl
         ·
          rfl
        refine hK.out _ _ ⟨(blk_cell (blk_alloc BK257.out _) 0).trans rfl, (blk_cell (blk_alloc BK257.out _) 1).trans rfl, (blk_cell (blk_alloc BK257.out _) 2).trans rfl, (World.cell?_alloc_lt _ _ _ (World.block_lt_of_cell? _ _ (hHeld.2.2.2))).trans (hHeld.2.2.2)⟩ (fun hHeld => ?_)
        clear hK K
        refine nrm ?_
        refine last_ (i := 10) (N := some 76) #[true, true, true, true, true, true, true, true, true, true, true, false, false] rfl rfl (one_of HT_.out (by kernel_rfl)) (by decide) (fun K hK => ?_)
        refine Kd.R_append_step k69 (w0 := w) w.heap.size (by rfl) (.tmp 67) (.tmp 75) 25 69 (.agg #[(.string ⟨#[]⟩), (.string ⟨#[]⟩)]) 32 rfl Tryz.underlying25 info69 rfl (by decide) (by omega) u258002 x258002_1 (⟨t273, rdOf ByteArray.empty t268 0⟩ : S69) [.string t273, .string (rdOf ByteArray.empty t268 0)] (fun _ => True) (fun _ => False) rfl rfl ?aP (fun _ hk => hk.elim) ?aF ?aO ?aB ?aS ?aL ?_
        (case aP => exact k69_mkM _ _ _ (⟨t273, rdOf ByteArray.empty t268 0⟩ : S69))
        (case aB => exact bb)
        (case aF => exact (fun _ _ => trivial))
        (case aO => exact (ur HO_258002.out))
        (case aS => exact (below_size bb))
        (case aL => have := LMc37.out; omega)
        intro v276 w41 ho hb hg hat
        rw [← Ny275.out] at ho
        have n0_ := ak (Kd.R_over' (ur HO_14.out) (Kd.R_typed (ur HO_258002.out)) (by decide) hg)
        have n1_ := ak (Kd.V_afterv (ok := (fun k_ => some k_ ≠ (.slice (some ad274) t268.length co39 : Value).ownBlock ∧ k_ ≠ gb245 ∧ k_ ≠ gb257)) (by (with_reducible repeat (first | apply Kd.V_alloc | apply Kd.V_drewN | apply Kd.V_drew)); exact Kd.V_mono HO_37.out (fun _ hk => ⟨⟨hk.1, ⟨hk.2.2.1, hk.2.2.2⟩⟩, hk.2.1⟩)) hg hat)
        have n2_ := ak (blk_grown (g := gb245) (o := .cells #[.string x246000_1, .string x246001_1, .slice none 0 0] 61 (0, 0)) (ub BK245.out) hg (Kd.R_ne HO_258002.out BK245.out (by decide)))
        have n3_ := ak (blk_grown (g := gb257) (o := .cells #[.string t255, .string t256, u258002] 61 (0, 0)) (ub BK257.out) hg (Kd.R_ne HO_258002.out BK257.out (by decide)))
        have n4_ := ak (hb)
        have n5_ := ak (ho)
        clear HO_14 HO_37 BK245 BK257 HB HO_258002
        have HO_14 := n0_
        have HO_37 := n1_
        have BK245 := n2_
        have BK257 := n3_
        have HB := n4_
        have HO277 := n5_
        clear n0_ n1_ n2_ n3_ n4_ n5_ ho hb hg hat
        obtain ⟨Ao42, co42, eo42⟩ := Kd.R_slice HO277.out
        (first | subst eo42 | (injection eo42 with f1_ f2_ f3_; have f4_ := f1_.symm; have f5_ := f3_.symm; clear f1_ f2_ f3_; subst f4_; subst f5_))
        refine hK.out _ _ ?_
        clear hK K
        refine nrm ?_
        refine pl 11 ?_
        refine last_ (i := 12) (N := none) #[true, true, true, true, true, true, true, true, true, true, true, true, true] rfl rfl (one_of HT_.out (by kernel_rfl)) (by decide) (fun K hK => ?_)
        have hs43 : w41.cell? ⟨gb257, 2, none⟩ = some (u258002) := (blk_cell BK257.out 2).trans rfl
        have hfs43 := blk_frozen BK257.out 2
        have hns43_0 := NB245_257.out
        have hms43_0 := NB257_245.out
        refine skip_ (w1 := ?_) (by rfl) rfl ?_ ?_
        rotate_left
        ·
         go_simp
         rfl
        refine hK.out _ _ ?_
        clear hK K
        refine done_ (done_of HT_.out (by kernel_rfl)) ?_
        try go_wp2
        go_roundg kj25
        case measure => have := HK1.out; have := HJ25.out; omega
        case rel => exact ⟨_, _, _, _, _, rs, H', ⟨by have := HK1.out; have := HJ25.out; omega⟩, ⟨by (with_reducible repeat (first | apply Kd.V_alloc | apply Kd.V_drewN | apply Kd.V_drew)); exact Kd.V_mono (Kd.V_far (p := ⟨gb257, 2, none⟩) (Kd.V_mono HO_37.out (fun k_ hk => (⟨hk, hk.1.2.2⟩ : _ ∧ k_ ≠ gb257))) (fun _ hk => hk.2) (.slice Ao42 y275.length co42)) (fun _ hk => ⟨hk.1.2, ⟨hk.1.1.2.1, hk.1.1.2.2⟩⟩)⟩, ⟨rr⟩, ⟨bq⟩, ⟨bq⟩, ⟨bb⟩⟩
    ·
     replace H := sb H
     rcases H with ⟨rfl, H⟩ | ⟨rfl, H⟩
     ·
      replace H := bd H; obtain ⟨t263, A45, H⟩ := H; replace H := sb H
      rcases H with ⟨rfl, H⟩ | ⟨rfl, H⟩
      ·
       obtain ⟨rfl, rfl, rfl, rfl⟩ := s4 H
       have hnb47 := NB257_245.out
       have hnc47 := NB245_257.out
       have z48 := cz3 BK257.out
       obtain ⟨Ao49, co49, eo49⟩ := Kd.R_slice HO_258002.out
       subst eo49
       go_wp2_with (go_at_call 95; refine mB (impl_KindValid.calls (cu ((Kd.R_reads' HO_258002.out).2.2)) ((Kd.R_reads' HO_258002.out).2.1) A45.out) ?_; intro w50 hb; replace HO_37 := vb HO_37 hb; replace HO_258002 := rb HO_258002 hb; replace BK245 := kb BK245 hb; replace BK257 := kb BK257 hb; replace HB := bz HB hb; clear hb; have z51 := cz3 BK257.out; have z52 := cz3 BK245.out)
       refine bodyPost_ret (results_ct rfl _ _ gb245 61 #[.string t255, .string t256, .slice Ao49 x258002_1.length co49] (0, 0) _ rfl bq Tryz.underlying61 rfl (by kernel_rfl)) rfl ?_
       exact ⟨_, er, rr, bb⟩
      ·
       obtain ⟨rfl, rfl, rfl, rfl⟩ := s4 H
       have hnb53 := NB257_245.out
       have hnc53 := NB245_257.out
       have z54 := cz3 BK257.out
       obtain ⟨Ao55, co55, eo55⟩ := Kd.R_slice HO_258002.out
       subst eo55
       go_wp2_with (go_at_call 95; refine mB (impl_KindValid.calls (cu ((Kd.R_reads' HO_258002.out).2.2)) ((Kd.R_reads' HO_258002.out).2.1) A45.out) ?_; intro w56 hb; replace HO_37 := vb HO_37 hb; replace HO_258002 := rb HO_258002 hb; replace BK245 := kb BK245 hb; replace BK257 := kb BK257 hb; replace HB := bz HB hb; clear hb; have z57 := cz3 BK245.out)
       refine bodyPost_ret (results_ct rfl _ _ gb245 61 #[.string (⟨#[]⟩ : ByteArray), .string (⟨#[]⟩ : ByteArray), .slice none 0 0] (0, 0) _ rfl bq Tryz.underlying61 rfl (by kernel_rfl)) rfl ?_
       exact ⟨_, er, nx, bb⟩
     ·
      obtain ⟨rfl, rfl, rfl, rfl⟩ := s4 H
      have hnb58 := NB245_257.out
      have hnc58 := NB257_245.out
      have z59 := cz3 BK245.out
      go_wp2
      refine bodyPost_ret (results_ct rfl _ _ gb245 61 #[.string (⟨#[]⟩ : ByteArray), .string (⟨#[]⟩ : ByteArray), .slice none 0 0] (0, 0) _ rfl bq Tryz.underlying61 rfl (by kernel_rfl)) rfl ?_
      exact ⟨_, er, nx, bb⟩
 ·
  obtain ⟨rfl, rfl, rfl, rfl⟩ := s4 H
  go_enter Tryz.func48, Tryz.ntmps48
  go_wp2_with (first | (refine gG 2 ?_; refine bX HB 2 #[.string (⟨#[]⟩ : ByteArray), .string (⟨#[]⟩ : ByteArray), .slice none 0 0] 61 ?_; intro gb245 w60 BK245 GW245 hb; replace HB := bs HB hb; clear hb) | (refine gD Tryz.func89 (impl_TextValid.calls A2.out) ?_; intro w60 hb; replace BK245 := kb BK245 hb; replace HB := bz HB hb; clear hb; have z61 := cz3 BK245.out))
  refine bodyPost_ret (results_ct rfl _ _ gb245 61 #[.string (⟨#[]⟩ : ByteArray), .string (⟨#[]⟩ : ByteArray), .slice none 0 0] (0, 0) _ rfl bq Tryz.underlying61 rfl (by kernel_rfl)) rfl ?_
  exact ⟨_, er, nx, bb⟩
def impl_isBoundary_1.f (a0 : Int) : Option (Bool) := (impl_isLetter.f a0).bind fun t278 => (if t278 = true then (some true) else ((impl_isDigit.f a0).bind fun t279 => (some t279)))
theorem impl_isBoundary_1.calls {a0 : Int} {r : Bool} {w : World} (h : impl_isBoundary_1.f a0 = some r) :
  Calls Tryz.prog 139 #[.int .u8 a0] w fun e w' => e = .returned (.bool r) ∧ Drawn0 w w' := by
 have H : ((impl_isLetter.f a0).bind fun t278 => (if t278 = true then (some true) else ((impl_isDigit.f a0).bind fun t279 => (some t279)))) = some r := h
 clear h
 replace H := bd H; obtain ⟨t278, A2, H⟩ := H; replace H := sb H
 rcases H with ⟨rfl, H⟩ | ⟨rfl, H⟩
 ·
  obtain rfl := s1 H
  go_enter Tryz.func139, Tryz.ntmps139
  go_wp2_with (refine gA Tryz.func140 (impl_isLetter.calls A2.out) ?_; intro nd)
  go_ret
  exact ⟨rs, dn⟩
 ·
  replace H := bd H; obtain ⟨t279, A4, H⟩ := H
  obtain rfl := s1 H
  go_enter Tryz.func139, Tryz.ntmps139
  go_wp2_with (first | (refine gA Tryz.func140 (impl_isLetter.calls A2.out) ?_; intro nd) | (go_at_call 141; refine mA (impl_isDigit.calls A4.out) ?_; intro nd))
  go_ret
  exact ⟨rs, dn⟩
def impl_allBytes_isBoundary_1.l0 : Nat → ByteArray → Int → Int → Option (Bool)
 | 0, _, _, _ => none
 | k + 1, x0, x7, x8 => if x8 < x7 then (if 0 ≤ x8 then (if x8 < (x0.size : Int) then ((impl_isBoundary_1.f (bt x0 x8)).bind fun t280 => (if t280 = true then (impl_allBytes_isBoundary_1.l0 k x0 x7 (wrap64 (x8 + 1))) else (some false))) else (none)) else (none)) else (some true)
def impl_allBytes_isBoundary_1.f (k : Nat) (a0 : ByteArray)  : Option (Bool) := impl_allBytes_isBoundary_1.l0 k a0 (a0.size : Int) 0
theorem impl_allBytes_isBoundary_1.calls {k : Nat} {a0 : ByteArray} {r : Bool} {w : World} (h : impl_allBytes_isBoundary_1.f k a0 = some r) :
  Calls Tryz.prog 138 #[.string a0, .func (.func 139) #[] #[]] w fun e w' => e = .returned (.bool r) ∧ Drawn0 w w' := by
 have H : (impl_allBytes_isBoundary_1.l0 k a0 (a0.size : Int) 0) = some r := h
 clear h
 have H' := ak H; clear H
 go_enter Tryz.func138, Tryz.ntmps138
 go_wp2
 go_loopg [8] k (fun kq v8 w' => ∃ (x8_1 : Int), v8 = .int .i64 x8_1 ∧ Aside0 (impl_allBytes_isBoundary_1.l0 kq a0 (a0.size : Int) x8_1 = some r) ∧ Aside0 (kq ≤ k) ∧ Drawn0 w w')
 case atStart => exact ⟨_, rs, H', ⟨Nat.le_refl _⟩, dn⟩
 case round =>
  clear H'
  obtain ⟨x8_1, rfl, HA, HK1, ⟨m1, rfl⟩⟩ := hrel
  cases gk with
  | zero => exact zz HA.out
  | succ k1 =>
   obtain ⟨H⟩ := HA
   simp only [impl_allBytes_isBoundary_1.l0] at H
   replace H := sd H
   rcases H with ⟨c3b0, H⟩ | ⟨c3b0, H⟩
   ·
    replace H := nde H; obtain ⟨c4b0, H⟩ := H; replace H := nde H; obtain ⟨c5b0, H⟩ := H; replace H := bd H; obtain ⟨t280, A7, H⟩ := H; replace H := sb H
    rcases H with ⟨rfl, H⟩ | ⟨rfl, H⟩
    ·
     have H' := ak H; clear H
     obtain ⟨p6, q6, hx6⟩ := bx a0 x8_1
     go_wp2_with (go_at_call 139; refine mA (impl_isBoundary_1.calls A7.out) ?_; intro nd)
     go_roundg k1
     case measure => exact kl
     case rel => exact ⟨_, rs, H', ⟨kl⟩, dn⟩
    ·
     obtain rfl := s1 H
     obtain ⟨p6, q6, hx6⟩ := bx a0 x8_1
     go_wp2_with (go_at_call 139; refine mA (impl_isBoundary_1.calls A7.out) ?_; intro nd)
     go_ret
     exact ⟨rs, dn⟩
   ·
    obtain rfl := s1 H
    go_wp2
    go_ret
    exact ⟨rs, dn⟩
def impl_isBoundary.f (k : Nat) (a0 : ByteArray) : Option (Bool) := if (a0.size : Int) ≥ 1 then (if (a0.size : Int) ≤ 20 then ((impl_allBytes_isBoundary_1.f k a0).bind fun t281 => (some t281)) else (some false)) else (some false)
theorem impl_isBoundary.calls {k : Nat} {a0 : ByteArray} {r : Bool} {w : World} (h : impl_isBoundary.f k a0 = some r) :
  Calls Tryz.prog 96 #[.string a0] w fun e w' => e = .returned (.bool r) ∧ Drawn0 w w' := by
 have H : (if (a0.size : Int) ≥ 1 then (if (a0.size : Int) ≤ 20 then ((impl_allBytes_isBoundary_1.f k a0).bind fun t281 => (some t281)) else (some false)) else (some false)) = some r := h
 clear h
 replace H := sp H
 rcases H with ⟨c2, H⟩ | ⟨c2, H⟩
 ·
  have c2b0 : decide (1 ≤ (a0.size : Int)) = true := decide_eq_true c2
  have c2b1 : decide (1 ≤ a0.size) = true := decide_eq_true (by omega)
  clear c2
  replace H := sp H
  rcases H with ⟨c3, H⟩ | ⟨c3, H⟩
  ·
   have c3b0 := decide_eq_true c3
   have c3b1 : decide (a0.size ≤ 20) = true := decide_eq_true (by omega)
   clear c3
   replace H := bd H; obtain ⟨t281, A4, H⟩ := H
   obtain rfl := s1 H
   go_enter Tryz.func96, Tryz.ntmps96
   go_wp2_with (go_at_call 138; refine mA (impl_allBytes_isBoundary_1.calls A4.out) ?_; intro nd)
   go_ret
   exact ⟨rs, dn⟩
  ·
   have c3b0 := decide_eq_false c3
   have c3b1 : decide (a0.size ≤ 20) = false := decide_eq_false (by omega)
   clear c3
   obtain rfl := s1 H
   go_enter Tryz.func96, Tryz.ntmps96
   go_wp2
   go_ret
   exact ⟨rs, dn⟩
 ·
  have c2b0 : decide (1 ≤ (a0.size : Int)) = false := decide_eq_false c2
  have c2b1 : decide (1 ≤ a0.size) = false := decide_eq_false (by omega)
  clear c2
  obtain rfl := s1 H
  go_enter Tryz.func96, Tryz.ntmps96
  go_wp2
  go_ret
  exact ⟨rs, dn⟩
end Go.Proofs.YtncdadcmghglkaaGreatDoor.PFnPartSame
