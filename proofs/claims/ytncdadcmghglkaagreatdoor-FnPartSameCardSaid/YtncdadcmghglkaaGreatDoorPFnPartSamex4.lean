/- Printed walks; conditions: those in each statement. -/
import Derived.Test.YtncdadcmghglkaaGreatDoorVFnPartSameQt
import Derived.Test.YtncdadcmghglkaaGreatDoorVFnPartSameYt
import Derived.Test.YtncdadcmghglkaaGreatDoorPFnPartSamex0
import Derived.Test.YtncdadcmghglkaaGreatDoorPFnPartSamex3
-- short
-- dense
-- sq
-- sq2
namespace Go.Proofs.YtncdadcmghglkaaGreatDoor.PFnPartSame
open Go.RowKit Go.Proofs.YtncdadcmghglkaaGreatDoor.X Go.Proofs.YtncdadcmghglkaaGreatDoorW.PrintWords Go.Proofs.YtncdadcmghglkaaGreatDoorW.PrintLast Go.Proofs.YtncdadcmghglkaaGreatDoorW.PrintMore
attribute [local go_sem] max2_int min2_int max_two min_two max_three min_three max_four min_four   -- for this text's walks alone
set_option linter.unusedVariables false
set_option maxHeartbeats 8000000
set_option maxRecDepth 100000
set_option linter.unusedSimpArgs false
def impl_FoldFields.l0 : Nat → List ByteArray → List (S69) → Int → Int → Option (List ByteArray × Bool)
 | 0, _, _, _, _ => none
 | k + 1, x4, x11, x12, x13 => if x13 < x12 then (if 0 ≤ x13 then (if x13 < (x11.length : Int) then ((impl_foldField.f k ((rd_T69 x11 x13).f0) ((rd_T69 x11 x13).f1)).bind fun t144 => (if x4.length + t144.length < 8796093022208 then (impl_FoldFields.l0 k (x4 ++ t144) x11 x12 (wrap64 (x13 + 1))) else (none))) else (none)) else (none)) else (some (x4, true))
def impl_FoldFields.f (k : Nat) (l0 : List (S69)) : Option (List ByteArray × Bool) := (impl_fieldsValid.f k l0).bind fun t138 => (if t138 = true then (impl_FoldFields.l0 k (([] : List ByteArray)) l0 (l0.length : Int) 0) else (some (([] : List ByteArray), false)))
theorem impl_FoldFields.calls {k c0 : Nat} {A0 : Option Addr} {l0 : List (S69)} {r1 : List ByteArray} {r2 : Bool} {w : World} (hr0 : Kd.C k69 w A0 l0.length l0) (hc0 : l0.length ≤ c0) (h : impl_FoldFields.f k l0 = some (r1, r2)) :
  Calls Tryz.prog 39 #[.slice A0 l0.length c0] w fun e w' => ∃ v0_ : Value, e = .returned (.tuple #[v0_, .bool r2]) ∧ Kd.R Kd.string 9 w' w.heap.size (fun _ => True) v0_ r1 ∧ Below w.heap.size w w' := by
 have hu69 := Tryz.underlying69
 have HR0 := ak hr0
 have HC0 := ak hc0
 clear hr0 hc0
 have HB := ak (Below.refl w.heap.size w)
 have H : ((impl_fieldsValid.f k l0).bind fun t138 => (if t138 = true then (impl_FoldFields.l0 k (([] : List ByteArray)) l0 (l0.length : Int) 0) else (some (([] : List ByteArray), false)))) = some (r1, r2) := h
 clear h
 replace H := bd H; obtain ⟨t138, A2, H⟩ := H; replace H := sb H
 rcases H with ⟨rfl, H⟩ | ⟨rfl, H⟩
 ·
  obtain ⟨y139, Ny139⟩ := nm ([] : List ByteArray)
  rw [← Ny139.out] at H
  have H' := ak H; clear H
  go_enter Tryz.func39, Tryz.ntmps39
  go_wp2_with (first | (refine gB Tryz.func82 (impl_fieldsValid.calls (cu HR0.out) HC0.out A2.out) ?_; intro w4 hb; replace HB := bs HB hb; clear hb) | (refine lRN 10 Kd.string 9 Ny139 ?_; intro v140 w5 ho6 hb; have HO141 := ak (Kd.R_lower ho6 (below_size (ul HB.out))); replace HB := bs HB hb; clear hb ho6))
  go_loopg [4, 13] k (fun kq v4 v13 w' => ∃ (x4_1 : List ByteArray) (x13_1 : Int), v13 = .int .i64 x13_1 ∧ Aside0 (impl_FoldFields.l0 kq x4_1 l0 (l0.length : Int) x13_1 = some (r1, r2)) ∧ Aside0 (kq ≤ k) ∧ Aside0 (Kd.R Kd.string 9 w' w.heap.size (fun _ => True) v4 x4_1) ∧ Aside0 (Below w.heap.size w w'))
  case atStart => exact ⟨_, _, rs, H', ⟨Nat.le_refl _⟩, ⟨ur HO141.out⟩, ⟨ul HB.out⟩⟩
  case round =>
   clear H'
   obtain ⟨x4_1, x13_1, rfl, HA, HK1, HO_4, HB⟩ := hrel
   cases gk with
   | zero => exact zz HA.out
   | succ k1 =>
    obtain ⟨H⟩ := HA
    simp only [impl_FoldFields.l0] at H
    replace H := sd H
    rcases H with ⟨c7b0, H⟩ | ⟨c7b0, H⟩
    ·
     replace H := nde H; obtain ⟨c8b0, H⟩ := H; replace H := nde H; obtain ⟨c9b0, H⟩ := H; replace H := bd H; obtain ⟨t144, A10, H⟩ := H; replace H := nl H; obtain ⟨LMc11, H⟩ := H
     obtain ⟨y147, Ny147⟩ := nm (x4_1 ++ t144)
     rw [← Ny147.out] at H
     have H' := ak H; clear H
     have p142 := zi x13_1
     have q142 := zj x13_1 l0.length
     obtain ⟨ad142, e142, hx142_0, hx142_1⟩ := at_T69 HR0.out x13_1 p142 q142
     cases e142
     replace hx142_0 := cl HB.out hx142_0
     replace hx142_1 := cl HB.out hx142_1
     replace p142 := eq_true p142
     replace q142 := eq_true q142
     go_wp2_with (first | (refine bX HB 6 #[.string (⟨#[]⟩ : ByteArray), .string (⟨#[]⟩ : ByteArray)] 69 ?_; intro gb143 w12 BK143 GW143 hb; replace HO_4 := rb HO_4 hb; replace HB := bs HB hb; clear hb; have z13 := cz2 BK143.out) | (refine gV Tryz.func83 (impl_foldField.calls A10.out) ?_; rintro v145 w14 ⟨ho0, hb⟩; have HO146 := ak (Kd.R_lower (Kd.R_new' ho0 (Kd.R_lt (rh HO_4))) (below_size bb)); replace HO_4 := ak (Kd.R_elder' (rh HO_4) (Kd.R_base ho0) hb); replace BK143 := kp BK143 #[.string ((rd_T69 l0 x13_1).f0), .string ((rd_T69 l0 x13_1).f1)] hb; replace HB := bz HB hb; clear hb; (try clear ho0); obtain ⟨Ao16, co16, eo16⟩ := Kd.R_slice HO146.out; subst eo16) | ((with_reducible refine gate_builtin (b := .append) (xs := #[.tmp 17, .tmp 19]) rfl ?_); at_builtin; refine Kd.R_append_rows Kd.string (w0 := w) w.heap.size rfl (.tmp 17) (.tmp 19) 23 9 (.string ⟨#[]⟩) 16 rfl Tryz.underlying23 info9 rfl (by decide) (by omega) u4 x4_1 t144 _ _ _ (fun k_ => some k_ ≠ (.slice Ao16 t144.length co16 : Value).ownBlock) (fun _ => False) rfl rfl ?aO ?aR (fun _ _ h => h) (fun _ h => h.elim) ?aF ?aB ?aS ?aL ?_; (case aR => repeat (first | exact (Kd.R_reads' HO146.out).2.2 | (with_reducible refine Kd.C_alloc ?_ _) | (with_reducible refine Kd.C_drewN ?_ _) | (with_reducible refine Kd.C_drew ?_))); (case aB => exact bb); (case aF => exact (fun k_ hk => Kd.fresh' (Kd.R_lt (ur HO146.out)) k_ hk)); (case aO => exact (ur (Kd.R_mono HO_4.out (fun _ hk => hk.2)))); (case aS => exact (below_size bb)); (case aL => have := LMc11.out; omega); intro v148 w15 ho hb hg hat; rw [← Ny147.out] at ho; have HO149 := ak (ho); replace BK143 := ak (blk_grown (g := gb143) (o := .cells #[.string ((rd_T69 l0 x13_1).f0), .string ((rd_T69 l0 x13_1).f1)] 69 (0, 0)) (ub BK143.out) hg (Kd.R_ne HO_4.out BK143.out (by decide))); replace HO146 := ak (Kd.R_after (ok := (fun _ => True)) (ur HO146.out) hg hat); replace HB := ak (hb); clear ho hb hg hat HO_4))
     go_roundg k1
     case measure => exact kl
     case rel => exact ⟨_, _, rs, H', ⟨kl⟩, ⟨ur (Kd.R_mono HO149.out (fun _ hk => trivial))⟩, ⟨bb⟩⟩
    ·
     obtain ⟨rfl, rfl⟩ := s2 H
     go_wp2
     go_ret2
     exact ⟨_, er, ur HO_4.out, ul HB.out⟩
 ·
  obtain ⟨rfl, rfl⟩ := s2 H
  go_enter Tryz.func39, Tryz.ntmps39
  go_wp2_with (refine gB Tryz.func82 (impl_fieldsValid.calls (cu HR0.out) HC0.out A2.out) ?_; intro w17 hb; replace HB := bs HB hb; clear hb)
  go_ret2
  exact ⟨_, er, nx, ul HB.out⟩
def impl_LowerText.f (a0 : ByteArray) : Option (ByteArray) := if a0.size ≤ 140737488355328 then some (strOfNums ((bytesOf a0).map lowI)) else none
set_option maxHeartbeats 1000000 in
set_option maxRecDepth 100000 in
theorem impl_LowerText.calls {a0 r : ByteArray} {w : World} (h : impl_LowerText.f a0 = some r) :
  Calls Tryz.prog 93 #[.string a0] w fun e w' => e = .returned (.string r) ∧ Below w.heap.size w w' := by
 unfold impl_LowerText.f at h
 split at h
 ·
  rename_i hb
  injection h with h
  subst h
  have kb := fun W => print_bytes (P := Tryz.prog) 9 22 5 Tryz.underlying9 Tryz.underlying22 Tryz.underlying5 a0 W
  go_enter Tryz.func93, Tryz.ntmps93
  go_wp2
  go_loopw [10] (fun i W => ∃ k : Nat, k ≤ a0.size ∧ i = .int .i64 k ∧ LowRow w w.heap.size (lowN (bytesOf a0) k) W) (fun i _ => a0.size - (intOf i).toNat)
  case atStart => exact ⟨0, Nat.zero_le _, rfl, by simpa [lowN] using lowRow_start w 5 a0⟩
  case round =>
   obtain ⟨k, hk, rfl, hR⟩ := hrel
   have HR := ak hR
   by_cases hlt : k < a0.size
   ·
    have hc := hR.cell k (by rw [lowN_length, bytesOf_length]; exact hlt)
    have hf := hR.free k (by rw [lowN_length, bytesOf_length]; exact hlt)
    rw [lowN_at _ _ (by rw [bytesOf_length]; exact hlt)] at hc
    clear hR
    have hr := bytesOf_range a0 k
    have hs := ak (lowN_skip (bytesOf a0) k (by rw [bytesOf_length]; exact hlt))
    have hu := ak (lowN_succ (bytesOf a0) k (by rw [bytesOf_length]; exact hlt))
    generalize (bytesOf a0).getD k 0 = c at hc hr hs hu
    go_wp2
    ·
     go_roundw
     case rel => exact ⟨k + 1, by omega, by go_num, by
      rw [hu.out, lowI, if_pos ⟨by omega, by omega⟩]
      exact HR.out.store (Nat.le_refl _) k (by rw [lowN_length, bytesOf_length]; exact hlt) _⟩
     case measure => simp [intOf]; omega
    ·
     go_roundw
     case rel => exact ⟨k + 1, by omega, by go_num, by rw [hs.out (by omega)]; exact HR.out⟩
     case measure => simp [intOf]; omega
    ·
     go_roundw
     case rel => exact ⟨k + 1, by omega, by go_num, by rw [hs.out (by omega)]; exact HR.out⟩
     case measure => simp [intOf]; omega
   ·
    clear hR
    have kd := run_convert_bytes_arg (P := Tryz.prog) wr 22 5 Tryz.underlying22 Tryz.underlying5 w.heap.size 0 a0.size (grownCap w a0.size 0 5) (lowN (bytesOf a0) k) (by rw [lowN_length, bytesOf_length]) (fun i hi => by
     rw [Nat.zero_add]; exact HR.out.cell i (by rw [lowN_length, bytesOf_length]; exact hi)) 9 Tryz.underlying9
    go_wp2
    go_ret
    have hk2 : k = a0.size := by omega
    exact ⟨by rw [hk2, lowN_all (bytesOf a0) a0.size (bytesOf_length a0)]; rfl, HR.out.below⟩
 ·
  cases h
def impl_SameText.f (a0 : ByteArray) (a1 : ByteArray) : Option (Bool) := (impl_LowerText.f a0).bind fun t150 => ((impl_LowerText.f a1).bind fun t151 => (some (t150.toList == t151.toList)))
theorem impl_SameText.calls {a0 a1 : ByteArray} {r : Bool} {w : World} (h : impl_SameText.f a0 a1 = some r) :
  Calls Tryz.prog 124 #[.string a0, .string a1] w fun e w' => e = .returned (.bool r) ∧ Below w.heap.size w w' := by
 have HB := ak (Below.refl w.heap.size w)
 have H : ((impl_LowerText.f a0).bind fun t150 => ((impl_LowerText.f a1).bind fun t151 => (some (t150.toList == t151.toList)))) = some r := h
 clear h
 replace H := bd H; obtain ⟨t150, A3, H⟩ := H; replace H := bd H; obtain ⟨t151, A4, H⟩ := H
 obtain rfl := s1 H
 go_enter Tryz.func124, Tryz.ntmps124
 go_wp2_with (first | (refine gB Tryz.func93 (impl_LowerText.calls A3.out) ?_; intro w5 hb; replace HB := bs HB hb; clear hb) | (refine gB Tryz.func93 (impl_LowerText.calls A4.out) ?_; intro w6 hb; replace HB := bs HB hb; clear hb))
 go_ret
 exact ⟨er, ul HB.out⟩
def impl_fieldPlace_1.f (a0_0 : ByteArray) (a0_1 : ByteArray) (a1 : ByteArray) : Option (Bool) := (impl_SameText.f a0_0 a1).bind fun t153 => (some t153)
theorem impl_fieldPlace_1.calls {a0_0 a0_1 a1 : ByteArray} {gq1 : Nat} {r : Bool} {w : World} (hq1 : w.heap[gq1]? = some (.cells #[.string a1] 9 (0, 0))) (h : impl_fieldPlace_1.f a0_0 a0_1 a1 = some r) :
  Calls Tryz.prog 123 #[.agg #[.string a0_0, .string a0_1], .pointer (some ⟨gq1, 0, none⟩)] w fun e w' => e = .returned (.bool r) ∧ Below w.heap.size w w' := by
 have hu69 := Tryz.underlying69
 have BK46 := ak hq1
 clear hq1
 have HB := ak (Below.refl w.heap.size w)
 have H : ((impl_SameText.f a0_0 a1).bind fun t153 => (some t153)) = some r := h
 clear h
 replace H := bd H; obtain ⟨t153, A3, H⟩ := H
 obtain rfl := s1 H
 go_enter Tryz.func123, Tryz.ntmps123
 go_wp2_with (first | (refine bY HB 2 #[.string a0_0, .string a0_1] 69 ?_; intro gb152 w4 BK152 GW152 hg hb; have NB46_152 := nl_ BK46 hg; have NB152_46 := ng_ BK46 hg; replace BK46 := kb BK46 hb; replace HB := bz HB hb; clear hb hg; have hnb5 := NB152_46.out; have hnc5 := NB46_152.out; have z6 := cz2 BK152.out; have hcz7_0 : w4.cell? ⟨gq1, 0, none⟩ = some (.string a1) := (blk_cell BK46.out 0).trans rfl; have hfz7_0 := blk_frozen BK46.out 0) | (refine gB Tryz.func124 (impl_SameText.calls A3.out) ?_; intro w8 hb; replace BK46 := kb BK46 hb; replace BK152 := kb BK152 hb; replace HB := bz HB hb; clear hb))
 go_ret
 exact ⟨er, bb⟩
def impl_Field_fieldPlace_1.l0 : Nat → List (S69) → Int → Int → ByteArray → Option (Int)
 | 0, _, _, _, _ => none
 | k + 1, x0, x7, x8, x47000 => if x8 < x7 then (if 0 ≤ x8 then (if x8 < (x0.length : Int) then ((impl_fieldPlace_1.f ((rd_T69 x0 x8).f0) ((rd_T69 x0 x8).f1) x47000).bind fun t155 => (if t155 = true then (some x8) else (impl_Field_fieldPlace_1.l0 k x0 x7 (wrap64 (x8 + 1)) x47000))) else (none)) else (none)) else (some (-1))
def impl_Field_fieldPlace_1.f (k : Nat) (l0 : List (S69)) (a1_0 : ByteArray) : Option (Int) := impl_Field_fieldPlace_1.l0 k l0 (l0.length : Int) 0 a1_0
theorem impl_Field_fieldPlace_1.calls {k c0 gq1_0 : Nat} {A0 : Option Addr} {l0 : List (S69)} {a1_0 : ByteArray} {r : Int} {w : World} (hr0 : Kd.C k69 w A0 l0.length l0) (hc0 : l0.length ≤ c0) (hq1_0 : w.heap[gq1_0]? = some (.cells #[.string a1_0] 9 (0, 0))) (h : impl_Field_fieldPlace_1.f k l0 a1_0 = some r) :
  Calls Tryz.prog 122 #[.slice A0 l0.length c0, .func (.func 123) #[] #[.pointer (some ⟨gq1_0, 0, none⟩)]] w fun e w' => e = .returned (.int .i64 r) ∧ Below w.heap.size w w' := by
 have hu69 := Tryz.underlying69
 have HR0 := ak hr0
 have HC0 := ak hc0
 clear hr0 hc0
 have BK46 := ak hq1_0
 clear hq1_0
 have HB := ak (Below.refl w.heap.size w)
 have H : (impl_Field_fieldPlace_1.l0 k l0 (l0.length : Int) 0 a1_0) = some r := h
 clear h
 have H' := ak H; clear H
 go_enter Tryz.func122, Tryz.ntmps122
 go_wp2
 go_loopg [8] k (fun kq v8 w' => ∃ (x8_1 : Int), v8 = .int .i64 x8_1 ∧ Aside0 (impl_Field_fieldPlace_1.l0 kq l0 (l0.length : Int) x8_1 a1_0 = some r) ∧ Aside0 (kq ≤ k) ∧ Aside0 (w'.heap[gq1_0]? = some (.cells #[.string a1_0] 9 (0, 0))) ∧ Aside0 (Below w.heap.size w w'))
 case atStart => exact ⟨_, rs, H', ⟨Nat.le_refl _⟩, ⟨ub BK46.out⟩, ⟨bb⟩⟩
 case round =>
  clear H'
  obtain ⟨x8_1, rfl, HA, HK1, BK46, HB⟩ := hrel
  cases gk with
  | zero => exact zz HA.out
  | succ k1 =>
   obtain ⟨H⟩ := HA
   simp only [impl_Field_fieldPlace_1.l0] at H
   replace H := sd H
   rcases H with ⟨c3b0, H⟩ | ⟨c3b0, H⟩
   ·
    replace H := nde H; obtain ⟨c4b0, H⟩ := H; replace H := nde H; obtain ⟨c5b0, H⟩ := H; replace H := bd H; obtain ⟨t155, A6, H⟩ := H; replace H := sb H
    rcases H with ⟨rfl, H⟩ | ⟨rfl, H⟩
    ·
     obtain rfl := s1 H
     have p154 := zi x8_1
     have q154 := zj x8_1 l0.length
     obtain ⟨ad154, e154, hx154_0, hx154_1⟩ := at_T69 HR0.out x8_1 p154 q154
     cases e154
     replace hx154_0 := cl HB.out hx154_0
     replace hx154_1 := cl HB.out hx154_1
     replace p154 := eq_true p154
     replace q154 := eq_true q154
     go_wp2_with (go_at_call 123; refine mB (impl_fieldPlace_1.calls (ub BK46.out) A6.out) ?_; intro w8 hb; replace BK46 := kb BK46 hb; replace HB := bz HB hb; clear hb)
     go_ret
     exact ⟨er, bb⟩
    ·
     have H' := ak H; clear H
     have p154 := zi x8_1
     have q154 := zj x8_1 l0.length
     obtain ⟨ad154, e154, hx154_0, hx154_1⟩ := at_T69 HR0.out x8_1 p154 q154
     cases e154
     replace hx154_0 := cl HB.out hx154_0
     replace hx154_1 := cl HB.out hx154_1
     replace p154 := eq_true p154
     replace q154 := eq_true q154
     go_wp2_with (go_at_call 123; refine mB (impl_fieldPlace_1.calls (ub BK46.out) A6.out) ?_; intro w9 hb; replace BK46 := kb BK46 hb; replace HB := bz HB hb; clear hb)
     go_roundg k1
     case measure => exact kl
     case rel => exact ⟨_, rs, H', ⟨kl⟩, ⟨ub BK46.out⟩, ⟨bb⟩⟩
   ·
    obtain rfl := s1 H
    go_wp2
    go_ret
    exact ⟨er, bb⟩
def impl_fieldPlace.f (k : Nat) (l0 : List (S69)) (a1 : ByteArray) : Option (Int) := (impl_Field_fieldPlace_1.f k l0 a1).bind fun t157 => (some t157)
theorem impl_fieldPlace.calls {k c0 : Nat} {A0 : Option Addr} {l0 : List (S69)} {a1 : ByteArray} {r : Int} {w : World} (hr0 : Kd.C k69 w A0 l0.length l0) (hc0 : l0.length ≤ c0) (h : impl_fieldPlace.f k l0 a1 = some r) :
  Calls Tryz.prog 88 #[.slice A0 l0.length c0, .string a1] w fun e w' => e = .returned (.int .i64 r) ∧ Below w.heap.size w w' := by
 have HR0 := ak hr0
 have HC0 := ak hc0
 clear hr0 hc0
 have HB := ak (Below.refl w.heap.size w)
 have H : ((impl_Field_fieldPlace_1.f k l0 a1).bind fun t157 => (some t157)) = some r := h
 clear h
 replace H := bd H; obtain ⟨t157, A3, H⟩ := H
 obtain rfl := s1 H
 go_enter Tryz.func88, Tryz.ntmps88
 go_wp2_with (first | (refine bX HB 3 #[.string a1] 9 ?_; intro gb156 w4 BK156 GW156 hb; replace HB := bs HB hb; clear hb) | (refine gB Tryz.func122 (impl_Field_fieldPlace_1.calls (cu (Kd.C_below HR0.out HB.out)) HC0.out (ub BK156.out) A3.out) ?_; intro w5 hb; replace BK156 := kb BK156 hb; replace HB := bz HB hb; clear hb))
 go_ret
 exact ⟨er, bb⟩
def impl_GetField.f (k : Nat) (l0 : List (S69)) (a1 : ByteArray) : Option (ByteArray × Bool) := (impl_fieldPlace.f k l0 a1).bind fun t158 => (if t158 < 0 then (some ((⟨#[]⟩ : ByteArray), false)) else (if 0 ≤ t158 then (if t158 < (l0.length : Int) then (some ((rd_T69 l0 t158).f1, true)) else (none)) else (none)))
theorem impl_GetField.calls {k c0 : Nat} {A0 : Option Addr} {l0 : List (S69)} {a1 r1 : ByteArray} {r2 : Bool} {w : World} (hr0 : Kd.C k69 w A0 l0.length l0) (hc0 : l0.length ≤ c0) (h : impl_GetField.f k l0 a1 = some (r1, r2)) :
  Calls Tryz.prog 47 #[.slice A0 l0.length c0, .string a1] w fun e w' => e = .returned (.tuple #[.string r1, .bool r2]) ∧ Below w.heap.size w w' := by
 have HR0 := ak hr0
 have HC0 := ak hc0
 clear hr0 hc0
 have HB := ak (Below.refl w.heap.size w)
 have H : ((impl_fieldPlace.f k l0 a1).bind fun t158 => (if t158 < 0 then (some ((⟨#[]⟩ : ByteArray), false)) else (if 0 ≤ t158 then (if t158 < (l0.length : Int) then (some ((rd_T69 l0 t158).f1, true)) else (none)) else (none)))) = some (r1, r2) := h
 clear h
 replace H := bd H; obtain ⟨t158, A3, H⟩ := H; replace H := sd H
 rcases H with ⟨c4b0, H⟩ | ⟨c4b0, H⟩
 ·
  obtain ⟨rfl, rfl⟩ := s2 H
  go_enter Tryz.func47, Tryz.ntmps47
  go_wp2_with (refine gB Tryz.func88 (impl_fieldPlace.calls (cu HR0.out) HC0.out A3.out) ?_; intro w5 hb; replace HB := bs HB hb; clear hb)
  go_ret2
  exact ⟨er, ul HB.out⟩
 ·
  replace H := nde H; obtain ⟨c6b0, H⟩ := H; replace H := nde H; obtain ⟨c7b0, H⟩ := H
  obtain ⟨rfl, rfl⟩ := s2 H
  go_enter Tryz.func47, Tryz.ntmps47
  go_wp2_with (refine gB Tryz.func88 (impl_fieldPlace.calls (cu HR0.out) HC0.out A3.out) ?_; intro w8 hb; replace HB := bs HB hb; clear hb; have p159 : 0 ≤ (t158 : Int) := of_decide_eq_true (by assumption); have q159 : t158 < (l0.length : Int) := of_decide_eq_true (by assumption); obtain ⟨ad159, e159, hx159_0, hx159_1⟩ := at_T69 HR0.out t158 p159 q159; cases e159; replace hx159_0 := (HB.out.cell (World.block_lt_of_cell? w _ hx159_0)).trans hx159_0; replace hx159_1 := (HB.out.cell (World.block_lt_of_cell? w _ hx159_1)).trans hx159_1; replace p159 := eq_true p159; replace q159 := eq_true q159)
  go_ret2
  exact ⟨er, ul HB.out⟩
def impl_quoted.l0 : Nat → ByteArray → List Int → Int → Option (ByteArray × Int × Bool)
 | 0, _, _, _ => none
 | k + 1, x0, x5, x6 => if x6 < (x0.size : Int) then (if 0 ≤ x6 then (if (bt x0 x6) = 34 then (some (strOfNums x5, wrap64 (x6 + 1), true)) else (if (bt x0 x6) = 92 then (if (wrap64 (x6 + 1)) = (x0.size : Int) then (some ((⟨#[]⟩ : ByteArray), 0, false)) else (if 0 ≤ (wrap64 (x6 + 1)) then (if (wrap64 (x6 + 1)) < (x0.size : Int) then (if x5.length < 140737488355328 then (impl_quoted.l0 k x0 (x5 ++ [bt x0 (wrap64 (x6 + 1))]) (wrap64 ((wrap64 (x6 + 1)) + 1))) else (none)) else (none)) else (none))) else (if x5.length < 140737488355328 then (impl_quoted.l0 k x0 (x5 ++ [bt x0 x6]) (wrap64 (x6 + 1))) else (none)))) else (none)) else (some ((⟨#[]⟩ : ByteArray), 0, false))
def impl_quoted.f (k : Nat) (a0 : ByteArray) : Option (ByteArray × Int × Bool) := impl_quoted.l0 k a0 (([] : List Int)) 1
theorem impl_quoted.calls {k : Nat} {a0 r1 : ByteArray} {r2 : Int} {r3 : Bool} {w : World} (h : impl_quoted.f k a0 = some (r1, r2, r3)) :
  Calls Tryz.prog 134 #[.string a0] w fun e w' => e = .returned (.tuple #[.string r1, .int .i64 r2, .bool r3]) ∧ Below w.heap.size w w' := by
 have HB := ak (Below.refl w.heap.size w)
 have H : (impl_quoted.l0 k a0 (([] : List Int)) 1) = some (r1, r2, r3) := h
 clear h
 obtain ⟨y160, Ny160⟩ := nm ([] : List Int)
 rw [← Ny160.out] at H
 have H' := ak H; clear H
 go_enter Tryz.func134, Tryz.ntmps134
 go_wp2_with (refine lRN 7 (Kd.int .u8) 5 Ny160 ?_; intro v161 w2 ho3 hb; have HO162 := ak (Kd.R_lower ho3 (below_size (ul HB.out))); replace HB := bs HB hb; clear hb ho3)
 go_loopg [5, 6] k (fun kq v5 v6 w' => ∃ (x5_1 : List Int) (x6_1 : Int), v6 = .int .i64 x6_1 ∧ Aside0 (impl_quoted.l0 kq a0 x5_1 x6_1 = some (r1, r2, r3)) ∧ Aside0 (kq ≤ k) ∧ Aside0 (Kd.R (Kd.int .u8) 5 w' w.heap.size (fun _ => True) v5 x5_1) ∧ Aside0 (Below w.heap.size w w'))
 case atStart => exact ⟨_, _, rs, H', ⟨Nat.le_refl _⟩, ⟨ur HO162.out⟩, ⟨ul HB.out⟩⟩
 case round =>
  clear H'
  obtain ⟨x5_1, x6_1, rfl, HA, HK1, HO_5, HB⟩ := hrel
  cases gk with
  | zero => exact zz HA.out
  | succ k1 =>
   obtain ⟨H⟩ := HA
   simp only [impl_quoted.l0] at H
   replace H := sd H
   rcases H with ⟨c4b0, H⟩ | ⟨c4b0, H⟩
   ·
    replace H := nde H; obtain ⟨c5b0, H⟩ := H; replace H := sq H
    rcases H with ⟨c7b0, c7b1, H⟩ | ⟨c7, c7b0, c7b1, H⟩
    ·
     obtain ⟨rfl, rfl, rfl⟩ := s3 H
     obtain ⟨p6, q6, hx6⟩ := bx a0 x6_1
     have hcv8 := own_string (P := Tryz.prog) Tryz.underlying22 Tryz.underlying5 Tryz.underlying9 (Kd.own_of_R HO_5.out)
     go_wp2
     go_ret3
     exact ⟨er, ul HB.out⟩
    ·
     replace H := sq H
     rcases H with ⟨c10b0, c10b1, H⟩ | ⟨c10, c10b0, c10b1, H⟩
     ·
      replace H := sq H
      rcases H with ⟨c11b0, c11b1, H⟩ | ⟨c11, c11b0, c11b1, H⟩
      ·
       obtain ⟨rfl, rfl, rfl⟩ := s3 H
       obtain ⟨p6, q6, hx6⟩ := bx a0 x6_1
       obtain ⟨p9, q9, hx9⟩ := bx a0 x6_1
       go_wp2
       go_ret3
       exact ⟨er, ul HB.out⟩
      ·
       obtain ⟨ji12, hji12⟩ : ∃ j_ : Int, (wrap64 (x6_1 + 1)) = j_ := ⟨_, rfl⟩
       replace H : (if 0 ≤ (ji12) then (if (ji12) < (a0.size : Int) then (if x5_1.length < 140737488355328 then (impl_quoted.l0 k1 a0 (x5_1 ++ [bt a0 (ji12)]) (wrap64 ((ji12) + 1))) else (none)) else (none)) else (none)) = some (r1, r2, r3) := by first | (rw [hji12] at H; exact H) | (simp only [hji12] at H ⊢; exact H)
       (try rw [hji12] at c11b0)
       (try rw [hji12] at c11b1)
       have hji12w : (IntKind.i64.wrap (x6_1 + 1)) = ji12 := (i64_w _).trans hji12
       replace H := nde H; obtain ⟨c13b0, H⟩ := H; replace H := nde H; obtain ⟨c14b0, H⟩ := H; replace H := nl H; obtain ⟨LMc16, H⟩ := H
       obtain ⟨y163, Ny163⟩ := nm (x5_1 ++ [bt a0 (ji12)])
       rw [← Ny163.out] at H
       have H' := ak H; clear H
       obtain ⟨p6, q6, hx6⟩ := bx a0 x6_1
       obtain ⟨p9, q9, hx9⟩ := bx a0 x6_1
       obtain ⟨p15, q15, hx15⟩ := bx a0 (ji12)
       go_wp2_with (at_builtin; refine aP 34 38 (Kd.int .u8) 22 5 (.int .u8 0) 1 Tryz.underlying22 info5 HB (ur HO_5.out) Ny163 (by have := LMc16.out; omega) ?_; intro v164 w17 ho hb hg hat; have HO165 := ak (ho); replace HB := ak (hb); clear ho hb hg hat HO_5)
       go_roundg k1
       case measure => exact kl
       case rel => exact ⟨_, _, (by first | rfl | (simp; done) | (simp only [← hji12] <;> (first | rfl | simp)) | (simp [*]; done)), H', ⟨kl⟩, ⟨ur HO165.out⟩, ⟨ul HB.out⟩⟩
     ·
      replace H := nl H; obtain ⟨LMc19, H⟩ := H
      obtain ⟨y166, Ny166⟩ := nm (x5_1 ++ [bt a0 x6_1])
      rw [← Ny166.out] at H
      have H' := ak H; clear H
      obtain ⟨p6, q6, hx6⟩ := bx a0 x6_1
      obtain ⟨p9, q9, hx9⟩ := bx a0 x6_1
      obtain ⟨p18, q18, hx18⟩ := bx a0 x6_1
      go_wp2_with (at_builtin; refine aP 34 38 (Kd.int .u8) 22 5 (.int .u8 0) 1 Tryz.underlying22 info5 HB (ur HO_5.out) Ny166 (by have := LMc19.out; omega) ?_; intro v167 w20 ho hb hg hat; have HO168 := ak (ho); replace HB := ak (hb); clear ho hb hg hat HO_5)
      go_roundg k1
      case measure => exact kl
      case rel => exact ⟨_, _, rs, H', ⟨kl⟩, ⟨ur HO168.out⟩, ⟨ul HB.out⟩⟩
   ·
    obtain ⟨rfl, rfl, rfl⟩ := s3 H
    go_wp2
    go_ret3
    exact ⟨er, ul HB.out⟩
def impl_outside.l0 : Nat → ByteArray → Int → Int → Option (Int)
 | 0, _, _, _ => none
 | k + 1, x0, x1, x5 => if x5 < (x0.size : Int) then (if 0 ≤ x5 then (if (bt x0 x5) = 34 then (if x5 ≤ (x0.size : Int) then ((impl_quoted.f k (x0.extract (x5 : Int).toNat x0.size)).bind fun bt169 => (if bt169.2.2 = true then (impl_outside.l0 k x0 x1 (wrap64 ((wrap64 (x5 + (wrap64 (bt169.2.1 - 1)))) + 1))) else (some (-1)))) else (none)) else (if (bt x0 x5) = x1 then (some x5) else (impl_outside.l0 k x0 x1 (wrap64 (x5 + 1))))) else (none)) else (some (-1))
def impl_outside.f (k : Nat) (a0 : ByteArray) (a1 : Int) : Option (Int) := impl_outside.l0 k a0 a1 0
theorem impl_outside.calls {k : Nat} {a0 : ByteArray} {a1 r : Int} {w : World} (h : impl_outside.f k a0 a1 = some r) :
  Calls Tryz.prog 125 #[.string a0, .int .u8 a1] w fun e w' => e = .returned (.int .i64 r) ∧ Below w.heap.size w w' := by
 have HB := ak (Below.refl w.heap.size w)
 have H : (impl_outside.l0 k a0 a1 0) = some r := h
 clear h
 have H' := ak H; clear H
 go_enter Tryz.func125, Tryz.ntmps125
 go_wp2
 go_loopg [5] k (fun kq v5 w' => ∃ (x5_1 : Int), v5 = .int .i64 x5_1 ∧ Aside0 (impl_outside.l0 kq a0 a1 x5_1 = some r) ∧ Aside0 (kq ≤ k) ∧ Aside0 (Below w.heap.size w w'))
 case atStart => exact ⟨_, rs, H', ⟨Nat.le_refl _⟩, ⟨ul HB.out⟩⟩
 case round =>
  clear H'
  obtain ⟨x5_1, rfl, HA, HK1, HB⟩ := hrel
  cases gk with
  | zero => exact zz HA.out
  | succ k1 =>
   obtain ⟨H⟩ := HA
   simp only [impl_outside.l0] at H
   replace H := sd H
   rcases H with ⟨c3b0, H⟩ | ⟨c3b0, H⟩
   ·
    replace H := nde H; obtain ⟨c4b0, H⟩ := H; replace H := sq H
    rcases H with ⟨c6b0, c6b1, H⟩ | ⟨c6, c6b0, c6b1, H⟩
    ·
     have c7b0 := eq_true (of_decide_eq_true (by assumption) : 0 ≤ x5_1)
     replace H := ne_ H; obtain ⟨c8b0, c8b1, H⟩ := H; replace H := bd H
     obtain ⟨⟨t169, t170, t171⟩, A9, H⟩ := H
     (try dsimp only at H)
     replace H := sb H
     rcases H with ⟨rfl, H⟩ | ⟨rfl, H⟩
     ·
      have H' := ak H; clear H
      obtain ⟨p5, q5, hx5⟩ := bx a0 x5_1
      go_wp2_with (refine gB Tryz.func134 (impl_quoted.calls A9.out) ?_; intro w11 hb; replace HB := bs HB hb; clear hb)
      go_roundg k1
      case measure => exact kl
      case rel => exact ⟨_, rs, H', ⟨kl⟩, ⟨ul HB.out⟩⟩
     ·
      obtain rfl := s1 H
      obtain ⟨p5, q5, hx5⟩ := bx a0 x5_1
      go_wp2_with (refine gB Tryz.func134 (impl_quoted.calls A9.out) ?_; intro w12 hb; replace HB := bs HB hb; clear hb)
      go_ret
      exact ⟨er, ul HB.out⟩
    ·
     replace H := sq H
     rcases H with ⟨c13b0, c13b1, H⟩ | ⟨c13, c13b0, c13b1, H⟩
     ·
      obtain rfl := s1 H
      obtain ⟨p5, q5, hx5⟩ := bx a0 x5_1
      go_wp2
      go_ret
      exact ⟨er, ul HB.out⟩
     ·
      have H' := ak H; clear H
      obtain ⟨p5, q5, hx5⟩ := bx a0 x5_1
      go_wp2
      go_roundg k1
      case measure => exact kl
      case rel => exact ⟨_, rs, H', ⟨kl⟩, ⟨ul HB.out⟩⟩
   ·
    obtain rfl := s1 H
    go_wp2
    go_ret
    exact ⟨er, ul HB.out⟩
end Go.Proofs.YtncdadcmghglkaaGreatDoor.PFnPartSame
