/- Printed walks; conditions: those in each statement. -/
import Derived.Test.YtncdadcmghglkaaGreatDoorVFnPartSameQt
import Derived.Test.YtncdadcmghglkaaGreatDoorVFnPartSameYt
import Derived.Test.YtncdadcmghglkaaGreatDoorPFnPartSamex0
import Derived.Test.YtncdadcmghglkaaGreatDoorPFnPartSamex2
import Derived.Test.YtncdadcmghglkaaGreatDoorPFnPartSamex4
import Derived.Test.YtncdadcmghglkaaGreatDoorPFnPartSamex8
import Derived.Test.YtncdadcmghglkaaGreatDoorPFnPartSamex9
-- short
-- dense
-- sq
-- sq2
namespace Go.Proofs.YtncdadcmghglkaaGreatDoor.PFnPartSame
open Go.RowKit Go.Proofs.YtncdadcmghglkaaGreatDoor.X Go.Proofs.YtncdadcmghglkaaGreatDoorW.PrintWords Go.Proofs.YtncdadcmghglkaaGreatDoorW.PrintLast Go.Proofs.YtncdadcmghglkaaGreatDoorW.PrintMore
attribute [local go_sem] max2_int min2_int max_two min_two max_three min_three max_four min_four   -- for this text's walks alone
set_option linter.unusedVariables false
set_option maxHeartbeats 8000000
set_option maxRecDepth 100000
set_option linter.unusedSimpArgs false
def impl_BoundaryOf.j0 : Nat → Bool → ByteArray → ByteArray → List (S69) → Option (ByteArray × Bool)
 | 0, _, _, _, _ => none
 | k + 1, x13, x283000, x283001, x283002 => if x13 = true then (some ((⟨#[]⟩ : ByteArray), false)) else ((impl_GetField.f k x283002 (⟨#[98, 111, 117, 110, 100, 97, 114, 121]⟩ : ByteArray)).bind fun bt284 => ((impl_isBoundary.f k bt284.1).bind fun t286 => (if t286 = true then (some (bt284.1, true)) else (some ((⟨#[]⟩ : ByteArray), false)))))
def impl_BoundaryOf.f (k : Nat) (a0_0 : ByteArray) (a0_1 : ByteArray) (l0_2 : List (S69)) : Option (ByteArray × Bool) := (impl_KindValid.f k a0_0 a0_1 l0_2).bind fun t283 => (if t283 = true then (impl_BoundaryOf.j0 k (a0_0.toList != ([109, 117, 108, 116, 105, 112, 97, 114, 116] : List UInt8)) a0_0 a0_1 l0_2) else (impl_BoundaryOf.j0 k true a0_0 a0_1 l0_2))
theorem impl_BoundaryOf.calls {k c0_2 : Nat} {a0_0 a0_1 r1 : ByteArray} {A0_2 : Option Addr} {l0_2 : List (S69)} {r2 : Bool} {w : World} (hr0_2 : Kd.C k69 w A0_2 l0_2.length l0_2) (hc0_2 : l0_2.length ≤ c0_2) (h : impl_BoundaryOf.f k a0_0 a0_1 l0_2 = some (r1, r2)) :
  Calls Tryz.prog 49 #[.agg #[.string a0_0, .string a0_1, .slice A0_2 l0_2.length c0_2]] w fun e w' => e = .returned (.tuple #[.string r1, .bool r2]) ∧ Below w.heap.size w w' := by
 have hu61 := Tryz.underlying61
 have HR0_2 := ak hr0_2
 have HC0_2 := ak hc0_2
 clear hr0_2 hc0_2
 have HB := ak (Below.refl w.heap.size w)
 have H : ((impl_KindValid.f k a0_0 a0_1 l0_2).bind fun t283 => (if t283 = true then (impl_BoundaryOf.j0 k (a0_0.toList != ([109, 117, 108, 116, 105, 112, 97, 114, 116] : List UInt8)) a0_0 a0_1 l0_2) else (impl_BoundaryOf.j0 k true a0_0 a0_1 l0_2))) = some (r1, r2) := h
 clear h
 have HC2 := ak H
 clear H
 go_enter Tryz.func49, Tryz.ntmps49
 go_upto_region 1 with (refine bX HB 1 #[.string a0_0, .string a0_1, .slice A0_2 l0_2.length c0_2] 61 ?_; intro gb282 w3 BK282 GW282 hb; replace HB := bs HB hb; clear hb)
 (try simp only [Act.put, l_a, l_b, l_c])
 go_cut [13] (fun v13 wc => ∃ (kq : Nat) (x13_1 : Bool), v13 = .bool x13_1 ∧ Aside0 (impl_BoundaryOf.j0 kq x13_1 a0_0 a0_1 l0_2 = some (r1, r2)) ∧ Aside0 (kq ≤ k) ∧ Aside0 (wc.heap[gb282]? = some (.cells #[.string a0_0, .string a0_1, (.slice A0_2 l0_2.length c0_2)] 61 (0, 0))) ∧ Aside0 (Below w.heap.size w wc))
 case first =>
  have H := HC2.out
  clear HC2
  replace H := bd H; obtain ⟨t283, A4, H⟩ := H; replace H := sb H
  rcases H with ⟨rfl, H⟩ | ⟨rfl, H⟩
  ·
   have H' := ak H; clear H
   have z6 := cz3 BK282.out
   go_wp2_with (refine gB Tryz.func95 (impl_KindValid.calls (cu (Kd.C_below HR0_2.out HB.out)) HC0_2.out A4.out) ?_; intro w7 hb; replace BK282 := kb BK282 hb; replace HB := bz HB hb; clear hb; have z8 := cz3 BK282.out)
   go_meet
   case rel => exact ⟨_, _, rs, H', ⟨le_⟩, ⟨ub BK282.out⟩, ⟨bb⟩⟩
  ·
   have H' := ak H; clear H
   have z9 := cz3 BK282.out
   go_wp2_with (refine gB Tryz.func95 (impl_KindValid.calls (cu (Kd.C_below HR0_2.out HB.out)) HC0_2.out A4.out) ?_; intro w10 hb; replace BK282 := kb BK282 hb; replace HB := bz HB hb; clear hb)
   go_meet
   case rel => exact ⟨_, _, rs, H', ⟨le_⟩, ⟨ub BK282.out⟩, ⟨bb⟩⟩
 case rest =>
  clear HC2
  obtain ⟨kq, x13_1, rfl, HA, HJ1, BK282, HB⟩ := hcut
  cases kq with
  | zero => exact zz HA.out
  | succ kj1 =>
   obtain ⟨H⟩ := HA
   simp only [impl_BoundaryOf.j0] at H
   replace H := sb H
   rcases H with ⟨rfl, H⟩ | ⟨rfl, H⟩
   ·
    obtain ⟨rfl, rfl⟩ := s2 H
    go_wp2
    go_ret2
    exact ⟨er, bb⟩
   ·
    replace H := bd H
    obtain ⟨⟨t284, t285⟩, A12, H⟩ := H
    (try dsimp only at H)
    replace H := bd H; obtain ⟨t286, A13, H⟩ := H; replace H := sb H
    rcases H with ⟨rfl, H⟩ | ⟨rfl, H⟩
    ·
     obtain ⟨rfl, rfl⟩ := s2 H
     have z15 := cz3 BK282.out
     go_wp2_with (first | (refine gB Tryz.func47 (impl_GetField.calls (cu (Kd.C_below HR0_2.out HB.out)) HC0_2.out A12.out) ?_; intro w16 hb; replace BK282 := kb BK282 hb; replace HB := bz HB hb; clear hb) | (refine gA Tryz.func96 (impl_isBoundary.calls A13.out) ?_; intro nd))
     go_ret2
     exact ⟨er, bb⟩
    ·
     obtain ⟨rfl, rfl⟩ := s2 H
     have z17 := cz3 BK282.out
     go_wp2_with (first | (refine gB Tryz.func47 (impl_GetField.calls (cu (Kd.C_below HR0_2.out HB.out)) HC0_2.out A12.out) ?_; intro w18 hb; replace BK282 := kb BK282 hb; replace HB := bz HB hb; clear hb) | (refine gA Tryz.func96 (impl_isBoundary.calls A13.out) ?_; intro nd))
     go_ret2
     exact ⟨er, bb⟩
def impl_Part_boundary.f (k : Nat) (l0_0 : List (S69)) (l0_1 : List ByteArray) (l0_2 : List (S28)) : Option (ByteArray × Bool) := (impl_GetField.f k l0_0 (⟨#[67, 111, 110, 116, 101, 110, 116, 45, 84, 121, 112, 101]⟩ : ByteArray)).bind fun bt288 => ((impl_ParseKind.f k bt288.1).bind fun bt290 => (if bt290.2.2.2 = true then ((impl_BoundaryOf.f k bt290.1 bt290.2.1 bt290.2.2.1).bind fun bt297 => (some (bt297.1, bt297.2))) else (some ((⟨#[]⟩ : ByteArray), false))))
theorem impl_Part_boundary.calls {k c0_0 c0_1 c0_2 : Nat} {A0_0 A0_1 A0_2 : Option Addr} {l0_0 : List (S69)} {l0_1 : List ByteArray} {l0_2 : List (S28)} {r1 : ByteArray} {r2 : Bool} {w : World} (hr0_0 : Kd.C k69 w A0_0 l0_0.length l0_0) (hc0_0 : l0_0.length ≤ c0_0) (hr0_1 : Kd.C Kd.string w A0_1 l0_1.length l0_1) (hc0_1 : l0_1.length ≤ c0_1) (hr0_2 : Kd.C k28 w A0_2 l0_2.length l0_2) (hc0_2 : l0_2.length ≤ c0_2) (hg_ : MaxOk w) (h : impl_Part_boundary.f k l0_0 l0_1 l0_2 = some (r1, r2)) :
  Calls Tryz.prog 101 #[.agg #[.slice A0_0 l0_0.length c0_0, .slice A0_1 l0_1.length c0_1, .slice A0_2 l0_2.length c0_2]] w fun e w' => e = .returned (.tuple #[.string r1, .bool r2]) ∧ Below w.heap.size w w' := by
 have hu28 := Tryz.underlying28
 have hu61 := Tryz.underlying61
 have HR0_0 := ak hr0_0
 have HC0_0 := ak hc0_0
 clear hr0_0 hc0_0
 have HR0_1 := ak hr0_1
 have HC0_1 := ak hc0_1
 clear hr0_1 hc0_1
 have HR0_2 := ak hr0_2
 have HC0_2 := ak hc0_2
 clear hr0_2 hc0_2
 have HG := ak hg_
 clear hg_
 have HB := ak (Below.refl w.heap.size w)
 have H : ((impl_GetField.f k l0_0 (⟨#[67, 111, 110, 116, 101, 110, 116, 45, 84, 121, 112, 101]⟩ : ByteArray)).bind fun bt288 => ((impl_ParseKind.f k bt288.1).bind fun bt290 => (if bt290.2.2.2 = true then ((impl_BoundaryOf.f k bt290.1 bt290.2.1 bt290.2.2.1).bind fun bt297 => (some (bt297.1, bt297.2))) else (some ((⟨#[]⟩ : ByteArray), false))))) = some (r1, r2) := h
 clear h
 replace H := bd H
 obtain ⟨⟨t288, t289⟩, A2, H⟩ := H
 (try dsimp only at H)
 replace H := bd H
 obtain ⟨⟨t290, t291, t292, t295⟩, A3, H⟩ := H
 (try dsimp only at H)
 replace H := sb H
 rcases H with ⟨rfl, H⟩ | ⟨rfl, H⟩
 ·
  replace H := bd H
  obtain ⟨⟨t297, t298⟩, A5, H⟩ := H
  (try dsimp only at H)
  obtain ⟨rfl, rfl⟩ := s2 H
  go_enter Tryz.func101, Tryz.ntmps101
  go_wp2_with (first | (refine bX HB 1 #[.slice A0_0 l0_0.length c0_0, .slice A0_1 l0_1.length c0_1, .slice A0_2 l0_2.length c0_2] 28 ?_; intro gb287 w6 BK287 GW287 hb; replace HB := bs HB hb; clear hb; have z7 := cz3 BK287.out) | (refine gB Tryz.func47 (impl_GetField.calls (cu (Kd.C_below HR0_0.out HB.out)) HC0_0.out A2.out) ?_; intro w8 hb; replace BK287 := kb BK287 hb; replace HB := bz HB hb; clear hb) | (refine gV Tryz.func48 (impl_ParseKind.calls ?side1 A3.out) ?_; (case side1 => first | exact HG.out | exact MaxOk.below HG.out bb | (repeat (first | exact HG.out | apply MaxOk.drewN | apply MaxOk.drew))); rintro v293 w9 ⟨ho0, hb⟩; have HO294 := ak (Kd.R_lower ho0 (below_size bb)); replace BK287 := kb BK287 hb; replace HB := bz HB hb; clear hb; (try clear ho0)) | (refine bY HB 6 #[.string (⟨#[]⟩ : ByteArray), .string (⟨#[]⟩ : ByteArray), .slice none 0 0] 61 ?_; intro gb296 w10 BK296 GW296 hg hb; have NB287_296 := nl_ BK287 hg; have NB296_287 := ng_ BK287 hg; replace HO294 := rb HO294 hb; replace BK287 := kb BK287 hb; replace HB := bz HB hb; clear hb hg; have hnb11 := NB296_287.out; have hnc11 := NB287_296.out; have z12 := cz3 BK296.out; obtain ⟨Ao13, co13, eo13⟩ := Kd.R_slice HO294.out; subst eo13) | (refine gB Tryz.func49 (impl_BoundaryOf.calls ?side1 ((Kd.R_reads' HO294.out).2.1) A5.out) ?_; (case side1 => refine (Kd.R_reads' (e := 69) (base := w.heap.size) (ok := fun k_ => True) (n := t292.length) (c := co13) ?_).2.2; exact (rh HO294)); intro w14 hb; replace HO294 := rg HO294 hb; replace BK287 := kp BK287 #[.slice A0_0 l0_0.length c0_0, .slice A0_1 l0_1.length c0_1, .slice A0_2 l0_2.length c0_2] hb; replace BK296 := kp BK296 #[.string t290, .string t291, .slice Ao13 t292.length co13] hb; replace HB := bz HB hb; clear hb))
  go_ret2
  exact ⟨er, bb⟩
 ·
  obtain ⟨rfl, rfl⟩ := s2 H
  go_enter Tryz.func101, Tryz.ntmps101
  go_wp2_with (first | (refine bX HB 1 #[.slice A0_0 l0_0.length c0_0, .slice A0_1 l0_1.length c0_1, .slice A0_2 l0_2.length c0_2] 28 ?_; intro gb287 w15 BK287 GW287 hb; replace HB := bs HB hb; clear hb; have z16 := cz3 BK287.out) | (refine gB Tryz.func47 (impl_GetField.calls (cu (Kd.C_below HR0_0.out HB.out)) HC0_0.out A2.out) ?_; intro w17 hb; replace BK287 := kb BK287 hb; replace HB := bz HB hb; clear hb) | (refine gV Tryz.func48 (impl_ParseKind.calls ?side1 A3.out) ?_; (case side1 => first | exact HG.out | exact MaxOk.below HG.out bb | (repeat (first | exact HG.out | apply MaxOk.drewN | apply MaxOk.drew))); rintro v293 w18 ⟨ho0, hb⟩; have HO294 := ak (Kd.R_lower ho0 (below_size bb)); replace BK287 := kb BK287 hb; replace HB := bz HB hb; clear hb; (try clear ho0)) | (refine bY HB 6 #[.string (⟨#[]⟩ : ByteArray), .string (⟨#[]⟩ : ByteArray), .slice none 0 0] 61 ?_; intro gb296 w19 BK296 GW296 hg hb; have NB287_296 := nl_ BK287 hg; have NB296_287 := ng_ BK287 hg; replace HO294 := rb HO294 hb; replace BK287 := kb BK287 hb; replace HB := bz HB hb; clear hb hg; have hnb20 := NB296_287.out; have hnc20 := NB287_296.out; have z21 := cz3 BK296.out; obtain ⟨Ao22, co22, eo22⟩ := Kd.R_slice HO294.out; subst eo22))
  go_ret2
  exact ⟨er, bb⟩
def impl_areTexts_1.f (k : Nat) (a0 : ByteArray) : Option (Bool) := (impl_TextValid.f k a0).bind fun t299 => (some (!t299))
theorem impl_areTexts_1.calls {k : Nat} {a0 : ByteArray} {r : Bool} {w : World} (h : impl_areTexts_1.f k a0 = some r) :
  Calls Tryz.prog 149 #[.string a0] w fun e w' => e = .returned (.bool r) ∧ Drawn0 w w' := by
 have H : ((impl_TextValid.f k a0).bind fun t299 => (some (!t299))) = some r := h
 clear h
 replace H := bd H; obtain ⟨t299, A2, H⟩ := H
 obtain rfl := s1 H
 go_enter Tryz.func149, Tryz.ntmps149
 go_wp2_with (refine gA Tryz.func89 (impl_TextValid.calls A2.out) ?_; intro nd)
 go_ret
 exact ⟨rs, dn⟩
def slices_IndexFunc_string_string_areTexts_1.l0 : Nat → List ByteArray → Int → Int → Option (Int)
 | 0, _, _, _ => none
 | k + 1, x0, x7, x8 => if x8 < x7 then (if 0 ≤ x8 then (if x8 < (x0.length : Int) then ((impl_areTexts_1.f k (rdOf ByteArray.empty x0 x8)).bind fun t301 => (if t301 = true then (some x8) else (slices_IndexFunc_string_string_areTexts_1.l0 k x0 x7 (wrap64 (x8 + 1))))) else (none)) else (none)) else (some (-1))
def slices_IndexFunc_string_string_areTexts_1.f (k : Nat) (l0 : List ByteArray)  : Option (Int) := slices_IndexFunc_string_string_areTexts_1.l0 k l0 (l0.length : Int) 0
theorem slices_IndexFunc_string_string_areTexts_1.calls {k c0 : Nat} {A0 : Option Addr} {l0 : List ByteArray} {r : Int} {w : World} (hr0 : Kd.C Kd.string w A0 l0.length l0) (hc0 : l0.length ≤ c0) (h : slices_IndexFunc_string_string_areTexts_1.f k l0 = some r) :
  Calls Tryz.prog 173 #[.slice A0 l0.length c0, .func (.func 149) #[] #[]] w fun e w' => e = .returned (.int .i64 r) ∧ Drawn0 w w' := by
 have HR0 := ak hr0
 have HC0 := ak hc0
 clear hr0 hc0
 have H : (slices_IndexFunc_string_string_areTexts_1.l0 k l0 (l0.length : Int) 0) = some r := h
 clear h
 have H' := ak H; clear H
 go_enter Tryz.func173, Tryz.ntmps173
 go_wp2
 go_loopg [8] k (fun kq v8 w' => ∃ (x8_1 : Int), v8 = .int .i64 x8_1 ∧ Aside0 (slices_IndexFunc_string_string_areTexts_1.l0 kq l0 (l0.length : Int) x8_1 = some r) ∧ Aside0 (kq ≤ k) ∧ Drawn0 w w')
 case atStart => exact ⟨_, rs, H', ⟨Nat.le_refl _⟩, dn⟩
 case round =>
  clear H'
  obtain ⟨x8_1, rfl, HA, HK1, ⟨m1, rfl⟩⟩ := hrel
  cases gk with
  | zero => exact zz HA.out
  | succ k1 =>
   obtain ⟨H⟩ := HA
   simp only [slices_IndexFunc_string_string_areTexts_1.l0] at H
   replace H := sd H
   rcases H with ⟨c3b0, H⟩ | ⟨c3b0, H⟩
   ·
    replace H := nde H; obtain ⟨c4b0, H⟩ := H; replace H := nde H; obtain ⟨c5b0, H⟩ := H; replace H := bd H; obtain ⟨t301, A6, H⟩ := H; replace H := sb H
    rcases H with ⟨rfl, H⟩ | ⟨rfl, H⟩
    ·
     obtain rfl := s1 H
     have p300 := zi x8_1
     have q300 := zj x8_1 l0.length
     obtain ⟨ad300, e300, hx300_0⟩ := Kd.at_string HR0.out x8_1 p300 q300
     cases e300
     replace p300 := eq_true p300
     replace q300 := eq_true q300
     go_wp2_with (go_at_call 149; refine mA (impl_areTexts_1.calls A6.out) ?_; intro nd)
     go_ret
     exact ⟨rs, dn⟩
    ·
     have H' := ak H; clear H
     have p300 := zi x8_1
     have q300 := zj x8_1 l0.length
     obtain ⟨ad300, e300, hx300_0⟩ := Kd.at_string HR0.out x8_1 p300 q300
     cases e300
     replace p300 := eq_true p300
     replace q300 := eq_true q300
     go_wp2_with (go_at_call 149; refine mA (impl_areTexts_1.calls A6.out) ?_; intro nd)
     go_roundg k1
     case measure => exact kl
     case rel => exact ⟨_, rs, H', ⟨kl⟩, dn⟩
   ·
    obtain rfl := s1 H
    go_wp2
    go_ret
    exact ⟨rs, dn⟩
def slices_ContainsFunc_string_string_areTexts_1.f (k : Nat) (l0 : List ByteArray)  : Option (Bool) := (slices_IndexFunc_string_string_areTexts_1.f k l0).bind fun t302 => (some (decide (t302 ≥ 0)))
theorem slices_ContainsFunc_string_string_areTexts_1.calls {k c0 : Nat} {A0 : Option Addr} {l0 : List ByteArray} {r : Bool} {w : World} (hr0 : Kd.C Kd.string w A0 l0.length l0) (hc0 : l0.length ≤ c0) (h : slices_ContainsFunc_string_string_areTexts_1.f k l0 = some r) :
  Calls Tryz.prog 148 #[.slice A0 l0.length c0, .func (.func 149) #[] #[]] w fun e w' => e = .returned (.bool r) ∧ Drawn0 w w' := by
 have HR0 := ak hr0
 have HC0 := ak hc0
 clear hr0 hc0
 have H : ((slices_IndexFunc_string_string_areTexts_1.f k l0).bind fun t302 => (some (decide (t302 ≥ 0)))) = some r := h
 clear h
 replace H := bd H; obtain ⟨t302, A3, H⟩ := H
 obtain rfl := s1 H
 go_enter Tryz.func148, Tryz.ntmps148
 go_wp2_with (refine gA Tryz.func173 (slices_IndexFunc_string_string_areTexts_1.calls (cu HR0.out) HC0.out A3.out) ?_; intro nd)
 go_ret
 exact ⟨rs, dn⟩
def impl_areTexts.f (k : Nat) (l0 : List ByteArray) (a1 : Int) : Option (Bool) := if (l0.length : Int) ≤ a1 then ((slices_ContainsFunc_string_string_areTexts_1.f k l0).bind fun t303 => (some (!t303))) else (some false)
theorem impl_areTexts.calls {k c0 : Nat} {A0 : Option Addr} {l0 : List ByteArray} {a1 : Int} {r : Bool} {w : World} (hr0 : Kd.C Kd.string w A0 l0.length l0) (hc0 : l0.length ≤ c0) (h : impl_areTexts.f k l0 a1 = some r) :
  Calls Tryz.prog 105 #[.slice A0 l0.length c0, .int .i64 a1] w fun e w' => e = .returned (.bool r) ∧ Drawn0 w w' := by
 have HR0 := ak hr0
 have HC0 := ak hc0
 clear hr0 hc0
 have H : (if (l0.length : Int) ≤ a1 then ((slices_ContainsFunc_string_string_areTexts_1.f k l0).bind fun t303 => (some (!t303))) else (some false)) = some r := h
 clear h
 replace H := sd H
 rcases H with ⟨c3b0, H⟩ | ⟨c3b0, H⟩
 ·
  replace H := bd H; obtain ⟨t303, A4, H⟩ := H
  obtain rfl := s1 H
  go_enter Tryz.func105, Tryz.ntmps105
  go_wp2_with (go_at_call 148; refine mA (slices_ContainsFunc_string_string_areTexts_1.calls (cu HR0.out) HC0.out A4.out) ?_; intro nd)
  go_ret
  exact ⟨rs, dn⟩
 ·
  obtain rfl := s1 H
  go_enter Tryz.func105, Tryz.ntmps105
  go_wp2
  go_ret
  exact ⟨rs, dn⟩
def slices_Index_string_string.l0 : Nat → List ByteArray → ByteArray → Int → Int → Option (Int)
 | 0, _, _, _, _ => none
 | k + 1, x0, x1, x7, x8 => if x8 < x7 then (if 0 ≤ x8 then (if x8 < (x0.length : Int) then (if x1.toList = (rdOf ByteArray.empty x0 x8).toList then (some x8) else (slices_Index_string_string.l0 k x0 x1 x7 (wrap64 (x8 + 1)))) else (none)) else (none)) else (some (-1))
def slices_Index_string_string.f (k : Nat) (l0 : List ByteArray) (a1 : ByteArray) : Option (Int) := slices_Index_string_string.l0 k l0 a1 (l0.length : Int) 0
theorem slices_Index_string_string.calls {k c0 : Nat} {A0 : Option Addr} {l0 : List ByteArray} {a1 : ByteArray} {r : Int} {w : World} (hr0 : Kd.C Kd.string w A0 l0.length l0) (hc0 : l0.length ≤ c0) (h : slices_Index_string_string.f k l0 a1 = some r) :
  Calls Tryz.prog 99 #[.slice A0 l0.length c0, .string a1] w fun e w' => e = .returned (.int .i64 r) ∧ Drawn0 w w' := by
 have HR0 := ak hr0
 have HC0 := ak hc0
 clear hr0 hc0
 have H : (slices_Index_string_string.l0 k l0 a1 (l0.length : Int) 0) = some r := h
 clear h
 have H' := ak H; clear H
 go_enter Tryz.func99, Tryz.ntmps99
 go_wp2
 go_loopg [8] k (fun kq v8 w' => ∃ (x8_1 : Int), v8 = .int .i64 x8_1 ∧ Aside0 (slices_Index_string_string.l0 kq l0 a1 (l0.length : Int) x8_1 = some r) ∧ Aside0 (kq ≤ k) ∧ Drawn0 w w')
 case atStart => exact ⟨_, rs, H', ⟨Nat.le_refl _⟩, dn⟩
 case round =>
  clear H'
  obtain ⟨x8_1, rfl, HA, HK1, ⟨m1, rfl⟩⟩ := hrel
  cases gk with
  | zero => exact zz HA.out
  | succ k1 =>
   obtain ⟨H⟩ := HA
   simp only [slices_Index_string_string.l0] at H
   replace H := sd H
   rcases H with ⟨c3b0, H⟩ | ⟨c3b0, H⟩
   ·
    replace H := nde H; obtain ⟨c4b0, H⟩ := H; replace H := nde H; obtain ⟨c5b0, H⟩ := H; replace H := sq H
    rcases H with ⟨c6b0, c6b1, H⟩ | ⟨c6, c6b0, c6b1, H⟩
    ·
     obtain rfl := s1 H
     have p304 := zi x8_1
     have q304 := zj x8_1 l0.length
     obtain ⟨ad304, e304, hx304_0⟩ := Kd.at_string HR0.out x8_1 p304 q304
     cases e304
     replace p304 := eq_true p304
     replace q304 := eq_true q304
     go_wp2
     go_ret
     exact ⟨rs, dn⟩
    ·
     have H' := ak H; clear H
     have p304 := zi x8_1
     have q304 := zj x8_1 l0.length
     obtain ⟨ad304, e304, hx304_0⟩ := Kd.at_string HR0.out x8_1 p304 q304
     cases e304
     replace p304 := eq_true p304
     replace q304 := eq_true q304
     go_wp2
     go_roundg k1
     case measure => exact kl
     case rel => exact ⟨_, rs, H', ⟨kl⟩, dn⟩
   ·
    obtain rfl := s1 H
    go_wp2
    go_ret
    exact ⟨rs, dn⟩
def slices_Contains_string_string.f (k : Nat) (l0 : List ByteArray) (a1 : ByteArray) : Option (Bool) := (slices_Index_string_string.f k l0 a1).bind fun t305 => (some (decide (t305 ≥ 0)))
theorem slices_Contains_string_string.calls {k c0 : Nat} {A0 : Option Addr} {l0 : List ByteArray} {a1 : ByteArray} {r : Bool} {w : World} (hr0 : Kd.C Kd.string w A0 l0.length l0) (hc0 : l0.length ≤ c0) (h : slices_Contains_string_string.f k l0 a1 = some r) :
  Calls Tryz.prog 175 #[.slice A0 l0.length c0, .string a1] w fun e w' => e = .returned (.bool r) ∧ Drawn0 w w' := by
 have HR0 := ak hr0
 have HC0 := ak hc0
 clear hr0 hc0
 have H : ((slices_Index_string_string.f k l0 a1).bind fun t305 => (some (decide (t305 ≥ 0)))) = some r := h
 clear h
 replace H := bd H; obtain ⟨t305, A3, H⟩ := H
 obtain rfl := s1 H
 go_enter Tryz.func175, Tryz.ntmps175
 go_wp2_with (refine gA Tryz.func99 (slices_Index_string_string.calls (cu HR0.out) HC0.out A3.out) ?_; intro nd)
 go_ret
 exact ⟨rs, dn⟩
def impl_divides.f (k : Nat) (l0 : List ByteArray) (a1 : ByteArray) : Option (Bool) := if 2 + a1.size ≤ 9223372036854775807 then ((slices_Contains_string_string.f k l0 ((⟨#[45, 45]⟩ : ByteArray) ++ a1)).bind fun t306 => (if t306 = true then (some true) else (if ((⟨#[45, 45]⟩ : ByteArray) ++ a1).size + 2 ≤ 9223372036854775807 then ((slices_Contains_string_string.f k l0 (((⟨#[45, 45]⟩ : ByteArray) ++ a1) ++ (⟨#[45, 45]⟩ : ByteArray))).bind fun t307 => (some t307)) else (none)))) else (none)
theorem impl_divides.calls {k c0 : Nat} {A0 : Option Addr} {l0 : List ByteArray} {a1 : ByteArray} {r : Bool} {w : World} (hr0 : Kd.C Kd.string w A0 l0.length l0) (hc0 : l0.length ≤ c0) (h : impl_divides.f k l0 a1 = some r) :
  Calls Tryz.prog 152 #[.slice A0 l0.length c0, .string a1] w fun e w' => e = .returned (.bool r) ∧ Drawn0 w w' := by
 have HR0 := ak hr0
 have HC0 := ak hc0
 clear hr0 hc0
 have H : (if 2 + a1.size ≤ 9223372036854775807 then ((slices_Contains_string_string.f k l0 ((⟨#[45, 45]⟩ : ByteArray) ++ a1)).bind fun t306 => (if t306 = true then (some true) else (if ((⟨#[45, 45]⟩ : ByteArray) ++ a1).size + 2 ≤ 9223372036854775807 then ((slices_Contains_string_string.f k l0 (((⟨#[45, 45]⟩ : ByteArray) ++ a1) ++ (⟨#[45, 45]⟩ : ByteArray))).bind fun t307 => (some t307)) else (none)))) else (none)) = some r := h
 clear h
 replace H := nn H; obtain ⟨c3, H⟩ := H
 have c3b0 := eq_true c3
 have c3b1 := decide_eq_true c3
 try have c3b2 : (9223372036854775807 < 2 + a1.size) = False := eq_false (Nat.not_lt.2 c3)
 replace H := bd H; obtain ⟨t306, A4, H⟩ := H; replace H := sb H
 rcases H with ⟨rfl, H⟩ | ⟨rfl, H⟩
 ·
  obtain rfl := s1 H
  go_enter Tryz.func152, Tryz.ntmps152
  go_wp2_with (refine gA Tryz.func175 (slices_Contains_string_string.calls (cu HR0.out) HC0.out A4.out) ?_; intro nd)
  go_ret
  exact ⟨rs, dn⟩
 ·
  replace H := nn H; obtain ⟨c6, H⟩ := H
  have c6b0 := eq_true c6
  have c6b1 := decide_eq_true c6
  try have c6b3 : (9223372036854775807 < 2 + a1.size + 2) = False := by have h_ := (eq_false (Nat.not_lt.2 c6) : (9223372036854775807 < ((⟨#[45, 45]⟩ : ByteArray) ++ a1).size + 2) = False); simp only [ByteArray.size_append] at h_; exact h_
  try have c6b2 : (9223372036854775807 < ((⟨#[45, 45]⟩ : ByteArray) ++ a1).size + 2) = False := eq_false (Nat.not_lt.2 c6)
  replace H := bd H; obtain ⟨t307, A7, H⟩ := H
  obtain rfl := s1 H
  go_enter Tryz.func152, Tryz.ntmps152
  go_wp2_with (first | (refine gA Tryz.func175 (slices_Contains_string_string.calls (cu HR0.out) HC0.out A4.out) ?_; intro nd) | (go_at_call 175; refine mA (slices_Contains_string_string.calls (cu HR0.out) HC0.out A7.out) ?_; intro nd))
  go_ret
  exact ⟨rs, dn⟩
def impl_JoinParts_1.f (k : Nat) (l0 : List ByteArray) (a1 : ByteArray) : Option (Bool) := (impl_divides.f k l0 a1).bind fun t308 => (some t308)
theorem impl_JoinParts_1.calls {k c0 gq1 : Nat} {A0 : Option Addr} {l0 : List ByteArray} {a1 : ByteArray} {r : Bool} {w : World} (hr0 : Kd.C Kd.string w A0 l0.length l0) (hc0 : l0.length ≤ c0) (hq1 : w.heap[gq1]? = some (.cells #[.string a1] 9 (0, 0))) (h : impl_JoinParts_1.f k l0 a1 = some r) :
  Calls Tryz.prog 151 #[.slice A0 l0.length c0, .pointer (some ⟨gq1, 0, none⟩)] w fun e w' => e = .returned (.bool r) ∧ Below w.heap.size w w' := by
 have HR0 := ak hr0
 have HC0 := ak hc0
 clear hr0 hc0
 have BK46 := ak hq1
 clear hq1
 have HB := ak (Below.refl w.heap.size w)
 have H : ((impl_divides.f k l0 a1).bind fun t308 => (some t308)) = some r := h
 clear h
 replace H := bd H; obtain ⟨t308, A3, H⟩ := H
 obtain rfl := s1 H
 have hcz4_0 : w.cell? ⟨gq1, 0, none⟩ = some (.string a1) := (blk_cell BK46.out 0).trans rfl
 have hfz4_0 := blk_frozen BK46.out 0
 go_enter Tryz.func151, Tryz.ntmps151
 go_wp2_with (refine gA Tryz.func152 (impl_divides.calls (cu HR0.out) HC0.out A3.out) ?_; intro nd)
 go_ret
 exact ⟨er, bb⟩
def slices_IndexFunc_string_string_JoinParts_1.l0 : Nat → List (List ByteArray) → Int → Int → ByteArray → Option (Int)
 | 0, _, _, _, _ => none
 | k + 1, x0, x7, x8, x47000 => if x8 < x7 then (if 0 ≤ x8 then (if x8 < (x0.length : Int) then ((impl_JoinParts_1.f k (rd_L3 x0 x8) x47000).bind fun t310 => (if t310 = true then (some x8) else (slices_IndexFunc_string_string_JoinParts_1.l0 k x0 x7 (wrap64 (x8 + 1)) x47000))) else (none)) else (none)) else (some (-1))
def slices_IndexFunc_string_string_JoinParts_1.f (k : Nat) (l0 : List (List ByteArray)) (a1_0 : ByteArray) : Option (Int) := slices_IndexFunc_string_string_JoinParts_1.l0 k l0 (l0.length : Int) 0 a1_0
theorem slices_IndexFunc_string_string_JoinParts_1.calls {k c0 gq1_0 : Nat} {A0 : Option Addr} {l0 : List (List ByteArray)} {a1_0 : ByteArray} {r : Int} {w : World} (hr0 : Kd.C (Kd.slice 9 Kd.string) w A0 l0.length l0) (hc0 : l0.length ≤ c0) (hq1_0 : w.heap[gq1_0]? = some (.cells #[.string a1_0] 9 (0, 0))) (h : slices_IndexFunc_string_string_JoinParts_1.f k l0 a1_0 = some r) :
  Calls Tryz.prog 174 #[.slice A0 l0.length c0, .func (.func 151) #[] #[.pointer (some ⟨gq1_0, 0, none⟩)]] w fun e w' => e = .returned (.int .i64 r) ∧ Below w.heap.size w w' := by
 have HR0 := ak hr0
 have HC0 := ak hc0
 clear hr0 hc0
 have BK46 := ak hq1_0
 clear hq1_0
 have HB := ak (Below.refl w.heap.size w)
 have H : (slices_IndexFunc_string_string_JoinParts_1.l0 k l0 (l0.length : Int) 0 a1_0) = some r := h
 clear h
 have H' := ak H; clear H
 go_enter Tryz.func174, Tryz.ntmps174
 go_wp2
 go_loopg [8] k (fun kq v8 w' => ∃ (x8_1 : Int), v8 = .int .i64 x8_1 ∧ Aside0 (slices_IndexFunc_string_string_JoinParts_1.l0 kq l0 (l0.length : Int) x8_1 a1_0 = some r) ∧ Aside0 (kq ≤ k) ∧ Aside0 (w'.heap[gq1_0]? = some (.cells #[.string a1_0] 9 (0, 0))) ∧ Aside0 (Below w.heap.size w w'))
 case atStart => exact ⟨_, rs, H', ⟨Nat.le_refl _⟩, ⟨ub BK46.out⟩, ⟨bb⟩⟩
 case round =>
  clear H'
  obtain ⟨x8_1, rfl, HA, HK1, BK46, HB⟩ := hrel
  cases gk with
  | zero => exact zz HA.out
  | succ k1 =>
   obtain ⟨H⟩ := HA
   simp only [slices_IndexFunc_string_string_JoinParts_1.l0] at H
   replace H := sd H
   rcases H with ⟨c3b0, H⟩ | ⟨c3b0, H⟩
   ·
    replace H := nde H; obtain ⟨c4b0, H⟩ := H; replace H := nde H; obtain ⟨c5b0, H⟩ := H; replace H := bd H; obtain ⟨t310, A6, H⟩ := H; replace H := sb H
    rcases H with ⟨rfl, H⟩ | ⟨rfl, H⟩
    ·
     obtain rfl := s1 H
     have p309 := zi x8_1
     have q309 := zj x8_1 l0.length
     obtain ⟨ad309, A309_0, c309_0, e309, hx309_0, hl309_0, hi309_0⟩ := at_L3 HR0.out x8_1 p309 q309
     cases e309
     replace hx309_0 := cl HB.out hx309_0
     have HR309_0 := ak hi309_0
     have HC309_0 := ak hl309_0
     clear hi309_0 hl309_0
     replace p309 := eq_true p309
     replace q309 := eq_true q309
     go_wp2_with (go_at_call 151; refine mB (impl_JoinParts_1.calls (cu (Kd.C_below HR309_0.out HB.out)) HC309_0.out (ub BK46.out) A6.out) ?_; intro w8 hb; replace BK46 := kb BK46 hb; replace HB := bz HB hb; clear hb)
     go_ret
     exact ⟨er, bb⟩
    ·
     have H' := ak H; clear H
     have p309 := zi x8_1
     have q309 := zj x8_1 l0.length
     obtain ⟨ad309, A309_0, c309_0, e309, hx309_0, hl309_0, hi309_0⟩ := at_L3 HR0.out x8_1 p309 q309
     cases e309
     replace hx309_0 := cl HB.out hx309_0
     have HR309_0 := ak hi309_0
     have HC309_0 := ak hl309_0
     clear hi309_0 hl309_0
     replace p309 := eq_true p309
     replace q309 := eq_true q309
     go_wp2_with (go_at_call 151; refine mB (impl_JoinParts_1.calls (cu (Kd.C_below HR309_0.out HB.out)) HC309_0.out (ub BK46.out) A6.out) ?_; intro w9 hb; replace BK46 := kb BK46 hb; replace HB := bz HB hb; clear hb)
     go_roundg k1
     case measure => exact kl
     case rel => exact ⟨_, rs, H', ⟨kl⟩, ⟨ub BK46.out⟩, ⟨bb⟩⟩
   ·
    obtain rfl := s1 H
    go_wp2
    go_ret
    exact ⟨er, bb⟩
def slices_ContainsFunc_string_string_JoinParts_1.f (k : Nat) (l0 : List (List ByteArray)) (a1_0 : ByteArray) : Option (Bool) := (slices_IndexFunc_string_string_JoinParts_1.f k l0 a1_0).bind fun t311 => (some (decide (t311 ≥ 0)))
theorem slices_ContainsFunc_string_string_JoinParts_1.calls {k c0 gq1_0 : Nat} {A0 : Option Addr} {l0 : List (List ByteArray)} {a1_0 : ByteArray} {r : Bool} {w : World} (hr0 : Kd.C (Kd.slice 9 Kd.string) w A0 l0.length l0) (hc0 : l0.length ≤ c0) (hq1_0 : w.heap[gq1_0]? = some (.cells #[.string a1_0] 9 (0, 0))) (h : slices_ContainsFunc_string_string_JoinParts_1.f k l0 a1_0 = some r) :
  Calls Tryz.prog 150 #[.slice A0 l0.length c0, .func (.func 151) #[] #[.pointer (some ⟨gq1_0, 0, none⟩)]] w fun e w' => e = .returned (.bool r) ∧ Below w.heap.size w w' := by
 have HR0 := ak hr0
 have HC0 := ak hc0
 clear hr0 hc0
 have BK46 := ak hq1_0
 clear hq1_0
 have HB := ak (Below.refl w.heap.size w)
 have H : ((slices_IndexFunc_string_string_JoinParts_1.f k l0 a1_0).bind fun t311 => (some (decide (t311 ≥ 0)))) = some r := h
 clear h
 replace H := bd H; obtain ⟨t311, A3, H⟩ := H
 obtain rfl := s1 H
 go_enter Tryz.func150, Tryz.ntmps150
 go_wp2_with (refine gB Tryz.func174 (slices_IndexFunc_string_string_JoinParts_1.calls (cu HR0.out) HC0.out (ub BK46.out) A3.out) ?_; intro w4 hb; replace BK46 := kb BK46 hb; replace HB := bz HB hb; clear hb)
 go_ret
 exact ⟨er, bb⟩
end Go.Proofs.YtncdadcmghglkaaGreatDoor.PFnPartSame
