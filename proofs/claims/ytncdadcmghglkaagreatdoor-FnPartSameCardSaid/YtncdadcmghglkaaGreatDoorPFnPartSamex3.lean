/- Printed walks; conditions: those in each statement. -/
import Derived.Test.YtncdadcmghglkaaGreatDoorVFnPartSameQt
import Derived.Test.YtncdadcmghglkaaGreatDoorVFnPartSameYt
import Derived.Test.YtncdadcmghglkaaGreatDoorPFnPartSamex0
import Derived.Test.YtncdadcmghglkaaGreatDoorPFnPartSamex2
-- fixed
-- short
-- dense
-- sq
-- sq2
namespace Go.Proofs.YtncdadcmghglkaaGreatDoor.PFnPartSame
open Go.RowKit Go.Proofs.YtncdadcmghglkaaGreatDoor.X Go.Proofs.YtncdadcmghglkaaGreatDoorW.PrintWords Go.Proofs.YtncdadcmghglkaaGreatDoorW.PrintLast Go.Proofs.YtncdadcmghglkaaGreatDoorW.PrintMore
attribute [local go_sem] max2_int min2_int max_two min_two max_three min_three max_four min_four   -- for this text's walks alone
set_option linter.unusedVariables false
set_option maxHeartbeats 8000000
set_option maxRecDepth 100000
set_option linter.unusedSimpArgs false
def impl_fieldsValid_1.f (k : Nat) (a0_0 : ByteArray) (a0_1 : ByteArray) : Option (Bool) := (impl_FieldValid.f k a0_0 a0_1).bind fun t120 => (some (!t120))
theorem impl_fieldsValid_1.calls {k : Nat} {a0_0 a0_1 : ByteArray} {r : Bool} {w : World} (h : impl_fieldsValid_1.f k a0_0 a0_1 = some r) :
  Calls Tryz.prog 119 #[.agg #[.string a0_0, .string a0_1]] w fun e w' => e = .returned (.bool r) ∧ Below w.heap.size w w' := by
 have hu69 := Tryz.underlying69
 have HB := ak (Below.refl w.heap.size w)
 have H : ((impl_FieldValid.f k a0_0 a0_1).bind fun t120 => (some (!t120))) = some r := h
 clear h
 replace H := bd H; obtain ⟨t120, A2, H⟩ := H
 obtain rfl := s1 H
 go_enter Tryz.func119, Tryz.ntmps119
 go_wp2_with (first | (refine bX HB 1 #[.string a0_0, .string a0_1] 69 ?_; intro gb119 w3 BK119 GW119 hb; replace HB := bs HB hb; clear hb; have z4 := cz2 BK119.out) | (refine gB Tryz.func120 (impl_FieldValid.calls A2.out) ?_; intro w5 hb; replace BK119 := kb BK119 hb; replace HB := bz HB hb; clear hb))
 go_ret
 exact ⟨er, bb⟩
def impl_Field_fieldsValid_1_254.l0 : Nat → List (S69) → Int → Int → Option (Int)
 | 0, _, _, _ => none
 | k + 1, x0, x7, x8 => if x8 < x7 then (if 0 ≤ x8 then (if x8 < (x0.length : Int) then ((impl_fieldsValid_1.f k ((rd_T69 x0 x8).f0) ((rd_T69 x0 x8).f1)).bind fun t122 => (if t122 = true then (some x8) else (impl_Field_fieldsValid_1_254.l0 k x0 x7 (wrap64 (x8 + 1))))) else (none)) else (none)) else (some (-1))
def impl_Field_fieldsValid_1_254.f (k : Nat) (l0 : List (S69))  : Option (Int) := impl_Field_fieldsValid_1_254.l0 k l0 (l0.length : Int) 0
theorem impl_Field_fieldsValid_1_254.calls {k c0 : Nat} {A0 : Option Addr} {l0 : List (S69)} {r : Int} {w : World} (hr0 : Kd.C k69 w A0 l0.length l0) (hc0 : l0.length ≤ c0) (h : impl_Field_fieldsValid_1_254.f k l0 = some r) :
  Calls Tryz.prog 122 #[.slice A0 l0.length c0, .func (.func 119) #[] #[]] w fun e w' => e = .returned (.int .i64 r) ∧ Below w.heap.size w w' := by
 have hu69 := Tryz.underlying69
 have HR0 := ak hr0
 have HC0 := ak hc0
 clear hr0 hc0
 have HB := ak (Below.refl w.heap.size w)
 have H : (impl_Field_fieldsValid_1_254.l0 k l0 (l0.length : Int) 0) = some r := h
 clear h
 have H' := ak H; clear H
 go_enter Tryz.func122, Tryz.ntmps122
 go_wp2
 go_loopg [8] k (fun kq v8 w' => ∃ (x8_1 : Int), v8 = .int .i64 x8_1 ∧ Aside0 (impl_Field_fieldsValid_1_254.l0 kq l0 (l0.length : Int) x8_1 = some r) ∧ Aside0 (kq ≤ k) ∧ Aside0 (Below w.heap.size w w'))
 case atStart => exact ⟨_, rs, H', ⟨Nat.le_refl _⟩, ⟨ul HB.out⟩⟩
 case round =>
  clear H'
  obtain ⟨x8_1, rfl, HA, HK1, HB⟩ := hrel
  cases gk with
  | zero => exact zz HA.out
  | succ k1 =>
   obtain ⟨H⟩ := HA
   simp only [impl_Field_fieldsValid_1_254.l0] at H
   replace H := sd H
   rcases H with ⟨c3b0, H⟩ | ⟨c3b0, H⟩
   ·
    replace H := nde H; obtain ⟨c4b0, H⟩ := H; replace H := nde H; obtain ⟨c5b0, H⟩ := H; replace H := bd H; obtain ⟨t122, A6, H⟩ := H; replace H := sb H
    rcases H with ⟨rfl, H⟩ | ⟨rfl, H⟩
    ·
     obtain rfl := s1 H
     have p121 := zi x8_1
     have q121 := zj x8_1 l0.length
     obtain ⟨ad121, e121, hx121_0, hx121_1⟩ := at_T69 HR0.out x8_1 p121 q121
     cases e121
     replace hx121_0 := cl HB.out hx121_0
     replace hx121_1 := cl HB.out hx121_1
     replace p121 := eq_true p121
     replace q121 := eq_true q121
     go_wp2_with (go_at_call 119; refine mB (impl_fieldsValid_1.calls A6.out) ?_; intro w8 hb; replace HB := bs HB hb; clear hb)
     go_ret
     exact ⟨er, ul HB.out⟩
    ·
     have H' := ak H; clear H
     have p121 := zi x8_1
     have q121 := zj x8_1 l0.length
     obtain ⟨ad121, e121, hx121_0, hx121_1⟩ := at_T69 HR0.out x8_1 p121 q121
     cases e121
     replace hx121_0 := cl HB.out hx121_0
     replace hx121_1 := cl HB.out hx121_1
     replace p121 := eq_true p121
     replace q121 := eq_true q121
     go_wp2_with (go_at_call 119; refine mB (impl_fieldsValid_1.calls A6.out) ?_; intro w9 hb; replace HB := bs HB hb; clear hb)
     go_roundg k1
     case measure => exact kl
     case rel => exact ⟨_, rs, H', ⟨kl⟩, ⟨ul HB.out⟩⟩
   ·
    obtain rfl := s1 H
    go_wp2
    go_ret
    exact ⟨er, ul HB.out⟩
def impl_Field_fieldsValid_1_253.f (k : Nat) (l0 : List (S69))  : Option (Bool) := (impl_Field_fieldsValid_1_254.f k l0).bind fun t123 => (some (decide (t123 ≥ 0)))
theorem impl_Field_fieldsValid_1_253.calls {k c0 : Nat} {A0 : Option Addr} {l0 : List (S69)} {r : Bool} {w : World} (hr0 : Kd.C k69 w A0 l0.length l0) (hc0 : l0.length ≤ c0) (h : impl_Field_fieldsValid_1_253.f k l0 = some r) :
  Calls Tryz.prog 118 #[.slice A0 l0.length c0, .func (.func 119) #[] #[]] w fun e w' => e = .returned (.bool r) ∧ Below w.heap.size w w' := by
 have HR0 := ak hr0
 have HC0 := ak hc0
 clear hr0 hc0
 have HB := ak (Below.refl w.heap.size w)
 have H : ((impl_Field_fieldsValid_1_254.f k l0).bind fun t123 => (some (decide (t123 ≥ 0)))) = some r := h
 clear h
 replace H := bd H; obtain ⟨t123, A3, H⟩ := H
 obtain rfl := s1 H
 go_enter Tryz.func118, Tryz.ntmps118
 go_wp2_with (refine gB Tryz.func122 (impl_Field_fieldsValid_1_254.calls (cu HR0.out) HC0.out A3.out) ?_; intro w4 hb; replace HB := bs HB hb; clear hb)
 go_ret
 exact ⟨er, ul HB.out⟩
def impl_fieldsValid.f (k : Nat) (l0 : List (S69)) : Option (Bool) := if (l0.length : Int) ≤ 20 then ((impl_Field_fieldsValid_1_253.f k l0).bind fun t124 => (some (!t124))) else (some false)
theorem impl_fieldsValid.calls {k c0 : Nat} {A0 : Option Addr} {l0 : List (S69)} {r : Bool} {w : World} (hr0 : Kd.C k69 w A0 l0.length l0) (hc0 : l0.length ≤ c0) (h : impl_fieldsValid.f k l0 = some r) :
  Calls Tryz.prog 82 #[.slice A0 l0.length c0] w fun e w' => e = .returned (.bool r) ∧ Below w.heap.size w w' := by
 have HR0 := ak hr0
 have HC0 := ak hc0
 clear hr0 hc0
 have HB := ak (Below.refl w.heap.size w)
 have H : (if (l0.length : Int) ≤ 20 then ((impl_Field_fieldsValid_1_253.f k l0).bind fun t124 => (some (!t124))) else (some false)) = some r := h
 clear h
 replace H := sp H
 rcases H with ⟨c2, H⟩ | ⟨c2, H⟩
 ·
  have c2b0 := decide_eq_true c2
  have c2b1 : decide (l0.length ≤ 20) = true := decide_eq_true (by omega)
  clear c2
  replace H := bd H; obtain ⟨t124, A3, H⟩ := H
  obtain rfl := s1 H
  go_enter Tryz.func82, Tryz.ntmps82
  go_wp2_with (go_at_call 118; refine mB (impl_Field_fieldsValid_1_253.calls (cu HR0.out) HC0.out A3.out) ?_; intro w4 hb; replace HB := bs HB hb; clear hb)
  go_ret
  exact ⟨er, ul HB.out⟩
 ·
  have c2b0 := decide_eq_false c2
  have c2b1 : decide (l0.length ≤ 20) = false := decide_eq_false (by omega)
  clear c2
  obtain rfl := s1 H
  go_enter Tryz.func82, Tryz.ntmps82
  go_wp2
  go_ret
  exact ⟨er, ul HB.out⟩
mutual
def impl_foldField.j0 : Nat → ByteArray → Int → Option (List ByteArray)
 | 0, _, _ => none
 | k + 1, x3, x4 => impl_foldField.l0 k x3 x4 (([] : List ByteArray))
def impl_foldField.l0 : Nat → ByteArray → Int → List ByteArray → Option (List ByteArray)
 | 0, _, _, _ => none
 | k + 1, x3, x4, x5 => if (x3.size : Int) > 40 then (impl_foldField.l1 k x3 x5 (-1) x4) else (if x5.length < 8796093022208 then (some (x5 ++ [x3])) else (none))
def impl_foldField.l1 : Nat → ByteArray → List ByteArray → Int → Int → Option (List ByteArray)
 | 0, _, _, _, _ => none
 | k + 1, x3, x5, x6, x7 => if (wrap64 (x7 + 1)) < (x3.size : Int) then (if 0 ≤ x7 then (if x7 < (x3.size : Int) then (if (bt x3 x7) = 32 then (if 0 ≤ (wrap64 (x7 - 1)) then (if (wrap64 (x7 - 1)) < (x3.size : Int) then (if (bt x3 (wrap64 (x7 - 1))) = 32 then (impl_foldField.l1 k x3 x5 x6 (wrap64 (x7 + 1))) else (if 0 ≤ (wrap64 (x7 + 1)) then (if (bt x3 (wrap64 (x7 + 1))) = 32 then (impl_foldField.l1 k x3 x5 x6 (wrap64 (x7 + 1))) else (if x6 < 0 then (impl_foldField.l1 k x3 x5 x7 (wrap64 (x7 + 1))) else (if x7 ≤ 40 then (impl_foldField.l1 k x3 x5 x7 (wrap64 (x7 + 1))) else (impl_foldField.l1 k x3 x5 x6 (wrap64 (x7 + 1)))))) else (none))) else (none)) else (none)) else (impl_foldField.l1 k x3 x5 x6 (wrap64 (x7 + 1)))) else (none)) else (none)) else (if x6 < 0 then (if x5.length < 8796093022208 then (some (x5 ++ [x3])) else (none)) else (if 0 ≤ x6 then (if x6 ≤ (x3.size : Int) then (if x5.length < 8796093022208 then (impl_foldField.l0 k (x3.extract (x6 : Int).toNat x3.size) 2 (x5 ++ [x3.extract 0 (x6 : Int).toNat])) else (none)) else (none)) else (none)))
end
def impl_foldField.f (k : Nat) (a0_0 : ByteArray) (a0_1 : ByteArray) : Option (List ByteArray) := if a0_0.size + 1 ≤ 9223372036854775807 then (if a0_1.toList = ([] : List UInt8) then (impl_foldField.j0 k (a0_0 ++ (⟨#[58]⟩ : ByteArray)) (wrap64 ((a0_0.size : Int) + 3))) else (if 1 + a0_1.size ≤ 9223372036854775807 then (if (a0_0 ++ (⟨#[58]⟩ : ByteArray)).size + ((⟨#[32]⟩ : ByteArray) ++ a0_1).size ≤ 9223372036854775807 then (impl_foldField.j0 k ((a0_0 ++ (⟨#[58]⟩ : ByteArray)) ++ ((⟨#[32]⟩ : ByteArray) ++ a0_1)) (wrap64 ((a0_0.size : Int) + 3))) else (none)) else (none))) else (none)
def impl_foldField.T1 : Bool × List (List Nat × List Nat) := (true, [([], []), ([0], [0]), ([1], [1]), ([], []), ([3], [3]), ([4], [4]), ([5], [5]), ([2, 0, 1, 2], [2]), ([6, 7, 0, 1, 2, 3, 4, 5, 6, 7], [6])])
def impl_foldField.B1 : List Nat := [0, 1, 3, 0, 8, 24, 56, 7, 255]
theorem impl_foldField.tab1 : rtab .any (opsOf Tryz.f83 1) = impl_foldField.T1 := by kernel_rfl
theorem impl_foldField.bits1 : waitsOk impl_foldField.T1.2 impl_foldField.B1 = true := by kernel_rfl
def impl_foldField.T13 : Bool × List (List Nat × List Nat) := (true, [([], []), ([], []), ([], []), ([1, 2], [1, 2]), ([3], [3]), ([0, 4], [0, 4]), ([], []), ([], []), ([6, 7], [6, 7]), ([5, 5, 0, 1, 2, 3, 4, 5], [0, 5]), ([8, 9, 0, 1, 2, 3, 4, 5, 6, 7, 8, 9], [1, 6, 8]), ([10, 0, 1, 2, 3, 4, 5, 6, 7, 8, 9, 10], [])])
def impl_foldField.B13 : List Nat := [0, 0, 0, 6, 14, 31, 0, 0, 192, 63, 1023, 2047]
theorem impl_foldField.tab13 : rtab .any (opsOf Tryz.f83 13) = impl_foldField.T13 := by kernel_rfl
theorem impl_foldField.bits13 : waitsOk impl_foldField.T13.2 impl_foldField.B13 = true := by kernel_rfl
theorem impl_foldField.calls {k : Nat} {a0_0 a0_1 : ByteArray} {r : List ByteArray} {w : World} (h : impl_foldField.f k a0_0 a0_1 = some r) :
  Calls Tryz.prog 83 #[.agg #[.string a0_0, .string a0_1]] w fun e w' => ∃ v0_ : Value, e = .returned (v0_) ∧ Kd.R Kd.string 9 w' w.heap.size (fun _ => True) v0_ r ∧ Below w.heap.size w w' := by
 have hu69 := Tryz.underlying69
 have HB := ak (Below.refl w.heap.size w)
 have H : (if a0_0.size + 1 ≤ 9223372036854775807 then (if a0_1.toList = ([] : List UInt8) then (impl_foldField.j0 k (a0_0 ++ (⟨#[58]⟩ : ByteArray)) (wrap64 ((a0_0.size : Int) + 3))) else (if 1 + a0_1.size ≤ 9223372036854775807 then (if (a0_0 ++ (⟨#[58]⟩ : ByteArray)).size + ((⟨#[32]⟩ : ByteArray) ++ a0_1).size ≤ 9223372036854775807 then (impl_foldField.j0 k ((a0_0 ++ (⟨#[58]⟩ : ByteArray)) ++ ((⟨#[32]⟩ : ByteArray) ++ a0_1)) (wrap64 ((a0_0.size : Int) + 3))) else (none)) else (none))) else (none)) = some r := h
 clear h
 replace H := nn H; obtain ⟨c2, H⟩ := H
 have c2b0 := eq_true c2
 have c2b1 := decide_eq_true c2
 try have c2b2 : (9223372036854775807 < a0_0.size + 1) = False := eq_false (Nat.not_lt.2 c2)
 have HC3 := ak H
 clear H
 go_enter Tryz.func83, Tryz.ntmps83
 try go_wp2_with (refine bX HB 1 #[.string a0_0, .string a0_1] 69 ?_; intro gb125 w4 BK125 GW125 hb; replace HB := bs HB hb; clear hb)
 refine rO [] [0, 3, 1, 2, 7, 4, 5, 6, 8] (fun w' => w'.cell? ⟨gb125, 0, none⟩ = some (.string a0_0) ∧ w'.cell? ⟨gb125, 1, none⟩ = some (.string a0_1)) ?_
 intro w5 hb
 replace BK125 := kb BK125 hb
 replace HB := bs HB hb
 refine ⟨sx, ?_⟩
 repeat refine lo_ ?_
 refine on ?_
 have z6 := cz2 BK125.out
 go_upto_if 17 with (fail)
 go_cut [3] (fun v3 wc => ∃ (kq : Nat) (x3_2 : ByteArray), v3 = .string x3_2 ∧ Aside0 (impl_foldField.j0 kq x3_2 (wrap64 ((a0_0.size : Int) + 3)) = some r) ∧ Aside0 (kq ≤ k) ∧ Aside0 (wc.heap[gb125]? = some (.cells #[.string a0_0, .string a0_1] 69 (0, 0))) ∧ Aside0 (Below w.heap.size w wc))
 case first =>
  have H := HC3.out
  clear HC3
  replace H := sp H
  rcases H with ⟨c7, H⟩ | ⟨c7, H⟩
  ·
   have c7b0 := beq_iff_eq.mpr c7
   have c7e : (a0_1.toList).isEmpty = true := List.isEmpty_iff.mpr c7
   have c7b1 := bne_eq_false_iff_eq.mpr c7
   clear c7
   (first | rw [c7b0] | (simp only [i64_w, i32_w]; rw [c7b0]) | skip)
   (first | (rw [c7e]; simp only [Bool.not_true, Bool.not_false]) | skip)
   have H' := ak H; clear H
   go_wp2
   go_meet
   case rel => exact ⟨_, _, rs, H', ⟨le_⟩, ⟨ub BK125.out⟩, ⟨bb⟩⟩
  ·
   have c7b0 := beq_eq_false_iff_ne.mpr c7
   have c7e : (a0_1.toList).isEmpty = false := List.isEmpty_eq_false_iff.mpr c7
   have c7b1 := bne_iff_ne.mpr c7
   (first | rw [c7b0] | (simp only [i64_w, i32_w]; rw [c7b0]) | skip)
   (first | (rw [c7e]; simp only [Bool.not_true, Bool.not_false]) | skip)
   replace H := nn H; obtain ⟨c8, H⟩ := H
   have c8b0 := eq_true c8
   have c8b1 := decide_eq_true c8
   try have c8b2 : (9223372036854775807 < 1 + a0_1.size) = False := eq_false (Nat.not_lt.2 c8)
   replace H := nn H; obtain ⟨c9, H⟩ := H
   have c9b0 := eq_true c9
   have c9b1 := decide_eq_true c9
   try have c9b3 : (9223372036854775807 < a0_0.size + 1 + (1 + a0_1.size)) = False := by have h_ := (eq_false (Nat.not_lt.2 c9) : (9223372036854775807 < (a0_0 ++ (⟨#[58]⟩ : ByteArray)).size + ((⟨#[32]⟩ : ByteArray) ++ a0_1).size) = False); simp only [ByteArray.size_append] at h_; exact h_
   try have c9b2 : (9223372036854775807 < (a0_0 ++ (⟨#[58]⟩ : ByteArray)).size + ((⟨#[32]⟩ : ByteArray) ++ a0_1).size) = False := eq_false (Nat.not_lt.2 c9)
   have H' := ak H; clear H
   have z10 := cz2 BK125.out
   go_wp2
   go_meet
   case rel => exact ⟨_, _, rs, H', ⟨le_⟩, ⟨ub BK125.out⟩, ⟨bb⟩⟩
 case rest =>
  clear HC3
  try clear c2
  try clear c2b0
  try clear c2b1
  try clear c2b2
  obtain ⟨kq, x3_2, rfl, HA, HJ2, BK125, HB⟩ := hcut
  cases kq with
  | zero => exact zz HA.out
  | succ kj2 =>
   obtain ⟨H⟩ := HA
   simp only [impl_foldField.j0] at H
   obtain ⟨y126, Ny126⟩ := nm ([] : List ByteArray)
   rw [← Ny126.out] at H
   have H' := ak H; clear H
   go_wp2_with (refine lRN 23 Kd.string 9 Ny126 ?_; intro v127 w11 ho12 hb; have HO128 := ak (Kd.R_lower ho12 (below_size bb)); replace BK125 := kb BK125 hb; replace HB := bz HB hb; clear hb ho12)
   go_loopg [3, 4, 5] kj2 (fun kq v3 v4 v5 w' => ∃ (x3_2 : ByteArray) (x4_2 : Int) (x5_2 : List ByteArray), v3 = .string x3_2 ∧ v4 = .int .i64 x4_2 ∧ Aside0 (impl_foldField.l0 kq x3_2 x4_2 x5_2 = some r) ∧ Aside0 (kq ≤ kj2) ∧ Aside0 (Kd.R Kd.string 9 w' w.heap.size (fun _ => True) v5 x5_2) ∧ Aside0 (w'.heap[gb125]? = some (.cells #[.string a0_0, .string a0_1] 69 (0, 0))) ∧ Aside0 (Below w.heap.size w w'))
   case atStart => exact ⟨_, _, _, rs, rs, H', ⟨Nat.le_refl _⟩, ⟨ur HO128.out⟩, ⟨ub BK125.out⟩, ⟨bb⟩⟩
   case round =>
    clear H'
    try clear c2
    try clear c2b0
    try clear c2b1
    try clear c2b2
    obtain ⟨x3_2, x4_2, x5_2, rfl, rfl, HA, HK2, HO_5, BK125, HB⟩ := hrel
    cases gk with
    | zero => exact zz HA.out
    | succ k2 =>
     obtain ⟨H⟩ := HA
     simp only [impl_foldField.l0] at H
     replace H := sp H
     rcases H with ⟨c13, H⟩ | ⟨c13, H⟩
     ·
      have c13b0 : decide (40 < (x3_2.size : Int)) = true := decide_eq_true c13
      have c13b1 : decide (40 < x3_2.size) = true := decide_eq_true (by omega)
      clear c13
      have H' := ak H; clear H
      go_wp2
      go_loopg [6, 7] k2 (fun kq v6 v7 w' => ∃ (x6_3 : Int) (x7_3 : Int), v6 = .int .i64 x6_3 ∧ v7 = .int .i64 x7_3 ∧ Aside0 (impl_foldField.l1 kq x3_2 x5_2 x6_3 x7_3 = some r) ∧ Aside0 (kq ≤ k2) ∧ Aside0 (Kd.R Kd.string 9 w' w.heap.size (fun _ => True) u5 x5_2) ∧ Aside0 (w'.heap[gb125]? = some (.cells #[.string a0_0, .string a0_1] 69 (0, 0))) ∧ Aside0 (Below w.heap.size w w'))
      case atStart => exact ⟨_, _, rs, rs, H', ⟨Nat.le_refl _⟩, ⟨ur HO_5.out⟩, ⟨ub BK125.out⟩, ⟨bb⟩⟩
      case round =>
       clear H'
       try clear c2
       try clear c2b0
       try clear c2b1
       try clear c2b2
       try clear c13
       try clear c13b0
       try clear c13b1
       obtain ⟨x6_3, x7_3, rfl, rfl, HA, HK3, HO_5, BK125, HB⟩ := hrel
       cases gk with
       | zero => exact zz HA.out
       | succ k3 =>
        obtain ⟨H⟩ := HA
        simp only [impl_foldField.l1] at H
        replace H := sp H
        rcases H with ⟨c14, H⟩ | ⟨c14, H⟩
        ·
         have c14b0 := decide_eq_true c14
         (try (have c14b1 : decide ((x7_3 + 1) < (x3_2.size : Int)) = true := decide_eq_true (by have h_ := c14; unfold wrap64 at h_; omega)))
         clear c14
         replace H := nde H; obtain ⟨c15b0, H⟩ := H; replace H := nde H; obtain ⟨c16b0, H⟩ := H; replace H := sq H
         rcases H with ⟨c18b0, c18b1, H⟩ | ⟨c18, c18b0, c18b1, H⟩
         ·
          obtain ⟨ji19, hji19⟩ : ∃ j_ : Int, (wrap64 (x7_3 - 1)) = j_ := ⟨_, rfl⟩
          replace H : (if 0 ≤ (ji19) then (if (ji19) < (x3_2.size : Int) then (if (bt x3_2 (ji19)) = 32 then (impl_foldField.l1 k3 x3_2 x5_2 x6_3 (wrap64 (x7_3 + 1))) else (if 0 ≤ (wrap64 (x7_3 + 1)) then (if (bt x3_2 (wrap64 (x7_3 + 1))) = 32 then (impl_foldField.l1 k3 x3_2 x5_2 x6_3 (wrap64 (x7_3 + 1))) else (if x6_3 < 0 then (impl_foldField.l1 k3 x3_2 x5_2 x7_3 (wrap64 (x7_3 + 1))) else (if x7_3 ≤ 40 then (impl_foldField.l1 k3 x3_2 x5_2 x7_3 (wrap64 (x7_3 + 1))) else (impl_foldField.l1 k3 x3_2 x5_2 x6_3 (wrap64 (x7_3 + 1)))))) else (none))) else (none)) else (none)) = some r := by first | (rw [hji19] at H; exact H) | (simp only [hji19] at H ⊢; exact H)
          have hji19w : (IntKind.i64.wrap (x7_3 - 1)) = ji19 := (i64_w _).trans hji19
          replace H := nde H; obtain ⟨c20b0, H⟩ := H; replace H := nde H; obtain ⟨c21b0, H⟩ := H; replace H := sq H
          rcases H with ⟨c23b0, c23b1, H⟩ | ⟨c23, c23b0, c23b1, H⟩
          ·
           have H' := ak H; clear H
           obtain ⟨p17, q17, hx17⟩ := bx x3_2 x7_3
           obtain ⟨p22, q22, hx22⟩ := bx x3_2 (ji19)
           go_wp2
           go_roundg k3
           case measure => exact kl
           case rel => exact ⟨_, _, rs, rs, H', ⟨kl⟩, ⟨ur HO_5.out⟩, ⟨ub BK125.out⟩, ⟨bb⟩⟩
          ·
           obtain ⟨ji24, hji24⟩ : ∃ j_ : Int, (wrap64 (x7_3 + 1)) = j_ := ⟨_, rfl⟩
           replace H : (if 0 ≤ (ji24) then (if (bt x3_2 (ji24)) = 32 then (impl_foldField.l1 k3 x3_2 x5_2 x6_3 ji24) else (if x6_3 < 0 then (impl_foldField.l1 k3 x3_2 x5_2 x7_3 ji24) else (if x7_3 ≤ 40 then (impl_foldField.l1 k3 x3_2 x5_2 x7_3 ji24) else (impl_foldField.l1 k3 x3_2 x5_2 x6_3 ji24)))) else (none)) = some r := by first | (rw [hji24] at H; exact H) | (simp only [hji24] at H ⊢; exact H)
           (try rw [hji24] at c14b0)
           have hji24w : (IntKind.i64.wrap (x7_3 + 1)) = ji24 := (i64_w _).trans hji24
           replace H := nde H; obtain ⟨c25b0, H⟩ := H; replace H := sq H
           rcases H with ⟨c27b0, c27b1, H⟩ | ⟨c27, c27b0, c27b1, H⟩
           ·
            have H' := ak H; clear H
            obtain ⟨p17, q17, hx17⟩ := bx x3_2 x7_3
            obtain ⟨p22, q22, hx22⟩ := bx x3_2 (ji19)
            obtain ⟨p26, q26, hx26⟩ := bx x3_2 (ji24)
            go_wp2
            go_roundg k3
            case measure => exact kl
            case rel => exact ⟨_, _, rs, (by first | rfl | (simp; done) | (simp only [← hji24] <;> (first | rfl | simp)) | (simp [*]; done)), H', ⟨kl⟩, ⟨ur HO_5.out⟩, ⟨ub BK125.out⟩, ⟨bb⟩⟩
           ·
            replace H := sd H
            rcases H with ⟨c28b0, H⟩ | ⟨c28b0, H⟩
            ·
             have H' := ak H; clear H
             obtain ⟨p17, q17, hx17⟩ := bx x3_2 x7_3
             obtain ⟨p22, q22, hx22⟩ := bx x3_2 (ji19)
             obtain ⟨p26, q26, hx26⟩ := bx x3_2 (ji24)
             go_wp2
             go_roundg k3
             case measure => exact kl
             case rel => exact ⟨_, _, rs, (by first | rfl | (simp; done) | (simp only [← hji24] <;> (first | rfl | simp)) | (simp [*]; done)), H', ⟨kl⟩, ⟨ur HO_5.out⟩, ⟨ub BK125.out⟩, ⟨bb⟩⟩
            ·
             replace H := sd H
             rcases H with ⟨c29b0, H⟩ | ⟨c29b0, H⟩
             ·
              have H' := ak H; clear H
              obtain ⟨p17, q17, hx17⟩ := bx x3_2 x7_3
              obtain ⟨p22, q22, hx22⟩ := bx x3_2 (ji19)
              obtain ⟨p26, q26, hx26⟩ := bx x3_2 (ji24)
              go_wp2
              go_roundg k3
              case measure => exact kl
              case rel => exact ⟨_, _, rs, (by first | rfl | (simp; done) | (simp only [← hji24] <;> (first | rfl | simp)) | (simp [*]; done)), H', ⟨kl⟩, ⟨ur HO_5.out⟩, ⟨ub BK125.out⟩, ⟨bb⟩⟩
             ·
              have H' := ak H; clear H
              obtain ⟨p17, q17, hx17⟩ := bx x3_2 x7_3
              obtain ⟨p22, q22, hx22⟩ := bx x3_2 (ji19)
              obtain ⟨p26, q26, hx26⟩ := bx x3_2 (ji24)
              go_wp2
              go_roundg k3
              case measure => exact kl
              case rel => exact ⟨_, _, rs, (by first | rfl | (simp; done) | (simp only [← hji24] <;> (first | rfl | simp)) | (simp [*]; done)), H', ⟨kl⟩, ⟨ur HO_5.out⟩, ⟨ub BK125.out⟩, ⟨bb⟩⟩
         ·
          have H' := ak H; clear H
          obtain ⟨p17, q17, hx17⟩ := bx x3_2 x7_3
          go_wp2
          go_roundg k3
          case measure => exact kl
          case rel => exact ⟨_, _, rs, rs, H', ⟨kl⟩, ⟨ur HO_5.out⟩, ⟨ub BK125.out⟩, ⟨bb⟩⟩
        ·
         have c14b0 := decide_eq_false c14
         (try (have c14b1 : decide ((x7_3 + 1) < (x3_2.size : Int)) = false := decide_eq_false (by have h_ := c14; unfold wrap64 at h_; omega)))
         clear c14
         replace H := sd H
         rcases H with ⟨c30b0, H⟩ | ⟨c30b0, H⟩
         ·
          replace H := nl H; obtain ⟨LMc31, H⟩ := H
          obtain ⟨y132, Ny132⟩ := nm (x5_2 ++ [x3_2])
          rw [← Ny132.out] at H
          obtain rfl := s1 H
          go_wp2_with ((with_reducible refine gate_builtin (b := .append) (xs := #[.tmp 73, .tmp 75]) rfl ?_); at_builtin; refine Kd.R_append Kd.string (w0 := w) w.heap.size rfl (.tmp 73) (.tmp 75) 23 9 (.string ⟨#[]⟩) 16 rfl Tryz.underlying23 info9 rfl (by decide) (by omega) u5 x5_2 x3_2 [.string x3_2] (fun _ => True) (fun _ => False) rfl rfl ?aP (fun _ hk => hk.elim) ?aF ?aO ?aB ?aS ?aL ?_; (case aP => exact rfl); (case aB => exact bb); (case aF => exact (fun _ _ => trivial)); (case aO => exact (ur HO_5.out)); (case aS => exact (below_size bb)); (case aL => have := LMc31.out; omega); intro v133 w32 ho hb hg hat; rw [← Ny132.out] at ho; have HO134 := ak (ho); replace BK125 := ak (blk_grown (g := gb125) (o := .cells #[.string a0_0, .string a0_1] 69 (0, 0)) (ub BK125.out) hg (Kd.R_ne HO_5.out BK125.out (by decide))); replace HB := ak (hb); clear ho hb hg hat HO_5)
          go_ret
          exact ⟨_, er, ur HO134.out, bb⟩
         ·
          replace H := ne_ H; obtain ⟨c33b0, c33b1, H⟩ := H; replace H := ne_ H; obtain ⟨c34b0, c34b1, H⟩ := H; replace H := nl H; obtain ⟨LMc35, H⟩ := H
          obtain ⟨y135, Ny135⟩ := nm (x5_2 ++ [x3_2.extract 0 (x6_3 : Int).toNat])
          rw [← Ny135.out] at H
          have c36b0 := eq_true (of_decide_eq_true (by assumption) : 0 ≤ x6_3)
          have c37b0 := eq_true (of_decide_eq_true (by assumption) : x6_3 ≤ (x3_2.size : Int))
          have H' := ak H; clear H
          try go_wp2
          replace HO_5 := ak (Kd.R_drew HO_5.out)
          replace BK125 := ak (blk_drew BK125.out)
          replace HB := ak (below_drew1 HB.out)
          refine ro [4, 5] [0, 1, 2, 3, 6, 7, 8, 4, 5, 9, 10, 11] (fun w' => True) trivial ?_
          generalize wr.drew = w38 at HO_5 BK125 HB ⊢
          repeat refine lo_ ?_
          refine ld (N := some 68) (gk.trans rfl) rfl rfl (fun K hK => ?_)
          refine value_ (w1 := ?_) (v := ?_) (by rfl) rfl ?_ ?_
          rotate_left 2
          ·
           go_simp
           constructor
           ·
            rfl
           ·
            rfl
          refine hK.out _ _ trivial ?_
          clear hK K
          refine no (a' := ?_) ?_ ?_
          rotate_left
          ·
           show Act.put _ (some 68) _ = _
           simp only [Act.put, l_a, l_b, l_c, i64_w, i32_w]
           rfl
          refine ld (N := some 69) (gk.trans rfl) rfl rfl (fun K hK => ?_)
          refine Kd.R_append_step Kd.string (w0 := w) w.heap.size (by rfl) (.tmp 64) (.tmp 68) 23 9 (.string ⟨#[]⟩) 16 rfl Tryz.underlying23 info9 rfl (by decide) (by omega) u5 x5_2 (x3_2.extract 0 (x6_3 : Int).toNat) [.string (x3_2.extract 0 (x6_3 : Int).toNat)] (fun _ => True) (fun _ => False) rfl rfl ?aP (fun _ hk => hk.elim) ?aF ?aO ?aB ?aS ?aL ?_
          (case aP => exact rfl)
          (case aB => exact bb)
          (case aF => exact (fun _ _ => trivial))
          (case aO => exact (ur HO_5.out))
          (case aS => exact (below_size bb))
          (case aL => have := LMc35.out; omega)
          intro v136 w39 ho hb hg hat
          rw [← Ny135.out] at ho
          have n0_ := ak (blk_grown (g := gb125) (o := .cells #[.string a0_0, .string a0_1] 69 (0, 0)) (ub BK125.out) hg (Kd.R_ne HO_5.out BK125.out (by decide)))
          have n1_ := ak (hb)
          have n2_ := ak (ho)
          clear BK125 HB HO_5
          have BK125 := n0_
          have HB := n1_
          have HO137 := n2_
          clear n0_ n1_ n2_ ho hb hg hat
          refine hK.out _ _ trivial ?_
          clear hK K
          refine no (a' := ?_) ?_ ?_
          rotate_left
          ·
           show Act.put _ (some 69) _ = _
           simp only [Act.put, l_a, l_b, l_c, i64_w, i32_w]
           rfl
          repeat refine lo_ ?_
          refine on ?_
          try go_wp2
          go_roundg k3
          case measure => exact kl
          case rel => exact ⟨_, _, _, rs, rs, H', ⟨kl⟩, ⟨ur HO137.out⟩, ⟨ub BK125.out⟩, ⟨bb⟩⟩
     ·
      have c13b0 : decide (40 < (x3_2.size : Int)) = false := decide_eq_false c13
      have c13b1 : decide (40 < x3_2.size) = false := decide_eq_false (by omega)
      clear c13
      replace H := nl H; obtain ⟨LMc40, H⟩ := H
      obtain ⟨y129, Ny129⟩ := nm (x5_2 ++ [x3_2])
      rw [← Ny129.out] at H
      obtain rfl := s1 H
      go_wp2_with ((with_reducible refine gate_builtin (b := .append) (xs := #[.tmp 73, .tmp 75]) rfl ?_); at_builtin; refine Kd.R_append Kd.string (w0 := w) w.heap.size rfl (.tmp 73) (.tmp 75) 23 9 (.string ⟨#[]⟩) 16 rfl Tryz.underlying23 info9 rfl (by decide) (by omega) u5 x5_2 x3_2 [.string x3_2] (fun _ => True) (fun _ => False) rfl rfl ?aP (fun _ hk => hk.elim) ?aF ?aO ?aB ?aS ?aL ?_; (case aP => exact rfl); (case aB => exact bb); (case aF => exact (fun _ _ => trivial)); (case aO => exact (ur HO_5.out)); (case aS => exact (below_size bb)); (case aL => have := LMc40.out; omega); intro v130 w41 ho hb hg hat; rw [← Ny129.out] at ho; have HO131 := ak (ho); replace BK125 := ak (blk_grown (g := gb125) (o := .cells #[.string a0_0, .string a0_1] 69 (0, 0)) (ub BK125.out) hg (Kd.R_ne HO_5.out BK125.out (by decide))); replace HB := ak (hb); clear ho hb hg hat HO_5)
      go_ret
      exact ⟨_, er, ur HO131.out, bb⟩
end Go.Proofs.YtncdadcmghglkaaGreatDoor.PFnPartSame
