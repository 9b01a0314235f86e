/- Printed walks; conditions: those in each statement. -/
import Derived.Test.YtncdadcmghglkaaGreatDoorVFnPartSameQt
import Derived.Test.YtncdadcmghglkaaGreatDoorVFnPartSameYt
import Derived.Test.YtncdadcmghglkaaGreatDoorPFnPartSamex0
import Derived.Test.YtncdadcmghglkaaGreatDoorPFnPartSamex6
-- short
-- dense
-- sq
-- sq2
namespace Go.Proofs.YtncdadcmghglkaaGreatDoor.PFnPartSame
open Go.RowKit Go.Proofs.YtncdadcmghglkaaGreatDoor.X Go.Proofs.YtncdadcmghglkaaGreatDoorW.PrintWords Go.Proofs.YtncdadcmghglkaaGreatDoorW.PrintLast Go.Proofs.YtncdadcmghglkaaGreatDoorW.PrintMore
attribute [local go_sem] max2_int min2_int max_two min_two max_three min_three max_four min_four   -- for this text's walks alone
set_option linter.unusedVariables false
set_option maxHeartbeats 8000000
set_option maxRecDepth 100000
set_option linter.unusedSimpArgs false
def impl_kindText.l0 : Nat → ByteArray → List (S69) → Int → Int → Option (ByteArray)
 | 0, _, _, _, _ => none
 | k + 1, x3, x13, x14, x15 => if x15 < x14 then (if 0 ≤ x15 then (if x15 < (x13.length : Int) then (if 2 + ((rd_T69 x13 x15).f0).size ≤ 9223372036854775807 then (if ((⟨#[59, 32]⟩ : ByteArray) ++ ((rd_T69 x13 x15).f0)).size + 1 ≤ 9223372036854775807 then ((impl_QuoteWord.f k ((rd_T69 x13 x15).f1)).bind fun t231 => (if (((⟨#[59, 32]⟩ : ByteArray) ++ ((rd_T69 x13 x15).f0)) ++ (⟨#[61]⟩ : ByteArray)).size + t231.size ≤ 9223372036854775807 then (if x3.size + ((((⟨#[59, 32]⟩ : ByteArray) ++ ((rd_T69 x13 x15).f0)) ++ (⟨#[61]⟩ : ByteArray)) ++ t231).size ≤ 9223372036854775807 then (impl_kindText.l0 k (x3 ++ ((((⟨#[59, 32]⟩ : ByteArray) ++ ((rd_T69 x13 x15).f0)) ++ (⟨#[61]⟩ : ByteArray)) ++ t231)) x13 x14 (wrap64 (x15 + 1))) else (none)) else (none))) else (none)) else (none)) else (none)) else (none)) else (some x3)
def impl_kindText.f (k : Nat) (a0_0 : ByteArray) (a0_1 : ByteArray) (l0_2 : List (S69)) : Option (ByteArray) := if a0_0.size + 1 ≤ 9223372036854775807 then (if (a0_0 ++ (⟨#[47]⟩ : ByteArray)).size + a0_1.size ≤ 9223372036854775807 then (impl_kindText.l0 k ((a0_0 ++ (⟨#[47]⟩ : ByteArray)) ++ a0_1) l0_2 (l0_2.length : Int) 0) else (none)) else (none)
def impl_kindText.T5 : Bool × List (List Nat × List Nat) := (true, [([], []), ([], []), ([1], [1]), ([2], [2]), ([3], [3]), ([], []), ([5], [5]), ([6], [6]), ([4, 7], [4, 7]), ([0, 8], [0, 8]), ([9, 7, 0, 1, 2, 3, 4, 5, 6, 7, 8, 9], [0, 9])])
def impl_kindText.B5 : List Nat := [0, 0, 2, 6, 14, 0, 32, 96, 254, 511, 1023]
theorem impl_kindText.tab5 : rtab .any (opsOf Tryz.f137 5) = impl_kindText.T5 := by kernel_rfl
theorem impl_kindText.bits5 : waitsOk impl_kindText.T5.2 impl_kindText.B5 = true := by kernel_rfl
theorem impl_kindText.calls {k c0_2 : Nat} {a0_0 a0_1 r : ByteArray} {A0_2 : Option Addr} {l0_2 : List (S69)} {w : World} (hr0_2 : Kd.C k69 w A0_2 l0_2.length l0_2) (hc0_2 : l0_2.length ≤ c0_2) (h : impl_kindText.f k a0_0 a0_1 l0_2 = some r) :
  Calls Tryz.prog 137 #[.agg #[.string a0_0, .string a0_1, .slice A0_2 l0_2.length c0_2]] w fun e w' => e = .returned (.string r) ∧ Below w.heap.size w w' := by
 have hu61 := Tryz.underlying61
 have hu69 := Tryz.underlying69
 have HR0_2 := ak hr0_2
 have HC0_2 := ak hc0_2
 clear hr0_2 hc0_2
 have HB := ak (Below.refl w.heap.size w)
 have H : (if a0_0.size + 1 ≤ 9223372036854775807 then (if (a0_0 ++ (⟨#[47]⟩ : ByteArray)).size + a0_1.size ≤ 9223372036854775807 then (impl_kindText.l0 k ((a0_0 ++ (⟨#[47]⟩ : ByteArray)) ++ a0_1) l0_2 (l0_2.length : Int) 0) else (none)) else (none)) = some r := h
 clear h
 replace H := nn H; obtain ⟨c2, H⟩ := H
 have c2b0 := eq_true c2
 have c2b1 := decide_eq_true c2
 try have c2b2 : (9223372036854775807 < a0_0.size + 1) = False := eq_false (Nat.not_lt.2 c2)
 replace H := nn H; obtain ⟨c3, H⟩ := H
 have c3b0 := eq_true c3
 have c3b1 := decide_eq_true c3
 try have c3b3 : (9223372036854775807 < a0_0.size + 1 + a0_1.size) = False := by have h_ := (eq_false (Nat.not_lt.2 c3) : (9223372036854775807 < (a0_0 ++ (⟨#[47]⟩ : ByteArray)).size + a0_1.size) = False); simp only [ByteArray.size_append] at h_; exact h_
 try have c3b2 : (9223372036854775807 < (a0_0 ++ (⟨#[47]⟩ : ByteArray)).size + a0_1.size) = False := eq_false (Nat.not_lt.2 c3)
 have H' := ak H; clear H
 go_enter Tryz.func137, Tryz.ntmps137
 go_wp2_with (refine bX HB 1 #[.string a0_0, .string a0_1, .slice A0_2 l0_2.length c0_2] 61 ?_; intro gb228 w4 BK228 GW228 hb; replace HB := bs HB hb; clear hb; have z5 := cz3 BK228.out)
 go_loopg [3, 15] k (fun kq v3 v15 w' => ∃ (x3_1 : ByteArray) (x15_1 : Int), v3 = .string x3_1 ∧ v15 = .int .i64 x15_1 ∧ Aside0 (impl_kindText.l0 kq x3_1 l0_2 (l0_2.length : Int) x15_1 = some r) ∧ Aside0 (kq ≤ k) ∧ Aside0 (w'.heap[gb228]? = some (.cells #[.string a0_0, .string a0_1, (.slice A0_2 l0_2.length c0_2)] 61 (0, 0))) ∧ Aside0 (Below w.heap.size w w'))
 case atStart => exact ⟨_, _, rs, rs, H', ⟨Nat.le_refl _⟩, ⟨ub BK228.out⟩, ⟨bb⟩⟩
 case round =>
  clear H'
  try clear c2
  try clear c2b0
  try clear c2b1
  try clear c2b2
  try clear c3
  try clear c3b0
  try clear c3b1
  try clear c3b2
  obtain ⟨x3_1, x15_1, rfl, rfl, HA, HK1, BK228, HB⟩ := hrel
  cases gk with
  | zero => exact zz HA.out
  | succ k1 =>
   obtain ⟨H⟩ := HA
   simp only [impl_kindText.l0] at H
   replace H := sd H
   rcases H with ⟨c6b0, H⟩ | ⟨c6b0, H⟩
   ·
    replace H := nde H; obtain ⟨c7b0, H⟩ := H; replace H := nde H; obtain ⟨c8b0, H⟩ := H; replace H := nn H; obtain ⟨c9, H⟩ := H
    have c9b0 := eq_true c9
    have c9b1 := decide_eq_true c9
    try have c9b2 : (9223372036854775807 < 2 + ((rd_T69 l0_2 x15_1).f0).size) = False := eq_false (Nat.not_lt.2 c9)
    replace H := nn H; obtain ⟨c10, H⟩ := H
    have c10b0 := eq_true c10
    have c10b1 := decide_eq_true c10
    try have c10b3 : (9223372036854775807 < 2 + ((rd_T69 l0_2 x15_1).f0).size + 1) = False := by have h_ := (eq_false (Nat.not_lt.2 c10) : (9223372036854775807 < ((⟨#[59, 32]⟩ : ByteArray) ++ ((rd_T69 l0_2 x15_1).f0)).size + 1) = False); simp only [ByteArray.size_append] at h_; exact h_
    try have c10b2 : (9223372036854775807 < ((⟨#[59, 32]⟩ : ByteArray) ++ ((rd_T69 l0_2 x15_1).f0)).size + 1) = False := eq_false (Nat.not_lt.2 c10)
    replace H := bd H; obtain ⟨t231, A11, H⟩ := H; replace H := nn H; obtain ⟨c12, H⟩ := H
    have c12b0 := eq_true c12
    have c12b1 := decide_eq_true c12
    try have c12b3 : (9223372036854775807 < 2 + ((rd_T69 l0_2 x15_1).f0).size + 1 + t231.size) = False := by have h_ := (eq_false (Nat.not_lt.2 c12) : (9223372036854775807 < (((⟨#[59, 32]⟩ : ByteArray) ++ ((rd_T69 l0_2 x15_1).f0)) ++ (⟨#[61]⟩ : ByteArray)).size + t231.size) = False); simp only [ByteArray.size_append] at h_; exact h_
    try have c12b2 : (9223372036854775807 < (((⟨#[59, 32]⟩ : ByteArray) ++ ((rd_T69 l0_2 x15_1).f0)) ++ (⟨#[61]⟩ : ByteArray)).size + t231.size) = False := eq_false (Nat.not_lt.2 c12)
    replace H := nn H; obtain ⟨c13, H⟩ := H
    have c13b0 := eq_true c13
    have c13b1 := decide_eq_true c13
    try have c13b3 : (9223372036854775807 < x3_1.size + (2 + ((rd_T69 l0_2 x15_1).f0).size + 1 + t231.size)) = False := by have h_ := (eq_false (Nat.not_lt.2 c13) : (9223372036854775807 < x3_1.size + ((((⟨#[59, 32]⟩ : ByteArray) ++ ((rd_T69 l0_2 x15_1).f0)) ++ (⟨#[61]⟩ : ByteArray)) ++ t231).size) = False); simp only [ByteArray.size_append] at h_; exact h_
    try have c13b2 : (9223372036854775807 < x3_1.size + ((((⟨#[59, 32]⟩ : ByteArray) ++ ((rd_T69 l0_2 x15_1).f0)) ++ (⟨#[61]⟩ : ByteArray)) ++ t231).size) = False := eq_false (Nat.not_lt.2 c13)
    have H' := ak H; clear H
    have p229 := zi x15_1
    have q229 := zj x15_1 l0_2.length
    obtain ⟨ad229, e229, hx229_0, hx229_1⟩ := at_T69 HR0_2.out x15_1 p229 q229
    cases e229
    replace hx229_0 := cl HB.out hx229_0
    replace hx229_1 := cl HB.out hx229_1
    replace p229 := eq_true p229
    replace q229 := eq_true q229
    try go_wp2_with (refine bY HB 5 #[.string (⟨#[]⟩ : ByteArray), .string (⟨#[]⟩ : ByteArray)] 69 ?_; intro gb230 w14 BK230 GW230 hg hb; have NB228_230 := nl_ BK228 hg; have NB230_228 := ng_ BK228 hg; replace BK228 := kb BK228 hb; replace HB := bz HB hb; clear hb hg; have hnb15 := NB230_228.out; have hnc15 := NB228_230.out; have z16 := cz2 BK230.out)
    refine ab2 HB BK230 GW230 ?_
    intro w17 BK230' hk HB
    replace BK228 := kf BK228 hk NB228_230
    clear hk BK230
    have BK230 := BK230'; clear BK230'
    refine rO [7] [0, 1, 5, 2, 3, 4, 6, 7, 8, 9, 10] (fun w' => w'.cell? ⟨gb230, 0, none⟩ = some (.string ((rd_T69 l0_2 x15_1).f0)) ∧ w'.cell? ⟨gb230, 1, none⟩ = some (.string ((rd_T69 l0_2 x15_1).f1))) ?_
    intro w18 hb
    replace BK228 := kb BK228 hb
    replace BK230 := kb BK230 hb
    replace HB := bs HB hb
    refine ⟨sx, ?_⟩
    repeat refine lo_ ?_
    refine rB Tryz.func166 (impl_QuoteWord.calls A11.out) ?_
    intro w19 hb
    replace BK228 := kb BK228 hb
    replace BK230 := kb BK230 hb
    replace HB := bz HB hb
    clear hb
    refine ⟨sx, ?_⟩
    repeat refine lo_ ?_
    refine on ?_
    try go_wp2
    go_roundg k1
    case measure => exact kl
    case rel => exact ⟨_, _, rs, rs, H', ⟨kl⟩, ⟨ub BK228.out⟩, ⟨bb⟩⟩
   ·
    obtain rfl := s1 H
    go_wp2
    go_ret
    exact ⟨er, bb⟩
end Go.Proofs.YtncdadcmghglkaaGreatDoor.PFnPartSame
