/- Written by a program of this session out of the translation: each Go function named below as a Lean function, and the proof that the call answers as that function does; conditions: those in each statement. -/
import Derived.Test.YtncdadcmghglkaaGreatDoorVFnExactPartValidQt
import Derived.Test.YtncdadcmghglkaaGreatDoorVFnExactPartValidYt
import Derived.Test.YtncdadcmghglkaaGreatDoorPFnExactPartValidx0
import Derived.Test.YtncdadcmghglkaaGreatDoorPFnExactPartValidx19
-- short
-- dense
-- sq
namespace Go.Proofs.YtncdadcmghglkaaGreatDoor.PFnExactPartValid
open Go.RowKit Go.Proofs.YtncdadcmghglkaaGreatDoor.X Go.Proofs.YtncdadcmghglkaaGreatDoorW.PrintWords Go.Proofs.YtncdadcmghglkaaGreatDoorW.PrintLast Go.Proofs.YtncdadcmghglkaaGreatDoorW.PrintMore
attribute [local go_sem] max2_int min2_int max_two min_two max_three min_three max_four min_four   -- for this text's walks alone
set_option linter.unusedVariables false
set_option linter.unusedSimpArgs false

/-! ### laws_toFieldS: function 73 -/
def laws_toFieldS.l0 : Nat → List (S120) → List (S69) → Int → Option ((List (S69)))
 | 0, _, _, _ => none
 | k + 1, x0, x3, x4 => if x4 < (x0.length : Int) then (if 0 ≤ x4 then ((laws_toField.f ((rd_T120 x0 x4).f0) ((rd_T120 x0 x4).f1)).bind fun bt598 => (if x4 < (x3.length : Int) then (laws_toFieldS.l0 k x0 (x3.set (x4 : Int).toNat (⟨bt598.1, bt598.2⟩ : S69)) (wrap64 (x4 + 1))) else (none))) else (none)) else (some x3)
def laws_toFieldS.f (k : Nat) (l0 : List (S120)) : Option ((List (S69))) := if 0 ≤ (l0.length : Int) then (if ((l0.length : Int) : Int).toNat ≤ 8796093022208 then (laws_toFieldS.l0 k l0 (List.replicate ((l0.length : Int) : Int).toNat z69) 0) else (none)) else (none)
set_option maxHeartbeats 8000000 in
set_option maxRecDepth 100000 in
theorem laws_toFieldS.calls (k : Nat) (A0 : Option Addr) (c0 : Nat) (l0 : List (S120)) (r : List (S69)) (w : World) (hr0 : Kd.C k120 w A0 l0.length l0) (hc0 : l0.length ≤ c0) (h : laws_toFieldS.f k l0 = some r) :
  Calls Tryz.prog 73 #[.slice A0 l0.length c0] w fun e w' => ∃ v0_ : Value, e = .returned (v0_) ∧ Kd.R k69 69 w' w.heap.size (fun _ => True) v0_ r ∧ Below w.heap.size w w' := by
 have hu120 := Tryz.underlying120
 have hu69 := Tryz.underlying69
 have HR0 := ak hr0
 have HC0 := ak hc0
 clear hr0 hc0
 have HB := ak (Below.refl w.heap.size w)
 have H : (if 0 ≤ (l0.length : Int) then (if ((l0.length : Int) : Int).toNat ≤ 8796093022208 then (laws_toFieldS.l0 k l0 (List.replicate ((l0.length : Int) : Int).toNat z69) 0) else (none)) else (none)) = some r := h
 clear h
 replace H := ne_ H; obtain ⟨c2b0, c2b1, H⟩ := H; replace H := ne_ H; obtain ⟨c3b0, c3b1, H⟩ := H
 obtain ⟨y594, Ny594⟩ := nm (List.replicate ((l0.length : Int) : Int).toNat z69)
 rw [← Ny594.out] at H
 (try rw [Option.bind_some] at H)
 have H' := ak H; clear H
 go_enter Tryz.func73, Tryz.ntmps73
 go_wp2_with (first | ((with_reducible refine gate_dst (N := 7) rfl ?_); refine Kd.R_make k69 _ 69 rfl (N := 7) rfl 25 _ _ rfl (l0.length : Int) rfl rfl Tryz.underlying25 (.agg #[(.string ⟨#[]⟩), (.string ⟨#[]⟩)]) 32 info69 rfl (by decide) (by omega) z69 (ok := fun _ => True) (okp := fun _ => True) (k69_mkM _ _ _ z69 ) (fun _ hk => hk) trivial (of_decide_eq_true (by assumption)) (Nat.le_trans (Nat.mul_le_mul_right _ (of_decide_eq_true (by assumption) : (l0.length : Int).toNat ≤ 8796093022208)) (by omega)) (Below.refl _ _) (Nat.le_refl _) ?_; intro v595 w4 ho5 hb hg_ hnew_; clear hg_ hnew_; (first | rw [← Ny594.out] at ho5 | (simp only [Int.reduceToNat] at ho5; rw [← Ny594.out] at ho5)); have HO596 := ak (Kd.R_lower ho5 (below_size (ul HB.out))); replace HB := bs HB hb; clear hb ho5))
 go_loopg [4] k (fun kq v4 w' => ∃ (x3_1 : List (S69)) (x4_1 : Int), v4 = .int .i64 x4_1 ∧ Aside0 (laws_toFieldS.l0 kq l0 x3_1 x4_1 = some r) ∧ Aside0 (kq ≤ k) ∧ Aside0 (Kd.R k69 69 w' w.heap.size (fun _ => True) v595 x3_1) ∧ Aside0 (Below w.heap.size w w'))
 case atStart => exact ⟨(y594), (0), rs, H', ⟨Nat.le_refl _⟩, ⟨ur HO596.out⟩, ⟨ul HB.out⟩⟩
 case round =>
  clear H'
  try clear c2
  try clear c2b0
  try clear c2b1
  try clear p2
  try clear c3
  try clear c3b0
  try clear c3b1
  obtain ⟨x3_1, x4_1, rfl, HA, HK1, HO_3, HB⟩ := hrel
  cases gk with
  | zero => exact absurd HA.out (by simp [laws_toFieldS.l0])
  | succ k1 =>
   have H := HA.out
   clear HA
   simp only [laws_toFieldS.l0] at H
   replace H := sd H
   rcases H with ⟨c6b0, H⟩ | ⟨c6b0, H⟩
   ·
    replace H := nde H; obtain ⟨c7b0, H⟩ := H; replace H := bd H
    obtain ⟨⟨t598, t599⟩, A8, H⟩ := H
    (try dsimp only at H)
    replace H := nde H; obtain ⟨c9b0, H⟩ := H
    obtain ⟨y600, Ny600⟩ := nm (x3_1.set (x4_1 : Int).toNat (⟨t598, t599⟩ : S69))
    rw [← Ny600.out] at H
    (try rw [Option.bind_some] at H)
    have H' := ak H; clear H
    have p597 := zi x4_1
    have q597 := zj x4_1 l0.length
    obtain ⟨ad597, e597, hx597_0, hx597_1⟩ := at_T120 HR0.out x4_1 p597 q597
    cases e597
    replace hx597_0 := cl HB.out hx597_0
    replace hx597_1 := cl HB.out hx597_1
    replace p597 := eq_true p597
    replace q597 := eq_true q597
    go_wp2_with (first | (refine gL 116 20 Tryz.func116 #[.agg #[.string ((rd_T120 l0 x4_1).f0), .string ((rd_T120 l0 x4_1).f1)]] ?_; (with_reducible refine (laws_toField.calls ((rd_T120 l0 x4_1).f0) ((rd_T120 l0 x4_1).f1) t598 t599 _ A8.out).mono ?_); rintro e w11 ⟨rfl, hb⟩; refine ⟨_, rfl, ?_⟩; replace HO_3 := rb HO_3 hb; replace HB := bs HB hb; (try clear hb); have p10 : 0 ≤ (x4_1 : Int) := of_decide_eq_true (by assumption); have q10 : (x4_1 : Int) < ((x3_1.length : Int) : Int) := of_decide_eq_true (by assumption); obtain ⟨go10, co10, eo10, gb10, gl10, cl10, HG10⟩ := Kd.R_form HO_3.out (by omega); (first | cases eo10 | (injection eo10 with ea_ en_ ec_; (first | subst ea_ | (injection ea_ with ea_; subst ea_)); subst ec_; clear en_)); have GB10 := ak gb10; have GG10 := ak HG10; clear gb10 gl10 HG10; obtain ⟨ce10, hcl10, hM10, hcc10, hfr10⟩ := Kd.R_elem HO_3.out z69 (x4_1 : Int) p10 q10; obtain rfl := k69_openM hM10; have hx10_0 : w11.cell? ⟨go10, (x4_1 : Int).toNat * 2, none⟩ = some (.string ((rd_T69 x3_1 x4_1).f0)) := hcc10 0 _ rfl; have hx10_1 : w11.cell? ⟨go10, (x4_1 : Int).toNat * 2 + 1, none⟩ = some (.string ((rd_T69 x3_1 x4_1).f1)) := hcc10 1 _ rfl; have hf10_0 : w11.frozen? ⟨go10, (x4_1 : Int).toNat * 2, none⟩ = false := hfr10 0; have hf10_1 : w11.frozen? ⟨go10, (x4_1 : Int).toNat * 2 + 1, none⟩ = false := hfr10 1; (clear hcl10 hcc10 hfr10; (try clear hM10)); replace p10 := eq_true p10; replace q10 := eq_true q10; have HX12 := ak (show Kd.R k69 69 w11 w.heap.size (fun _ => True) (.slice (some ⟨go10, 0, none⟩) x3_1.length co10) x3_1 from (ur HO_3.out)); obtain ⟨ce12, hcl12, hM12, hcc12, hfr12⟩ := Kd.R_elem HX12.out z69 (x4_1 : Int) (of_decide_eq_true (by assumption)) (by have h_ : (x4_1 : Int) < ((x3_1.length : Int) : Int) := of_decide_eq_true (by assumption); first | exact h_ | (have e_ := (Kd.R_reads' HO_3.out).1; omega) | simpa using h_); obtain rfl := k69_openM hM12; have HP12 := Kd.R_seg HX12.out (x4_1 : Int) (of_decide_eq_true (by assumption)) (by have h_ : (x4_1 : Int) < ((x3_1.length : Int) : Int) := of_decide_eq_true (by assumption); first | exact h_ | (have e_ := (Kd.R_reads' HO_3.out).1; omega) | simpa using h_) (seg := [.string t598, .string t599]) (j := 0) hcl12 hcc12 (show 2 ≤ 2 from by decide) (x' := (⟨t598, t599⟩ : S69)) (k69_mkM _ _ _ (⟨t598, t599⟩ : S69) ) (fun _ hk => hk); have hx12_0 := hcc12 0 _ rfl; (try simp only [show (k69).sz = 2 from rfl, Nat.mul_one, Nat.add_zero] at hx12_0); have hf12_0 := hfr12 0; (try simp only [show (k69).sz = 2 from rfl, Nat.mul_one, Nat.add_zero] at hf12_0); have hx12_1 := hcc12 1 _ rfl; (try simp only [show (k69).sz = 2 from rfl, Nat.mul_one, Nat.add_zero] at hx12_1); have hf12_1 := hfr12 1; (try simp only [show (k69).sz = 2 from rfl, Nat.mul_one, Nat.add_zero] at hf12_1); (clear hcl12 hcc12 hfr12; (try clear hM12))) | ((with_reducible refine gate_store (t := 69) (p := 21) rfl ?_); refine store_event (t := 69) (p := 21) (v := ?vo_w13) (w1 := ((w11.setCell ⟨go10, (x4_1 : Int).toNat * 2, none⟩ (.string t598)).setCell ⟨go10, (x4_1 : Int).toNat * 2 + 1, none⟩ (.string t599))) ?hg ?ho ?hn ?hr ?_; (case ho => rfl); (case hg => rfl); (case hn => rfl); (case hr => first | (go_simp; done) | (go_simp; rfl)); intro w13 hw; have hg : w11.grownBy w13 (some go10) := (by rw [hw]; exact HP12.2); have hp_ : Kd.R k69 69 w13 w.heap.size (fun _ => True) (.slice (some ⟨go10, 0, none⟩) x3_1.length co10) y600 := (by rw [hw, Ny600.out]; exact HP12.1); clear HP12; replace HO_3 := ak (hp_); replace HB := ak ((by rw [hw]; exact below_set (below_set (HB.out) GB10.out) GB10.out : Below w.heap.size w w13)); clear hg hw hp_))
    go_roundg k1
    case measure => have := HK1.out; omega
    case rel => exact ⟨(y600), (wrap64 (x4_1 + 1)), rs, H', ⟨by have := HK1.out; omega⟩, ⟨ur HO_3.out⟩, ⟨ul HB.out⟩⟩
   ·
    obtain rfl := Option.some.inj H
    go_wp2
    go_ret
    exact ⟨_, er, ur HO_3.out, ul HB.out⟩

-- NOT PRINTED: function 74 (laws_toPartS)

-- NOT PRINTED: function 31 (laws_toPart)

/-! ### laws_eqStringS: function 35 -/
def laws_eqStringS.l0 : Nat → List ByteArray → List ByteArray → Int → Option (Bool)
 | 0, _, _, _ => none
 | k + 1, x0, x1, x5 => if x5 < (x0.length : Int) then (if 0 ≤ x5 then (if x5 < (x1.length : Int) then (if (rdOf ByteArray.empty x0 x5).toList = (rdOf ByteArray.empty x1 x5).toList then (laws_eqStringS.l0 k x0 x1 (wrap64 (x5 + 1))) else (some false)) else (none)) else (none)) else (some true)
def laws_eqStringS.f (k : Nat) (l0 : List ByteArray) (l1 : List ByteArray) : Option (Bool) := if (l0.length : Int) = (l1.length : Int) then (laws_eqStringS.l0 k l0 l1 0) else (some false)
set_option maxHeartbeats 8000000 in
set_option maxRecDepth 100000 in
theorem laws_eqStringS.calls (k : Nat) (A0 : Option Addr) (c0 : Nat) (l0 : List ByteArray) (A1 : Option Addr) (c1 : Nat) (l1 : List ByteArray) (r : Bool) (w : World) (hr0 : Kd.C Kd.string w A0 l0.length l0) (hc0 : l0.length ≤ c0) (hr1 : Kd.C Kd.string w A1 l1.length l1) (hc1 : l1.length ≤ c1) (h : laws_eqStringS.f k l0 l1 = some r) :
  Calls Tryz.prog 35 #[.slice A0 l0.length c0, .slice A1 l1.length c1] w fun e w' => e = .returned (.bool r) ∧ Drawn0 w w' := by
 have HR0 := ak hr0
 have HC0 := ak hc0
 clear hr0 hc0
 have HR1 := ak hr1
 have HC1 := ak hc1
 clear hr1 hc1
 have H : (if (l0.length : Int) = (l1.length : Int) then (laws_eqStringS.l0 k l0 l1 0) else (some false)) = some r := h
 clear h
 replace H := sp H
 rcases H with ⟨c3, H⟩ | ⟨c3, H⟩
 ·
  have c3b0 := beq_iff_eq.mpr c3
  have c3b1 := bne_eq_false_iff_eq.mpr c3
  have c3b2 : (l0.length == l1.length) = true := by first | simpa using c3 | (simp at c3 ⊢; omega)
  clear c3
  have H' := ak H; clear H
  go_enter Tryz.func35, Tryz.ntmps35
  go_wp2
  repeat (go_quiet (fail); try go_wp2)
  go_loopg [5] k (fun kq v5 w' => ∃ (x5_1 : Int), v5 = .int .i64 x5_1 ∧ Aside0 (laws_eqStringS.l0 kq l0 l1 x5_1 = some r) ∧ Aside0 (kq ≤ k) ∧ Drawn0 w w')
  case atStart => exact ⟨(0), rs, H', ⟨Nat.le_refl _⟩, dn⟩
  case round =>
   clear H'
   try clear c1
   try clear p2
   try clear c3
   try clear c3b0
   try clear c3b1
   try clear c3b2
   obtain ⟨x5_1, rfl, HA, HK1, ⟨m1, rfl⟩⟩ := hrel
   cases gk with
   | zero => exact absurd HA.out (by simp [laws_eqStringS.l0])
   | succ k1 =>
    have H := HA.out
    clear HA
    simp only [laws_eqStringS.l0] at H
    replace H := sd H
    rcases H with ⟨c4b0, H⟩ | ⟨c4b0, H⟩
    ·
     replace H := nde H; obtain ⟨c5b0, H⟩ := H; replace H := nde H; obtain ⟨c6b0, H⟩ := H; replace H := sq H
     rcases H with ⟨c7b0, c7b1, H⟩ | ⟨c7, c7b0, c7b1, H⟩
     ·
      have H' := ak H; clear H
      have p614 := zi x5_1
      have q614 := zj x5_1 l0.length
      obtain ⟨ad614, e614, hx614_0⟩ := Kd.at_string HR0.out x5_1 p614 q614
      cases e614
      replace p614 := eq_true p614
      replace q614 := eq_true q614
      have p615 := zi x5_1
      have q615 := zj x5_1 l1.length
      obtain ⟨ad615, e615, hx615_0⟩ := Kd.at_string HR1.out x5_1 p615 q615
      cases e615
      replace p615 := eq_true p615
      replace q615 := eq_true q615
      go_wp2
      repeat (go_quiet (fail); try go_wp2)
      go_roundg k1
      case measure => have := HK1.out; omega
      case rel => exact ⟨(wrap64 (x5_1 + 1)), rs, H', ⟨by have := HK1.out; omega⟩, dn⟩
     ·
      obtain rfl := Option.some.inj H
      have p614 := zi x5_1
      have q614 := zj x5_1 l0.length
      obtain ⟨ad614, e614, hx614_0⟩ := Kd.at_string HR0.out x5_1 p614 q614
      cases e614
      replace p614 := eq_true p614
      replace q614 := eq_true q614
      have p615 := zi x5_1
      have q615 := zj x5_1 l1.length
      obtain ⟨ad615, e615, hx615_0⟩ := Kd.at_string HR1.out x5_1 p615 q615
      cases e615
      replace p615 := eq_true p615
      replace q615 := eq_true q615
      go_wp2
      repeat (go_quiet (fail); try go_wp2)
      go_ret
      exact ⟨rs, dn⟩
    ·
     obtain rfl := Option.some.inj H
     go_wp2
     repeat (go_quiet (fail); try go_wp2)
     go_ret
     exact ⟨rs, dn⟩
 ·
  have c3b0 := beq_eq_false_iff_ne.mpr c3
  have c3b1 := bne_iff_ne.mpr c3
  have c3b2 : (l0.length == l1.length) = false := by first | simpa using c3 | (simp at c3 ⊢; omega)
  obtain rfl := Option.some.inj H
  go_enter Tryz.func35, Tryz.ntmps35
  go_wp2
  repeat (go_quiet (fail); try go_wp2)
  go_ret
  exact ⟨rs, dn⟩

/-! ### laws_eqField: function 117 -/
def laws_eqField.f (a0_0 : ByteArray) (a0_1 : ByteArray) (a1_0 : ByteArray) (a1_1 : ByteArray) : Option (Bool) := if a0_0.toList = a1_0.toList then (if a0_1.toList = a1_1.toList then (some true) else (some false)) else (some false)
set_option maxHeartbeats 8000000 in
set_option maxRecDepth 100000 in
theorem laws_eqField.calls (a0_0 : ByteArray) (a0_1 : ByteArray) (a1_0 : ByteArray) (a1_1 : ByteArray) (r : Bool) (w : World) (h : laws_eqField.f a0_0 a0_1 a1_0 a1_1 = some r) :
  Calls Tryz.prog 117 #[.agg #[.string a0_0, .string a0_1], .agg #[.string a1_0, .string a1_1]] w fun e w' => e = .returned (.bool r) ∧ Below w.heap.size w w' := by
 have hu69 := Tryz.underlying69
 have HB := ak (Below.refl w.heap.size w)
 have H : (if a0_0.toList = a1_0.toList then (if a0_1.toList = a1_1.toList then (some true) else (some false)) else (some false)) = some r := h
 clear h
 replace H := sq H
 rcases H with ⟨c3b0, c3b1, H⟩ | ⟨c3, c3b0, c3b1, H⟩
 ·
  replace H := sq H
  rcases H with ⟨c4b0, c4b1, H⟩ | ⟨c4, c4b0, c4b1, H⟩
  ·
   obtain rfl := Option.some.inj H
   go_enter Tryz.func117, Tryz.ntmps117
   go_wp2_with (first | (refine bE 2 #[.string a0_0, .string a0_1] 69 ?_; intro gb616 hg w5 hbox hb; have BK616 := ak (hbox); have GW616 := ge_ HB hg; have GE616 := ge_ HB hg; replace HB := bs HB hb; clear hb hbox hg) | (refine bE 3 #[.string a1_0, .string a1_1] 69 ?_; intro gb617 hg w6 hbox hb; have BK617 := ak (hbox); have GW617 := ak ((by rw [hg]; exact (below_size bb) : w.heap.size ≤ gb617)); have GE617 := ak ((by rw [hg]; exact (below_size bb) : w.heap.size ≤ gb617)); have NB616_617 := ak ((by rw [hg]; exact Nat.ne_of_lt (blk_lt (ub BK616.out)) : gb616 ≠ gb617)); have NB617_616 := ak ((by rw [hg]; exact Nat.ne_of_gt (blk_lt (ub BK616.out)) : gb617 ≠ gb616)); replace BK616 := kb BK616 hb; replace HB := ak (below_step bb hb); clear hb hbox hg; have hnb7 := NB616_617.out; have hnc7 := NB617_616.out; obtain ⟨hcz8_0, hcz8_1, hfz8_0, hfz8_1⟩ := cz2 BK616.out; obtain ⟨hcz9_0, hcz9_1, hfz9_0, hfz9_1⟩ := cz2 BK617.out))
   go_ret
   exact ⟨er, bb⟩
  ·
   obtain rfl := Option.some.inj H
   go_enter Tryz.func117, Tryz.ntmps117
   go_wp2_with (first | (refine bE 2 #[.string a0_0, .string a0_1] 69 ?_; intro gb616 hg w10 hbox hb; have BK616 := ak (hbox); have GW616 := ge_ HB hg; have GE616 := ge_ HB hg; replace HB := bs HB hb; clear hb hbox hg) | (refine bE 3 #[.string a1_0, .string a1_1] 69 ?_; intro gb617 hg w11 hbox hb; have BK617 := ak (hbox); have GW617 := ak ((by rw [hg]; exact (below_size bb) : w.heap.size ≤ gb617)); have GE617 := ak ((by rw [hg]; exact (below_size bb) : w.heap.size ≤ gb617)); have NB616_617 := ak ((by rw [hg]; exact Nat.ne_of_lt (blk_lt (ub BK616.out)) : gb616 ≠ gb617)); have NB617_616 := ak ((by rw [hg]; exact Nat.ne_of_gt (blk_lt (ub BK616.out)) : gb617 ≠ gb616)); replace BK616 := kb BK616 hb; replace HB := ak (below_step bb hb); clear hb hbox hg; have hnb12 := NB616_617.out; have hnc12 := NB617_616.out; obtain ⟨hcz13_0, hcz13_1, hfz13_0, hfz13_1⟩ := cz2 BK616.out; obtain ⟨hcz14_0, hcz14_1, hfz14_0, hfz14_1⟩ := cz2 BK617.out))
   go_ret
   exact ⟨er, bb⟩
 ·
  obtain rfl := Option.some.inj H
  go_enter Tryz.func117, Tryz.ntmps117
  go_wp2_with (first | (refine bE 2 #[.string a0_0, .string a0_1] 69 ?_; intro gb616 hg w15 hbox hb; have BK616 := ak (hbox); have GW616 := ge_ HB hg; have GE616 := ge_ HB hg; replace HB := bs HB hb; clear hb hbox hg) | (refine bE 3 #[.string a1_0, .string a1_1] 69 ?_; intro gb617 hg w16 hbox hb; have BK617 := ak (hbox); have GW617 := ak ((by rw [hg]; exact (below_size bb) : w.heap.size ≤ gb617)); have GE617 := ak ((by rw [hg]; exact (below_size bb) : w.heap.size ≤ gb617)); have NB616_617 := ak ((by rw [hg]; exact Nat.ne_of_lt (blk_lt (ub BK616.out)) : gb616 ≠ gb617)); have NB617_616 := ak ((by rw [hg]; exact Nat.ne_of_gt (blk_lt (ub BK616.out)) : gb617 ≠ gb616)); replace BK616 := kb BK616 hb; replace HB := ak (below_step bb hb); clear hb hbox hg; have hnb17 := NB616_617.out; have hnc17 := NB617_616.out; obtain ⟨hcz18_0, hcz18_1, hfz18_0, hfz18_1⟩ := cz2 BK616.out; obtain ⟨hcz19_0, hcz19_1, hfz19_0, hfz19_1⟩ := cz2 BK617.out))
  go_ret
  exact ⟨er, bb⟩

/-! ### laws_eqFieldS: function 75 -/
def laws_eqFieldS.l0 : Nat → List (S69) → List (S69) → Int → Option (Bool)
 | 0, _, _, _ => none
 | k + 1, x0, x1, x5 => if x5 < (x0.length : Int) then (if 0 ≤ x5 then (if x5 < (x1.length : Int) then ((laws_eqField.f ((rd_T69 x0 x5).f0) ((rd_T69 x0 x5).f1) ((rd_T69 x1 x5).f0) ((rd_T69 x1 x5).f1)).bind fun t620 => (if t620 = true then (laws_eqFieldS.l0 k x0 x1 (wrap64 (x5 + 1))) else (some false))) else (none)) else (none)) else (some true)
def laws_eqFieldS.f (k : Nat) (l0 : List (S69)) (l1 : List (S69)) : Option (Bool) := if (l0.length : Int) = (l1.length : Int) then (laws_eqFieldS.l0 k l0 l1 0) else (some false)
def laws_eqFieldS.T6 : Bool × List (List Nat × List Nat) := (true, [([], []), ([], []), ([0, 1], [0, 1]), ([2], [2]), ([], []), ([], []), ([4, 5], [4, 5]), ([6], [6]), ([3, 7], [3, 7]), ([8], [8])])
def laws_eqFieldS.B6 : List Nat := [0, 0, 3, 7, 0, 0, 48, 112, 255, 511]
theorem laws_eqFieldS.tab6 : rtab .any (opsOf Tryz.f75 6) = laws_eqFieldS.T6 := by kernel_rfl
theorem laws_eqFieldS.bits6 : waitsOk laws_eqFieldS.T6.2 laws_eqFieldS.B6 = true := by kernel_rfl
set_option maxHeartbeats 8000000 in
set_option maxRecDepth 100000 in
theorem laws_eqFieldS.calls (k : Nat) (A0 : Option Addr) (c0 : Nat) (l0 : List (S69)) (A1 : Option Addr) (c1 : Nat) (l1 : List (S69)) (r : Bool) (w : World) (hr0 : Kd.C k69 w A0 l0.length l0) (hc0 : l0.length ≤ c0) (hr1 : Kd.C k69 w A1 l1.length l1) (hc1 : l1.length ≤ c1) (h : laws_eqFieldS.f k l0 l1 = some r) :
  Calls Tryz.prog 75 #[.slice A0 l0.length c0, .slice A1 l1.length c1] w fun e w' => e = .returned (.bool r) ∧ Below w.heap.size w w' := by
 have hu69 := Tryz.underlying69
 have HR0 := ak hr0
 have HC0 := ak hc0
 clear hr0 hc0
 have HR1 := ak hr1
 have HC1 := ak hc1
 clear hr1 hc1
 have HB := ak (Below.refl w.heap.size w)
 have H : (if (l0.length : Int) = (l1.length : Int) then (laws_eqFieldS.l0 k l0 l1 0) else (some false)) = some r := h
 clear h
 replace H := sp H
 rcases H with ⟨c3, H⟩ | ⟨c3, H⟩
 ·
  have c3b0 := beq_iff_eq.mpr c3
  have c3b1 := bne_eq_false_iff_eq.mpr c3
  have c3b2 : (l0.length == l1.length) = true := by first | simpa using c3 | (simp at c3 ⊢; omega)
  clear c3
  have H' := ak H; clear H
  go_enter Tryz.func75, Tryz.ntmps75
  go_wp2
  go_loopg [5] k (fun kq v5 w' => ∃ (x5_1 : Int), v5 = .int .i64 x5_1 ∧ Aside0 (laws_eqFieldS.l0 kq l0 l1 x5_1 = some r) ∧ Aside0 (kq ≤ k) ∧ Aside0 (Below w.heap.size w w'))
  case atStart => exact ⟨(0), rs, H', ⟨Nat.le_refl _⟩, ⟨ul HB.out⟩⟩
  case round =>
   clear H'
   try clear c1
   try clear p2
   try clear c3
   try clear c3b0
   try clear c3b1
   try clear c3b2
   obtain ⟨x5_1, rfl, HA, HK1, HB⟩ := hrel
   cases gk with
   | zero => exact absurd HA.out (by simp [laws_eqFieldS.l0])
   | succ k1 =>
    have H := HA.out
    clear HA
    simp only [laws_eqFieldS.l0] at H
    replace H := sd H
    rcases H with ⟨c4b0, H⟩ | ⟨c4b0, H⟩
    ·
     replace H := nde H; obtain ⟨c5b0, H⟩ := H; replace H := nde H; obtain ⟨c6b0, H⟩ := H; replace H := bd H; obtain ⟨t620, A7, H⟩ := H; replace H := sb H
     rcases H with ⟨rfl, H⟩ | ⟨rfl, H⟩
     ·
      have H' := ak H; clear H
      try go_wp2
      replace HB := ak (below_drew1 HB.out)
      have p618 := zi x5_1
      have q618 := zj x5_1 l0.length
      obtain ⟨ad618, e618, hx618_0, hx618_1⟩ := at_T69 HR0.out x5_1 p618 q618
      have hw618_1 := hx618_1
      have hw618_0 := hx618_0
      cases e618
      replace hx618_0 := cl HB.out hx618_0
      replace hx618_1 := cl HB.out hx618_1
      replace p618 := eq_true p618
      replace q618 := eq_true q618
      have p619 := zi x5_1
      have q619 := zj x5_1 l1.length
      obtain ⟨ad619, e619, hx619_0, hx619_1⟩ := at_T69 HR1.out x5_1 p619 q619
      have hw619_1 := hx619_1
      have hw619_0 := hx619_0
      cases e619
      replace hx619_0 := cl HB.out hx619_0
      replace hx619_1 := cl HB.out hx619_1
      replace p619 := eq_true p619
      replace q619 := eq_true q619
      refine ro [8] [0, 1, 2, 4, 5, 6, 3, 7, 8, 9] (fun w' => w'.cell? (ad618.add ((x5_1).toNat * 2)) = some (.string ((rd_T69 l0 x5_1).f0)) ∧ w'.cell? ⟨(ad618.add ((x5_1).toNat * 2)).block, (ad618.add ((x5_1).toNat * 2)).off + 1, none⟩ = some (.string ((rd_T69 l0 x5_1).f1)) ∧ w'.cell? (ad619.add ((x5_1).toNat * 2)) = some (.string ((rd_T69 l1 x5_1).f0)) ∧ w'.cell? ⟨(ad619.add ((x5_1).toNat * 2)).block, (ad619.add ((x5_1).toNat * 2)).off + 1, none⟩ = some (.string ((rd_T69 l1 x5_1).f1))) ⟨((HB.out.cell (World.block_lt_of_cell? w _ hw618_0)).trans hw618_0), ((HB.out.cell (World.block_lt_of_cell? w _ hw618_1)).trans hw618_1), ((HB.out.cell (World.block_lt_of_cell? w _ hw619_0)).trans hw619_0), ((HB.out.cell (World.block_lt_of_cell? w _ hw619_1)).trans hw619_1)⟩ ?_
      generalize wr.drew = w9 at HB hx618_0 hx618_1 hx619_0 hx619_1 ⊢
      repeat (refine lk (v := ?_) (a' := ?_) (by simp only [List.getElem?_toArray, List.getElem?_cons_zero, List.getElem?_cons_succ]; rfl) rfl rfl ?_ ?_ ?_; rotate_left; (focus (rintro w' ⟨s0, s1, s2, s3⟩; go_simp; with_reducible rfl)); rotate_left; (focus (simp only [Act.put, l_a, l_b, l_c, i64_w, i32_w]; rfl)))
      refine ld (N := some 25) (by simp only [List.getElem?_toArray, List.getElem?_cons_zero, List.getElem?_cons_succ]; rfl) rfl rfl (fun K hK => ?_)
      refine goes_ Tryz.func117 (by kernel_rfl) rfl #[.agg #[.string ((rd_T69 l0 x5_1).f0), .string ((rd_T69 l0 x5_1).f1)], .agg #[.string ((rd_T69 l1 x5_1).f0), .string ((rd_T69 l1 x5_1).f1)]] (by rfl) rfl rfl ma ?_
      with_reducible refine (laws_eqField.calls ((rd_T69 l0 x5_1).f0) ((rd_T69 l0 x5_1).f1) ((rd_T69 l1 x5_1).f0) ((rd_T69 l1 x5_1).f1) true _ A7.out).mono ?_
      rintro e w10 ⟨rfl, hb⟩
      refine ⟨_, rfl, ?_⟩
      replace HB := bs HB hb
      (try clear hb)
      refine hK.out _ _ ⟨((HB.out.cell (World.block_lt_of_cell? w _ hw618_0)).trans hw618_0), ((HB.out.cell (World.block_lt_of_cell? w _ hw618_1)).trans hw618_1), ((HB.out.cell (World.block_lt_of_cell? w _ hw619_0)).trans hw619_0), ((HB.out.cell (World.block_lt_of_cell? w _ hw619_1)).trans hw619_1)⟩ ?_
      clear hK K
      refine no (a' := ?_) ?_ ?_
      rotate_left
      ·
       show Act.put _ (some 25) _ = _
       simp only [Act.put, l_a, l_b, l_c, i64_w, i32_w]
       rfl
      repeat (refine lk (v := ?_) (a' := ?_) (by simp only [List.getElem?_toArray, List.getElem?_cons_zero, List.getElem?_cons_succ]; rfl) rfl rfl ?_ ?_ ?_; rotate_left; (focus (rintro w' ⟨s0, s1, s2, s3⟩; go_simp; with_reducible rfl)); rotate_left; (focus (simp only [Act.put, l_a, l_b, l_c, i64_w, i32_w]; rfl)))
      refine on ?_
      try go_wp2
      go_roundg k1
      case measure => have := HK1.out; omega
      case rel => exact ⟨(wrap64 (x5_1 + 1)), rs, H', ⟨by have := HK1.out; omega⟩, ⟨ul HB.out⟩⟩
     ·
      obtain rfl := Option.some.inj H
      try go_wp2
      replace HB := ak (below_drew1 HB.out)
      have p618 := zi x5_1
      have q618 := zj x5_1 l0.length
      obtain ⟨ad618, e618, hx618_0, hx618_1⟩ := at_T69 HR0.out x5_1 p618 q618
      have hw618_1 := hx618_1
      have hw618_0 := hx618_0
      cases e618
      replace hx618_0 := cl HB.out hx618_0
      replace hx618_1 := cl HB.out hx618_1
      replace p618 := eq_true p618
      replace q618 := eq_true q618
      have p619 := zi x5_1
      have q619 := zj x5_1 l1.length
      obtain ⟨ad619, e619, hx619_0, hx619_1⟩ := at_T69 HR1.out x5_1 p619 q619
      have hw619_1 := hx619_1
      have hw619_0 := hx619_0
      cases e619
      replace hx619_0 := cl HB.out hx619_0
      replace hx619_1 := cl HB.out hx619_1
      replace p619 := eq_true p619
      replace q619 := eq_true q619
      refine ro [8] [0, 1, 2, 4, 5, 6, 3, 7, 8, 9] (fun w' => w'.cell? (ad618.add ((x5_1).toNat * 2)) = some (.string ((rd_T69 l0 x5_1).f0)) ∧ w'.cell? ⟨(ad618.add ((x5_1).toNat * 2)).block, (ad618.add ((x5_1).toNat * 2)).off + 1, none⟩ = some (.string ((rd_T69 l0 x5_1).f1)) ∧ w'.cell? (ad619.add ((x5_1).toNat * 2)) = some (.string ((rd_T69 l1 x5_1).f0)) ∧ w'.cell? ⟨(ad619.add ((x5_1).toNat * 2)).block, (ad619.add ((x5_1).toNat * 2)).off + 1, none⟩ = some (.string ((rd_T69 l1 x5_1).f1))) ⟨((HB.out.cell (World.block_lt_of_cell? w _ hw618_0)).trans hw618_0), ((HB.out.cell (World.block_lt_of_cell? w _ hw618_1)).trans hw618_1), ((HB.out.cell (World.block_lt_of_cell? w _ hw619_0)).trans hw619_0), ((HB.out.cell (World.block_lt_of_cell? w _ hw619_1)).trans hw619_1)⟩ ?_
      generalize wr.drew = w11 at HB hx618_0 hx618_1 hx619_0 hx619_1 ⊢
      repeat (refine lk (v := ?_) (a' := ?_) (by simp only [List.getElem?_toArray, List.getElem?_cons_zero, List.getElem?_cons_succ]; rfl) rfl rfl ?_ ?_ ?_; rotate_left; (focus (rintro w' ⟨s0, s1, s2, s3⟩; go_simp; with_reducible rfl)); rotate_left; (focus (simp only [Act.put, l_a, l_b, l_c, i64_w, i32_w]; rfl)))
      refine ld (N := some 25) (by simp only [List.getElem?_toArray, List.getElem?_cons_zero, List.getElem?_cons_succ]; rfl) rfl rfl (fun K hK => ?_)
      refine goes_ Tryz.func117 (by kernel_rfl) rfl #[.agg #[.string ((rd_T69 l0 x5_1).f0), .string ((rd_T69 l0 x5_1).f1)], .agg #[.string ((rd_T69 l1 x5_1).f0), .string ((rd_T69 l1 x5_1).f1)]] (by rfl) rfl rfl ma ?_
      with_reducible refine (laws_eqField.calls ((rd_T69 l0 x5_1).f0) ((rd_T69 l0 x5_1).f1) ((rd_T69 l1 x5_1).f0) ((rd_T69 l1 x5_1).f1) false _ A7.out).mono ?_
      rintro e w12 ⟨rfl, hb⟩
      refine ⟨_, rfl, ?_⟩
      replace HB := bs HB hb
      (try clear hb)
      refine hK.out _ _ ⟨((HB.out.cell (World.block_lt_of_cell? w _ hw618_0)).trans hw618_0), ((HB.out.cell (World.block_lt_of_cell? w _ hw618_1)).trans hw618_1), ((HB.out.cell (World.block_lt_of_cell? w _ hw619_0)).trans hw619_0), ((HB.out.cell (World.block_lt_of_cell? w _ hw619_1)).trans hw619_1)⟩ ?_
      clear hK K
      refine no (a' := ?_) ?_ ?_
      rotate_left
      ·
       show Act.put _ (some 25) _ = _
       simp only [Act.put, l_a, l_b, l_c, i64_w, i32_w]
       rfl
      repeat (refine lk (v := ?_) (a' := ?_) (by simp only [List.getElem?_toArray, List.getElem?_cons_zero, List.getElem?_cons_succ]; rfl) rfl rfl ?_ ?_ ?_; rotate_left; (focus (rintro w' ⟨s0, s1, s2, s3⟩; go_simp; with_reducible rfl)); rotate_left; (focus (simp only [Act.put, l_a, l_b, l_c, i64_w, i32_w]; rfl)))
      refine on ?_
      try go_wp2
      go_ret
      exact ⟨er, ul HB.out⟩
    ·
     obtain rfl := Option.some.inj H
     go_wp2
     go_ret
     exact ⟨er, ul HB.out⟩
 ·
  have c3b0 := beq_eq_false_iff_ne.mpr c3
  have c3b1 := bne_iff_ne.mpr c3
  have c3b2 : (l0.length == l1.length) = false := by first | simpa using c3 | (simp at c3 ⊢; omega)
  obtain rfl := Option.some.inj H
  go_enter Tryz.func75, Tryz.ntmps75
  go_wp2
  go_ret
  exact ⟨er, ul HB.out⟩

-- NOT PRINTED: function 76 (laws_eqPartS)

-- NOT PRINTED: function 32 (laws_eqPart)

-- NOT PRINTED: function 6 (laws_FnExactPartValid)

end Go.Proofs.YtncdadcmghglkaaGreatDoor.PFnExactPartValid
