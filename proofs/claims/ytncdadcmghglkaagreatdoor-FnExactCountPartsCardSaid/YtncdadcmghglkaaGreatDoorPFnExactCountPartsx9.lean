/- Printed walks; conditions: those in each statement. -/
import Derived.Test.YtncdadcmghglkaaGreatDoorVFnExactCountPartsQt
import Derived.Test.YtncdadcmghglkaaGreatDoorVFnExactCountPartsYt
import Derived.Test.YtncdadcmghglkaaGreatDoorPFnExactCountPartsx0
import Derived.Test.YtncdadcmghglkaaGreatDoorPFnExactCountPartsx2
import Derived.Test.YtncdadcmghglkaaGreatDoorPFnExactCountPartsx4
import Derived.Test.YtncdadcmghglkaaGreatDoorPFnExactCountPartsx8
-- short
-- dense
-- sq
namespace Go.Proofs.YtncdadcmghglkaaGreatDoor.PFnExactCountParts
open Go.RowKit Go.Proofs.YtncdadcmghglkaaGreatDoor.X Go.Proofs.YtncdadcmghglkaaGreatDoorW.PrintWords Go.Proofs.YtncdadcmghglkaaGreatDoorW.PrintLast Go.Proofs.YtncdadcmghglkaaGreatDoorW.PrintMore
attribute [local go_sem] max2_int min2_int max_two min_two max_three min_three max_four min_four   -- for this text's walks alone
set_option linter.unusedVariables false
set_option linter.unusedSimpArgs false
def spec_l7Looks.f (a0 : ByteArray) (a1 : ByteArray) : Option (Bool) := if 2 + a1.size ≤ 9223372036854775807 then (if a0.toList = ((⟨#[45, 45]⟩ : ByteArray) ++ a1).toList then (some true) else (if ((⟨#[45, 45]⟩ : ByteArray) ++ a1).size + 2 ≤ 9223372036854775807 then (some (a0.toList == (((⟨#[45, 45]⟩ : ByteArray) ++ a1) ++ (⟨#[45, 45]⟩ : ByteArray)).toList)) else (none))) else (none)
set_option maxHeartbeats 8000000 in
set_option maxRecDepth 100000 in
theorem spec_l7Looks.calls (a0 : ByteArray) (a1 : ByteArray) (r : Bool) (w : World) (h : spec_l7Looks.f a0 a1 = some r) :
  Calls Tryz.prog 115 #[.string a0, .string a1] w fun e w' => e = .returned (.bool r) ∧ Drawn0 w w' := by
 have H : (if 2 + a1.size ≤ 9223372036854775807 then (if a0.toList = ((⟨#[45, 45]⟩ : ByteArray) ++ a1).toList then (some true) else (if ((⟨#[45, 45]⟩ : ByteArray) ++ a1).size + 2 ≤ 9223372036854775807 then (some (a0.toList == (((⟨#[45, 45]⟩ : ByteArray) ++ a1) ++ (⟨#[45, 45]⟩ : ByteArray)).toList)) else (none))) else (none)) = some r := h
 clear h
 replace H := nn H; obtain ⟨c3, H⟩ := H
 have c3b0 := eq_true c3
 have c3b1 := decide_eq_true c3
 try have c3b2 : (9223372036854775807 < 2 + a1.size) = False := eq_false (Nat.not_lt.2 c3)
 replace H := sq H
 rcases H with ⟨c4b0, c4b1, H⟩ | ⟨c4, c4b0, c4b1, H⟩
 ·
  obtain rfl := Option.some.inj H
  go_enter Tryz.func115, Tryz.ntmps115
  go_wp2
  go_ret
  exact ⟨rs, dn⟩
 ·
  replace H := nn H; obtain ⟨c5, H⟩ := H
  have c5b0 := eq_true c5
  have c5b1 := decide_eq_true c5
  try have c5b3 : (9223372036854775807 < 2 + a1.size + 2) = False := by have h_ := (eq_false (Nat.not_lt.2 c5) : (9223372036854775807 < ((⟨#[45, 45]⟩ : ByteArray) ++ a1).size + 2) = False); simp only [ByteArray.size_append] at h_; exact h_
  try have c5b2 : (9223372036854775807 < ((⟨#[45, 45]⟩ : ByteArray) ++ a1).size + 2) = False := eq_false (Nat.not_lt.2 c5)
  obtain rfl := Option.some.inj H
  go_enter Tryz.func115, Tryz.ntmps115
  go_wp2
  go_ret
  exact ⟨rs, dn⟩
mutual
def spec_JoinParts.j0 : Nat → List (List ByteArray) → ByteArray → List ByteArray → Bool → Option (List ByteArray × Bool)
 | 0, _, _, _, _ => none
 | k + 1, x0, x1, x6, x17 => if x17 = true then (some (x6, false)) else (spec_JoinParts.l0 k x0 x1 x6 0)
def spec_JoinParts.l0 : Nat → List (List ByteArray) → ByteArray → List ByteArray → Int → Option (List ByteArray × Bool)
 | 0, _, _, _, _ => none
 | k + 1, x0, x1, x6, x7 => if x7 < (x0.length : Int) then (if 2 + x1.size ≤ 9223372036854775807 then (if x6.length < 8796093022208 then (spec_JoinParts.l1 k x0 x1 (x6 ++ [(⟨#[45, 45]⟩ : ByteArray) ++ x1]) x7 0) else (none)) else (none)) else (if 2 + x1.size ≤ 9223372036854775807 then (if ((⟨#[45, 45]⟩ : ByteArray) ++ x1).size + 2 ≤ 9223372036854775807 then (if x6.length < 8796093022208 then (some ((x6 ++ [((⟨#[45, 45]⟩ : ByteArray) ++ x1) ++ (⟨#[45, 45]⟩ : ByteArray)]), true)) else (none)) else (none)) else (none))
def spec_JoinParts.l1 : Nat → List (List ByteArray) → ByteArray → List ByteArray → Int → Int → Option (List ByteArray × Bool)
 | 0, _, _, _, _, _ => none
 | k + 1, x0, x1, x6, x7, x8 => if 0 ≤ x7 then (if x7 < (x0.length : Int) then (if x8 < ((rd_L3 x0 x7).length : Int) then (if 0 ≤ x8 then ((spec_l7Looks.f (rdOf ByteArray.empty (rd_L3 x0 x7) x8) x1).bind fun t315 => (if t315 = true then (some ((([] : List ByteArray)), false)) else (if x6.length < 8796093022208 then (spec_JoinParts.l1 k x0 x1 (x6 ++ [rdOf ByteArray.empty (rd_L3 x0 x7) x8]) x7 (wrap64 (x8 + 1))) else (none)))) else (none)) else (spec_JoinParts.l0 k x0 x1 x6 (wrap64 (x7 + 1)))) else (none)) else (none)
end
def spec_JoinParts.f (k : Nat) (l0 : List (List ByteArray)) (a1 : ByteArray) : Option (List ByteArray × Bool) := (some (([] : List ByteArray) : List ByteArray)).bind fun y302 => ((spec_l7Boundary.f k a1).bind fun t305 => (if t305 = true then (spec_JoinParts.j0 k l0 a1 y302 ((l0.length : Int) == 0)) else (spec_JoinParts.j0 k l0 a1 y302 true)))
set_option maxHeartbeats 8000000 in
set_option maxRecDepth 100000 in
theorem spec_JoinParts.calls (k : Nat) (A0 : Option Addr) (c0 : Nat) (l0 : List (List ByteArray)) (a1 : ByteArray) (r1 : List ByteArray) (r2 : Bool) (w : World) (hr0 : Kd.C (Kd.slice 9 Kd.string) w A0 l0.length l0) (hc0 : l0.length ≤ c0) (h : spec_JoinParts.f k l0 a1 = some (r1, r2)) :
  Calls Tryz.prog 109 #[.slice A0 l0.length c0, .string a1] w fun e w' => ∃ v0_ : Value, e = .returned (.tuple #[v0_, .bool r2]) ∧ Kd.R Kd.string 9 w' w.heap.size (fun _ => True) v0_ r1 ∧ Below w.heap.size w w' := by
 have HR0 := ak hr0
 have HC0 := ak hc0
 clear hr0 hc0
 have HB := ak (Below.refl w.heap.size w)
 have H : ((some (([] : List ByteArray) : List ByteArray)).bind fun y302 => ((spec_l7Boundary.f k a1).bind fun t305 => (if t305 = true then (spec_JoinParts.j0 k l0 a1 y302 ((l0.length : Int) == 0)) else (spec_JoinParts.j0 k l0 a1 y302 true)))) = some (r1, r2) := h
 clear h
 obtain ⟨y302, Ny302⟩ := nm ([] : List ByteArray)
 rw [← Ny302.out] at H
 (try rw [Option.bind_some] at H)
 have HC3 := ak H
 clear H
 go_enter Tryz.func109, Tryz.ntmps109
 go_upto_region 2 with (first | ((with_reducible refine gate_dst (N := 9) rfl ?_); (try (refine gate_guard (by rfl) ?_; dsimp only)); refine Kd.R_lit Kd.string _ 9 ?hg (N := 9) ?hd (xs := ([] : List ByteArray)) (inner := []) (ok := fun _ => True) (okp := fun _ => True) ?hr ?hp (fun _ hk => hk) trivial (Below.refl _ _) (Nat.le_refl _) (by simp) ?_; (case hd => rfl); (case hg => rfl); (case hr => first | (go_simp; done) | (go_simp; rfl)); (case hp => exact (Reps.none _ _)); intro v303 w4 ho5 hb hg_ hnew_; clear hg_ hnew_; (first | rw [← Ny302.out] at ho5 | (simp only [Int.reduceToNat] at ho5; rw [← Ny302.out] at ho5)); have HO304 := ak (Kd.R_lower ho5 (below_size (ul HB.out))); replace HB := bs HB hb; clear hb ho5))
 (try simp only [Act.put, l_a, l_b, l_c])
 go_cut [17] (fun v17 wc => ∃ (kq : Nat) (x17_2 : Bool), v17 = .bool x17_2 ∧ Aside0 (spec_JoinParts.j0 kq l0 a1 y302 x17_2 = some (r1, r2)) ∧ Aside0 (kq ≤ k) ∧ Aside0 (Kd.R Kd.string 9 wc w.heap.size (fun _ => True) v303 y302) ∧ Aside0 (Below w.heap.size w wc))
 case first =>
  have H := HC3.out
  clear HC3
  replace H := bd H; obtain ⟨t305, A6, H⟩ := H; replace H := sb H
  rcases H with ⟨rfl, H⟩ | ⟨rfl, H⟩
  ·
   have H' := ak H; clear H
   go_wp2_with (first | (refine gL 157 11 Tryz.func157 #[.string a1] ?_; (with_reducible refine (spec_l7Boundary.calls k a1 true _ A6.out).mono ?_); rintro e w' ⟨rfl, ⟨nd, rfl⟩⟩; refine ⟨_, rfl, ?_⟩))
   go_meet
   case rel => exact ⟨_, (((l0.length : Int) == 0)), rs, H', ⟨le_⟩, ⟨ur HO304.out⟩, ⟨ul HB.out⟩⟩
  ·
   have H' := ak H; clear H
   go_wp2_with (first | (refine gL 157 11 Tryz.func157 #[.string a1] ?_; (with_reducible refine (spec_l7Boundary.calls k a1 false _ A6.out).mono ?_); rintro e w' ⟨rfl, ⟨nd, rfl⟩⟩; refine ⟨_, rfl, ?_⟩))
   go_meet
   case rel => exact ⟨_, (true), rs, H', ⟨le_⟩, ⟨ur HO304.out⟩, ⟨ul HB.out⟩⟩
 case rest =>
  clear HC3
  try clear c1
  try clear p2
  try clear c7
  obtain ⟨kq, x17_2, rfl, HA, HJ2, HO_6, HB⟩ := hcut
  cases kq with
  | zero => exact absurd HA.out (by simp [spec_JoinParts.j0])
  | succ kj2 =>
   have H := HA.out
   clear HA
   simp only [spec_JoinParts.j0] at H
   replace H := sb H
   rcases H with ⟨rfl, H⟩ | ⟨rfl, H⟩
   ·
    simp only [Option.some.injEq, Prod.mk.injEq] at H
    obtain ⟨rfl, rfl⟩ := H
    go_wp2
    go_ret2
    exact ⟨_, er, ur HO_6.out, ul HB.out⟩
   ·
    have H' := ak H; clear H
    go_wp2
    go_loopg [6, 7] kj2 (fun kq v6 v7 w' => ∃ (x6_2 : List ByteArray) (x7_2 : Int), v7 = .int .i64 x7_2 ∧ Aside0 (spec_JoinParts.l0 kq l0 a1 x6_2 x7_2 = some (r1, r2)) ∧ Aside0 (kq ≤ kj2) ∧ Aside0 (Kd.R Kd.string 9 w' w.heap.size (fun _ => True) v6 x6_2) ∧ Aside0 (Below w.heap.size w w'))
    case atStart => exact ⟨(y302), (0), rs, H', ⟨Nat.le_refl _⟩, ⟨ur HO_6.out⟩, ⟨ul HB.out⟩⟩
    case round =>
     clear H'
     try clear c1
     try clear p2
     try clear c7
     try clear c8
     try clear p2
     obtain ⟨x6_2, x7_2, rfl, HA, HK2, HO_6, HB⟩ := hrel
     cases gk with
     | zero => exact absurd HA.out (by simp [spec_JoinParts.l0])
     | succ k2 =>
      have H := HA.out
      clear HA
      simp only [spec_JoinParts.l0] at H
      replace H := sd H
      rcases H with ⟨c9b0, H⟩ | ⟨c9b0, H⟩
      ·
       replace H := nn H; obtain ⟨c10, H⟩ := H
       have c10b0 := eq_true c10
       have c10b1 := decide_eq_true c10
       try have c10b2 : (9223372036854775807 < 2 + a1.size) = False := eq_false (Nat.not_lt.2 c10)
       replace H := nl H; obtain ⟨LMc11, H⟩ := H
       obtain ⟨y309, Ny309⟩ := nm (x6_2 ++ [(⟨#[45, 45]⟩ : ByteArray) ++ a1])
       rw [← Ny309.out] at H
       (try rw [Option.bind_some] at H)
       have H' := ak H; clear H
       go_wp2_with (first | ((with_reducible refine gate_builtin (b := .append) (xs := #[.tmp 25, .tmp 28]) rfl ?_); (try (refine gate_guard (by rfl) ?_; dsimp only)); at_builtin; refine Kd.R_append Kd.string (w0 := w) w.heap.size rfl (.tmp 25) (.tmp 28) 23 9 (.string ⟨#[]⟩) 16 rfl Tryz.underlying23 info9 rfl (by decide) (by omega) u6 x6_2 ((⟨#[45, 45]⟩ : ByteArray) ++ a1) [.string ((⟨#[45, 45]⟩ : ByteArray) ++ a1)] (fun _ => True) (fun _ => False) rfl rfl ?aP (fun _ hk => hk.elim) ?aF ?aO ?aB ?aS ?aL ?_; (case aP => exact rfl); (case aB => exact (ul HB.out)); (case aF => exact (fun _ _ => trivial)); (case aO => exact (ur HO_6.out)); (case aS => exact (below_size (ul HB.out))); (case aL => have := LMc11.out; omega); intro v310 w12 ho hb hg hat; rw [← Ny309.out] at ho; have n0_ := ak (hb); have n1_ := ak (ho); clear HB; clear HO_6; have HB := n0_; have HO311 := n1_; clear n0_ n1_; clear ho hb hg hat))
       go_loopg [6, 8] k2 (fun kq v6 v8 w' => ∃ (x6_3 : List ByteArray) (x8_3 : Int), v8 = .int .i64 x8_3 ∧ Aside0 (spec_JoinParts.l1 kq l0 a1 x6_3 x7_2 x8_3 = some (r1, r2)) ∧ Aside0 (kq ≤ k2) ∧ Aside0 (Kd.R Kd.string 9 w' w.heap.size (fun _ => True) v6 x6_3) ∧ Aside0 (Below w.heap.size w w'))
       case atStart => exact ⟨(y309), (0), rs, H', ⟨Nat.le_refl _⟩, ⟨ur HO311.out⟩, ⟨ul HB.out⟩⟩
       case round =>
        clear H'
        try clear c1
        try clear p2
        try clear c7
        try clear c8
        try clear c9
        try clear c9b0
        try clear c10
        try clear c10b0
        try clear c10b1
        try clear c10b2
        try clear c11
        try clear p2
        obtain ⟨x6_3, x8_3, rfl, HA, HK3, HO_6, HB⟩ := hrel
        cases gk with
        | zero => exact absurd HA.out (by simp [spec_JoinParts.l1])
        | succ k3 =>
         have H := HA.out
         clear HA
         simp only [spec_JoinParts.l1] at H
         replace H := nde H; obtain ⟨c13b0, H⟩ := H; replace H := nde H; obtain ⟨c14b0, H⟩ := H; replace H := sd H
         rcases H with ⟨c15b0, H⟩ | ⟨c15b0, H⟩
         ·
          replace H := nde H; obtain ⟨c16b0, H⟩ := H; replace H := bd H; obtain ⟨t315, A17, H⟩ := H; replace H := sb H
          rcases H with ⟨rfl, H⟩ | ⟨rfl, H⟩
          ·
           obtain ⟨y316, Ny316⟩ := nm ([] : List ByteArray)
           rw [← Ny316.out] at H
           (try rw [Option.bind_some] at H)
           simp only [Option.some.injEq, Prod.mk.injEq] at H
           obtain ⟨rfl, rfl⟩ := H
           have p312 := zi x7_2
           have q312 := zj x7_2 l0.length
           obtain ⟨ad312, A312_0, c312_0, e312, hx312_0, hl312_0, hi312_0⟩ := at_L3 HR0.out x7_2 p312 q312
           cases e312
           replace hx312_0 := cl HB.out hx312_0
           have HR312_0 := ak hi312_0
           have HC312_0 := ak hl312_0
           clear hi312_0 hl312_0
           replace p312 := eq_true p312
           replace q312 := eq_true q312
           have p313 := zi x7_2
           have q313 := zj x7_2 l0.length
           obtain ⟨ad313, A313_0, c313_0, e313, hx313_0, hl313_0, hi313_0⟩ := at_L3 HR0.out x7_2 p313 q313
           obtain rfl : ad312 = ad313 := (by injection e313)
           replace hx313_0 := cl HB.out hx313_0
           have HR313_0 := ak hi313_0
           have HC313_0 := ak hl313_0
           clear hi313_0 hl313_0
           replace p313 := eq_true p313
           replace q313 := eq_true q313
           have ea_ := Option.some.inj (hx312_0.symm.trans hx313_0)
           injection ea_ with ea_ en_ ec_
           subst ea_
           subst ec_
           clear en_
           have p314 := zi x8_3
           have q314 := zj x8_3 ((rd_L3 l0 x7_2).length)
           obtain ⟨ad314, e314, hx314_0⟩ := Kd.at_string HR313_0.out x8_3 p314 q314
           cases e314
           replace hx314_0 := cl HB.out hx314_0
           replace p314 := eq_true p314
           replace q314 := eq_true q314
           go_wp2_with (first | (refine gL 115 47 Tryz.func115 #[.string (rdOf ByteArray.empty (rd_L3 l0 x7_2) x8_3), .string a1] ?_; (with_reducible refine (spec_l7Looks.calls (rdOf ByteArray.empty (rd_L3 l0 x7_2) x8_3) a1 true _ A17.out).mono ?_); rintro e w' ⟨rfl, ⟨nd, rfl⟩⟩; refine ⟨_, rfl, ?_⟩) | ((with_reducible refine gate_dst (N := 48) rfl ?_); (try (refine gate_guard (by rfl) ?_; dsimp only)); refine Kd.R_lit Kd.string _ 9 ?hg (N := 48) ?hd (xs := ([] : List ByteArray)) (inner := []) (ok := fun _ => True) (okp := fun _ => True) ?hr ?hp (fun _ hk => hk) trivial (Below.refl _ _) (Nat.le_refl _) (by simp) ?_; (case hd => rfl); (case hg => rfl); (case hr => first | (go_simp; done) | (go_simp; rfl)); (case hp => exact (Reps.none _ _)); intro v317 w19 ho20 hb hg_ hnew_; clear hg_ hnew_; (first | rw [← Ny316.out] at ho20 | (simp only [Int.reduceToNat] at ho20; rw [← Ny316.out] at ho20)); have HO318 := ak (Kd.R_lower (Kd.R_new' ho20 (Kd.R_lt (ur HO_6.out))) (below_size (ul HB.out))); replace HO_6 := ak (Kd.R_elder' (ur HO_6.out) (Kd.R_base ho20) hb); replace HB := bs HB hb; clear hb ho20))
           go_ret2
           exact ⟨_, er, ur (Kd.R_mono HO318.out (fun _ hk => trivial)), ul HB.out⟩
          ·
           replace H := nl H; obtain ⟨LMc21, H⟩ := H
           obtain ⟨y321, Ny321⟩ := nm (x6_3 ++ [rdOf ByteArray.empty (rd_L3 l0 x7_2) x8_3])
           rw [← Ny321.out] at H
           (try rw [Option.bind_some] at H)
           have H' := ak H; clear H
           have p312 := zi x7_2
           have q312 := zj x7_2 l0.length
           obtain ⟨ad312, A312_0, c312_0, e312, hx312_0, hl312_0, hi312_0⟩ := at_L3 HR0.out x7_2 p312 q312
           cases e312
           replace hx312_0 := cl HB.out hx312_0
           have HR312_0 := ak hi312_0
           have HC312_0 := ak hl312_0
           clear hi312_0 hl312_0
           replace p312 := eq_true p312
           replace q312 := eq_true q312
           have p313 := zi x7_2
           have q313 := zj x7_2 l0.length
           obtain ⟨ad313, A313_0, c313_0, e313, hx313_0, hl313_0, hi313_0⟩ := at_L3 HR0.out x7_2 p313 q313
           obtain rfl : ad312 = ad313 := (by injection e313)
           replace hx313_0 := cl HB.out hx313_0
           have HR313_0 := ak hi313_0
           have HC313_0 := ak hl313_0
           clear hi313_0 hl313_0
           replace p313 := eq_true p313
           replace q313 := eq_true q313
           have ea_ := Option.some.inj (hx312_0.symm.trans hx313_0)
           injection ea_ with ea_ en_ ec_
           subst ea_
           subst ec_
           clear en_
           have p314 := zi x8_3
           have q314 := zj x8_3 ((rd_L3 l0 x7_2).length)
           obtain ⟨ad314, e314, hx314_0⟩ := Kd.at_string HR313_0.out x8_3 p314 q314
           cases e314
           replace hx314_0 := cl HB.out hx314_0
           replace p314 := eq_true p314
           replace q314 := eq_true q314
           go_wp2_with (first | (refine gL 115 47 Tryz.func115 #[.string (rdOf ByteArray.empty (rd_L3 l0 x7_2) x8_3), .string a1] ?_; (with_reducible refine (spec_l7Looks.calls (rdOf ByteArray.empty (rd_L3 l0 x7_2) x8_3) a1 false _ A17.out).mono ?_); rintro e w' ⟨rfl, ⟨nd, rfl⟩⟩; refine ⟨_, rfl, ?_⟩; have p319 : 0 ≤ (x7_2 : Int) := of_decide_eq_true (by assumption); have q319 : x7_2 < (l0.length : Int) := of_decide_eq_true (by assumption); obtain ⟨ad319, A319_0, c319_0, e319, hx319_0, hl319_0, hi319_0⟩ := at_L3 HR0.out x7_2 p319 q319; obtain rfl : ad312 = ad319 := (by injection e319); replace hx319_0 := (HB.out.cell (World.block_lt_of_cell? w _ hx319_0)).trans hx319_0; have HR319_0 := ak hi319_0; have HC319_0 := ak hl319_0; clear hi319_0 hl319_0; replace p319 := eq_true p319; replace q319 := eq_true q319; have ea_ := Option.some.inj (hx312_0.symm.trans hx319_0); injection ea_ with ea_ en_ ec_; subst ea_; subst ec_; clear en_; have p320 : 0 ≤ (x8_3 : Int) := of_decide_eq_true (by assumption); have q320 : x8_3 < ((rd_L3 l0 x7_2).length : Int) := of_decide_eq_true (by assumption); obtain ⟨ad320, e320, hx320_0⟩ := Kd.at_string HR319_0.out x8_3 p320 q320; cases e320; replace hx320_0 := (HB.out.cell (World.block_lt_of_cell? w _ hx320_0)).trans hx320_0; replace p320 := eq_true p320; replace q320 := eq_true q320) | ((with_reducible refine gate_builtin (b := .append) (xs := #[.tmp 49, .tmp 57]) rfl ?_); (try (refine gate_guard (by rfl) ?_; dsimp only)); at_builtin; refine Kd.R_append Kd.string (w0 := w) w.heap.size rfl (.tmp 49) (.tmp 57) 23 9 (.string ⟨#[]⟩) 16 rfl Tryz.underlying23 info9 rfl (by decide) (by omega) u6 x6_3 (rdOf ByteArray.empty (rd_L3 l0 x7_2) x8_3) [.string (rdOf ByteArray.empty (rd_L3 l0 x7_2) x8_3)] (fun _ => True) (fun _ => False) rfl rfl ?aP (fun _ hk => hk.elim) ?aF ?aO ?aB ?aS ?aL ?_; (case aP => exact rfl); (case aB => exact (ul HB.out)); (case aF => exact (fun _ _ => trivial)); (case aO => exact (ur HO_6.out)); (case aS => exact (below_size (ul HB.out))); (case aL => have := LMc21.out; omega); intro v322 w22 ho hb hg hat; rw [← Ny321.out] at ho; have n0_ := ak (hb); have n1_ := ak (ho); clear HB; clear HO_6; have HB := n0_; have HO323 := n1_; clear n0_ n1_; clear ho hb hg hat))
           go_roundg k3
           case measure => have := HJ2.out; have := HK2.out; have := HK3.out; omega
           case rel => exact ⟨(y321), (wrap64 (x8_3 + 1)), rs, H', ⟨by have := HJ2.out; have := HK2.out; have := HK3.out; omega⟩, ⟨ur HO323.out⟩, ⟨ul HB.out⟩⟩
         ·
          have H' := ak H; clear H
          have p312 := zi x7_2
          have q312 := zj x7_2 l0.length
          obtain ⟨ad312, A312_0, c312_0, e312, hx312_0, hl312_0, hi312_0⟩ := at_L3 HR0.out x7_2 p312 q312
          cases e312
          replace hx312_0 := cl HB.out hx312_0
          have HR312_0 := ak hi312_0
          have HC312_0 := ak hl312_0
          clear hi312_0 hl312_0
          replace p312 := eq_true p312
          replace q312 := eq_true q312
          go_wp2
          go_roundg k3
          case measure => have := HJ2.out; have := HK2.out; have := HK3.out; omega
          case rel => exact ⟨(x6_3), (wrap64 (x7_2 + 1)), rs, H', ⟨by have := HJ2.out; have := HK2.out; have := HK3.out; omega⟩, ⟨ur HO_6.out⟩, ⟨ul HB.out⟩⟩
      ·
       replace H := nn H; obtain ⟨c23, H⟩ := H
       have c23b0 := eq_true c23
       have c23b1 := decide_eq_true c23
       try have c23b2 : (9223372036854775807 < 2 + a1.size) = False := eq_false (Nat.not_lt.2 c23)
       replace H := nn H; obtain ⟨c24, H⟩ := H
       have c24b0 := eq_true c24
       have c24b1 := decide_eq_true c24
       try have c24b3 : (9223372036854775807 < 2 + a1.size + 2) = False := by have h_ := (eq_false (Nat.not_lt.2 c24) : (9223372036854775807 < ((⟨#[45, 45]⟩ : ByteArray) ++ a1).size + 2) = False); simp only [ByteArray.size_append] at h_; exact h_
       try have c24b2 : (9223372036854775807 < ((⟨#[45, 45]⟩ : ByteArray) ++ a1).size + 2) = False := eq_false (Nat.not_lt.2 c24)
       replace H := nl H; obtain ⟨LMc25, H⟩ := H
       obtain ⟨y306, Ny306⟩ := nm (x6_2 ++ [((⟨#[45, 45]⟩ : ByteArray) ++ a1) ++ (⟨#[45, 45]⟩ : ByteArray)])
       rw [← Ny306.out] at H
       (try rw [Option.bind_some] at H)
       simp only [Option.some.injEq, Prod.mk.injEq] at H
       obtain ⟨rfl, rfl⟩ := H
       go_wp2_with (first | ((with_reducible refine gate_builtin (b := .append) (xs := #[.tmp 59, .tmp 63]) rfl ?_); (try (refine gate_guard (by rfl) ?_; dsimp only)); at_builtin; refine Kd.R_append Kd.string (w0 := w) w.heap.size rfl (.tmp 59) (.tmp 63) 23 9 (.string ⟨#[]⟩) 16 rfl Tryz.underlying23 info9 rfl (by decide) (by omega) u6 x6_2 (((⟨#[45, 45]⟩ : ByteArray) ++ a1) ++ (⟨#[45, 45]⟩ : ByteArray)) [.string (((⟨#[45, 45]⟩ : ByteArray) ++ a1) ++ (⟨#[45, 45]⟩ : ByteArray))] (fun _ => True) (fun _ => False) rfl rfl ?aP (fun _ hk => hk.elim) ?aF ?aO ?aB ?aS ?aL ?_; (case aP => exact rfl); (case aB => exact (ul HB.out)); (case aF => exact (fun _ _ => trivial)); (case aO => exact (ur HO_6.out)); (case aS => exact (below_size (ul HB.out))); (case aL => have := LMc25.out; omega); intro v307 w26 ho hb hg hat; rw [← Ny306.out] at ho; have n0_ := ak (hb); have n1_ := ak (ho); clear HB; clear HO_6; have HB := n0_; have HO308 := n1_; clear n0_ n1_; clear ho hb hg hat))
       go_ret2
       exact ⟨_, er, ur HO308.out, ul HB.out⟩
mutual
def spec_l8Format.l0 : Nat → List ByteArray → ByteArray → List (List ByteArray) → Int → List (S69) → List ByteArray → List (S28) → Option (List ByteArray)
 | 0, _, _, _, _, _, _, _ => none
 | k + 1, x3, x5, x7, x8, x325000, x325001, x325002 => if x8 < (x325002.length : Int) then (if 0 ≤ x8 then ((spec_l8Format.f k ((rd_T28 x325002 x8).f0) ((rd_T28 x325002 x8).f1) ((rd_T28 x325002 x8).f2)).bind fun t341 => (if x7.length < 5864062014805 then (spec_l8Format.l0 k x3 x5 (x7 ++ [t341]) (wrap64 (x8 + 1)) x325000 x325001 x325002) else (none))) else (none)) else ((spec_JoinParts.f k x7 x5).bind fun bt347 => (if x3.length + bt347.1.length < 8796093022208 then (some (x3 ++ bt347.1)) else (none)))
def spec_l8Format.f : Nat → List (S69) → List ByteArray → List (S28) → Option (List ByteArray)
 | 0, _, _, _ => none
 | k + 1, l0_0, l0_1, l0_2 => (spec_FoldFields.f k l0_0).bind fun bt325 => (if bt325.1.length < 8796093022208 then ((some (bt325.1 ++ [(⟨#[]⟩ : ByteArray)] : List ByteArray)).bind fun y329 => ((spec_l8Boundary.f k l0_0).bind fun bt332 => (if bt332.2 = true then (spec_l8Format.l0 k y329 bt332.1 (([] : List (List ByteArray))) 0 l0_0 l0_1 l0_2) else (if y329.length + l0_1.length < 8796093022208 then (some (y329 ++ l0_1)) else (none))))) else (none))
end
set_option maxHeartbeats 8000000 in
set_option maxRecDepth 100000 in
theorem spec_l8Format.calls (k : Nat) : ∀ (A0_0 : Option Addr) (c0_0 : Nat) (l0_0 : List (S69)) (A0_1 : Option Addr) (c0_1 : Nat) (l0_1 : List ByteArray) (A0_2 : Option Addr) (c0_2 : Nat) (l0_2 : List (S28)) (r : List ByteArray) (w : World) (hr0_0 : Kd.C k69 w A0_0 l0_0.length l0_0) (hc0_0 : l0_0.length ≤ c0_0) (hr0_1 : Kd.C Kd.string w A0_1 l0_1.length l0_1) (hc0_1 : l0_1.length ≤ c0_1) (hr0_2 : Kd.C k28 w A0_2 l0_2.length l0_2) (hc0_2 : l0_2.length ≤ c0_2) (h : spec_l8Format.f k l0_0 l0_1 l0_2 = some r),
  Calls Tryz.prog 67 #[.agg #[.slice A0_0 l0_0.length c0_0, .slice A0_1 l0_1.length c0_1, .slice A0_2 l0_2.length c0_2]] w fun e w' => ∃ v0_ : Value, e = .returned (v0_) ∧ Kd.R Kd.string 9 w' w.heap.size (fun _ => True) v0_ r ∧ Below w.heap.size w w' := by
 induction k using Nat.strongRecOn with
 | _ k ih =>
 intro A0_0 c0_0 l0_0 A0_1 c0_1 l0_1 A0_2 c0_2 l0_2 r w hr0_0 hc0_0 hr0_1 hc0_1 hr0_2 hc0_2 h
 cases k with
 | zero => exact absurd h (by simp [spec_l8Format.f])
 | succ k =>
 simp only [spec_l8Format.f] at h
 have hu28 := Tryz.underlying28
 have HR0_0 := ak hr0_0
 have HC0_0 := ak hc0_0
 clear hr0_0 hc0_0
 have HR0_1 := ak hr0_1
 have HC0_1 := ak hc0_1
 clear hr0_1 hc0_1
 have HR0_2 := ak hr0_2
 have HC0_2 := ak hc0_2
 clear hr0_2 hc0_2
 have HB := ak (Below.refl w.heap.size w)
 have H : ((spec_FoldFields.f k l0_0).bind fun bt325 => (if bt325.1.length < 8796093022208 then ((some (bt325.1 ++ [(⟨#[]⟩ : ByteArray)] : List ByteArray)).bind fun y329 => ((spec_l8Boundary.f k l0_0).bind fun bt332 => (if bt332.2 = true then (spec_l8Format.l0 k y329 bt332.1 (([] : List (List ByteArray))) 0 l0_0 l0_1 l0_2) else (if y329.length + l0_1.length < 8796093022208 then (some (y329 ++ l0_1)) else (none))))) else (none))) = some r := h
 clear h
 replace H := bd H
 obtain ⟨⟨t325, t326⟩, A2, H⟩ := H
 (try dsimp only at H)
 replace H := nl H; obtain ⟨LMc3, H⟩ := H
 obtain ⟨y329, Ny329⟩ := nm (t325 ++ [(⟨#[]⟩ : ByteArray)])
 rw [← Ny329.out] at H
 (try rw [Option.bind_some] at H)
 replace H := bd H
 obtain ⟨⟨t332, t333⟩, A4, H⟩ := H
 (try dsimp only at H)
 replace H := sb H
 rcases H with ⟨rfl, H⟩ | ⟨rfl, H⟩
 ·
  obtain ⟨y337, Ny337⟩ := nm ([] : List (List ByteArray))
  rw [← Ny337.out] at H
  (try rw [Option.bind_some] at H)
  have H' := ak H; clear H
  go_enter Tryz.func67, Tryz.ntmps67
  go_wp2_with (first | (refine bE 1 #[.slice A0_0 l0_0.length c0_0, .slice A0_1 l0_1.length c0_1, .slice A0_2 l0_2.length c0_2] 28 ?_; intro gb324 hg w6 hbox hb; have BK324 := ak (hbox); have GW324 := ge_ HB hg; have GE324 := ge_ HB hg; replace HB := bs HB hb; clear hb hbox hg; obtain ⟨hcz7_0, hcz7_1, hcz7_2, hfz7_0, hfz7_1, hfz7_2⟩ := cz3 BK324.out) | (refine gL 107 14 Tryz.func107 #[.slice A0_0 l0_0.length c0_0] ?_; (with_reducible refine (spec_FoldFields.calls k _ _ l0_0 t325 t326 _ (cu (Kd.C_below HR0_0.out HB.out)) HC0_0.out A2.out).mono ?_); rintro e w8 ⟨v327, rfl, ho0, hb⟩; refine ⟨_, rfl, ?_⟩; have HO328 := ak (Kd.R_lower ho0 (below_size bb)); replace BK324 := kb BK324 hb; replace HB := ak (below_step bb hb); (try clear hb); (try clear ho0)) | ((with_reducible refine gate_builtin (b := .append) (xs := #[.tmp 17, .tmp 18]) rfl ?_); at_builtin; refine Kd.R_append Kd.string (w0 := w) w.heap.size rfl (.tmp 17) (.tmp 18) 23 9 (.string ⟨#[]⟩) 16 rfl Tryz.underlying23 info9 rfl (by decide) (by omega) v327 t325 (⟨#[]⟩ : ByteArray) [.string (⟨#[]⟩ : ByteArray)] (fun _ => True) (fun _ => False) rfl rfl ?aP (fun _ hk => hk.elim) ?aF ?aO ?aB ?aS ?aL ?_; (case aP => exact rfl); (case aB => exact bb); (case aF => exact (fun _ _ => trivial)); (case aO => exact (ur HO328.out)); (case aS => exact (below_size bb)); (case aL => have := LMc3.out; omega); intro v330 w9 ho hb hg hat; rw [← Ny329.out] at ho; have n0_ := ak (blk_grown (g := gb324) (o := .cells #[.slice A0_0 l0_0.length c0_0, .slice A0_1 l0_1.length c0_1, .slice A0_2 l0_2.length c0_2] 28 (0, 0)) (ub BK324.out) hg (Kd.R_ne HO328.out BK324.out (by decide))); have n1_ := ak (hb); have n2_ := ak (ho); clear BK324; clear HB; clear HO328; have BK324 := n0_; have HB := n1_; have HO331 := n2_; clear n0_ n1_ n2_; clear ho hb hg hat; obtain ⟨hcz10_0, hcz10_1, hcz10_2, hfz10_0, hfz10_1, hfz10_2⟩ := cz3 BK324.out) | (refine gL 108 23 Tryz.func108 #[.slice A0_0 l0_0.length c0_0] ?_; (with_reducible refine (spec_l8Boundary.calls k _ _ l0_0 t332 true _ (cu (Kd.C_below HR0_0.out HB.out)) HC0_0.out A4.out).mono ?_); rintro e w11 ⟨rfl, hb⟩; refine ⟨_, rfl, ?_⟩; replace HO331 := rb HO331 hb; replace BK324 := kb BK324 hb; replace HB := ak (below_step bb hb); (try clear hb)) | ((with_reducible refine gate_dst (N := 32) rfl ?_); refine Kd.S_lit (Kd.slice 9 Kd.string) _ 23 ?hg (N := 32) ?hd (xs := ([] : List (List ByteArray))) (inner := []) (ok := fun _ => True) (okp := fun _ => True) ?hr ?hp (fun _ hk => hk) trivial (Below.refl _ _) (Nat.le_refl _) (by simp) ?_; (case hd => rfl); (case hg => rfl); (case hr => first | (go_simp; done) | (go_simp; rfl)); (case hp => exact (Reps.none _ _)); intro v338 w12 ho13 hb hg_ hnew_; clear hg_ hnew_; (first | rw [← Ny337.out] at ho13 | (simp only [Int.reduceToNat] at ho13; rw [← Ny337.out] at ho13)); have HO339 := ak (Kd.S_lower (Kd.S_new' ho13 (Kd.R_lt (ur HO331.out))) (below_size bb)); replace HO331 := rb HO331 hb; replace BK324 := kb BK324 hb; replace HB := ak (below_step bb hb); clear hb ho13))
  go_loopg [7, 8] k (fun kq v7 v8 w' => ∃ (x7_1 : List (List ByteArray)) (x8_1 : Int), v8 = .int .i64 x8_1 ∧ Aside0 (spec_l8Format.l0 kq y329 t332 x7_1 x8_1 l0_0 l0_1 l0_2 = some r) ∧ Aside0 (kq ≤ k) ∧ Aside0 (Kd.R Kd.string 9 w' w.heap.size (fun _ => True) v330 y329) ∧ Aside0 (Kd.S (Kd.slice 9 Kd.string) 23 w' w.heap.size (fun k_ => some k_ ≠ (v330 : Value).ownBlock) v7 x7_1) ∧ Aside0 (w'.heap[gb324]? = some (.cells #[(.slice A0_0 l0_0.length c0_0), (.slice A0_1 l0_1.length c0_1), (.slice A0_2 l0_2.length c0_2)] 28 (0, 0))) ∧ Aside0 (Below w.heap.size w w'))
  case atStart => exact ⟨(y337), (0), rs, H', ⟨Nat.le_refl _⟩, ⟨ur HO331.out⟩, ⟨by (with_reducible repeat (first | apply Kd.S_alloc | apply Kd.S_drewN | apply Kd.S_drew)); exact Kd.S_mono HO339.out (fun _ hk => hk.2)⟩, ⟨ub BK324.out⟩, ⟨bb⟩⟩
  case round =>
   clear H'
   try clear c1
   try clear p2
   try clear c3
   try clear c5
   try clear c6
   try clear c10
   try clear hcz10_0
   try clear hcz10_1
   try clear hcz10_2
   try clear hcz7_0
   try clear hcz7_1
   try clear hcz7_2
   try clear hfz10_0
   try clear hfz10_1
   try clear hfz10_2
   try clear hfz7_0
   try clear hfz7_1
   try clear hfz7_2
   obtain ⟨x7_1, x8_1, rfl, HA, HK1, HO_3, HO_7, BK324, HB⟩ := hrel
   cases gk with
   | zero => exact absurd HA.out (by simp [spec_l8Format.l0])
   | succ k1 =>
    have H := HA.out
    clear HA
    simp only [spec_l8Format.l0] at H
    replace H := sd H
    rcases H with ⟨c14b0, H⟩ | ⟨c14b0, H⟩
    ·
     replace H := nde H; obtain ⟨c15b0, H⟩ := H; replace H := bd H; obtain ⟨t341, A16, H⟩ := H; replace H := nl H; obtain ⟨LMc17, H⟩ := H
     obtain ⟨y344, Ny344⟩ := nm (x7_1 ++ [t341])
     rw [← Ny344.out] at H
     (try rw [Option.bind_some] at H)
     have H' := ak H; clear H
     obtain ⟨hcz18_0, hcz18_1, hcz18_2, hfz18_0, hfz18_1, hfz18_2⟩ := cz3 BK324.out
     have p340 := zi x8_1
     have q340 := zj x8_1 l0_2.length
     obtain ⟨ad340, A340_0, c340_0, A340_1, c340_1, A340_2, c340_2, e340, hx340_0, hx340_1, hx340_2, hl340_0, hi340_0, hl340_1, hi340_1, hl340_2, hi340_2⟩ := at_T28 HR0_2.out x8_1 p340 q340
     cases e340
     replace hx340_0 := cl HB.out hx340_0
     replace hx340_1 := cl HB.out hx340_1
     replace hx340_2 := cl HB.out hx340_2
     have HR340_0 := ak hi340_0
     have HC340_0 := ak hl340_0
     clear hi340_0 hl340_0
     have HR340_1 := ak hi340_1
     have HC340_1 := ak hl340_1
     clear hi340_1 hl340_1
     have HR340_2 := ak hi340_2
     have HC340_2 := ak hl340_2
     clear hi340_2 hl340_2
     replace p340 := eq_true p340
     replace q340 := eq_true q340
     go_wp2_with (first | (refine gL 67 46 Tryz.func67 #[.agg #[.slice A340_0 ((rd_T28 l0_2 x8_1).f0).length c340_0, .slice A340_1 ((rd_T28 l0_2 x8_1).f1).length c340_1, .slice A340_2 ((rd_T28 l0_2 x8_1).f2).length c340_2]] ?_; (with_reducible refine (ih k1 (by have := HK1.out; omega) _ _ ((rd_T28 l0_2 x8_1).f0) _ _ ((rd_T28 l0_2 x8_1).f1) _ _ ((rd_T28 l0_2 x8_1).f2) t341 _ (cu (Kd.C_below HR340_0.out HB.out)) HC340_0.out (cu (Kd.C_below HR340_1.out HB.out)) HC340_1.out (cu (Kd.C_below HR340_2.out HB.out)) HC340_2.out A16.out).mono ?_); rintro e w19 ⟨v342, rfl, ho0, hb⟩; refine ⟨_, rfl, ?_⟩; have HO343 := ak (Kd.R_lower (Kd.R_new' ho0 (Kd.R_lt (ur HO_3.out))) (below_size bb)); replace HO_3 := ak (Kd.R_elder' (ur HO_3.out) (Kd.R_base ho0) hb); replace HO_7 := ak (Kd.S_elder' (by (with_reducible repeat (first | apply Kd.S_alloc | apply Kd.S_drewN | apply Kd.S_drew)); exact HO_7.out) (Kd.R_base ho0) hb); replace BK324 := kb BK324 hb; replace HB := ak (below_step bb hb); (try clear hb); (try clear ho0); obtain ⟨Ao21, co21, eo21⟩ := Kd.R_slice HO343.out; subst eo21) | ((with_reducible refine gate_builtin (b := .append) (xs := #[.tmp 40, .tmp 47]) rfl ?_); at_builtin; refine Kd.S_append (Kd.slice 9 Kd.string) (w0 := w) w.heap.size rfl (.tmp 40) (.tmp 47) 65 23 (.slice none 0 0) 24 rfl Tryz.underlying65 info23 rfl (by decide) (by omega) u7 x7_1 t341 [.slice Ao21 t341.length co21] (fun k_ => some k_ ≠ (v330 : Value).ownBlock) (fun k_ => some k_ = (.slice Ao21 t341.length co21 : Value).ownBlock) rfl rfl ?aP (fun k_ hk_ => ((Kd.R_mono (ok' := fun k_ => ((fun k_ => some k_ ≠ (v330 : Value).ownBlock)) k_ ∧ some k_ ≠ (u7 : Value).ownBlock) (Kd.R_apart' (HO343.out) (Kd.S_typed HO_7.out) (by decide)) (fun k_ hk => ⟨hk.1.2, hk.2⟩))).1 k_ hk_.symm) ?aF ?aO ?aB ?aS ?aL ?_; (case aP => exact Kd.M_row (Kd.R_mono (Kd.R_tight rfl (Kd.R_mono (ok' := fun k_ => ((fun k_ => some k_ ≠ (v330 : Value).ownBlock)) k_ ∧ some k_ ≠ (u7 : Value).ownBlock) (Kd.R_apart' (HO343.out) (Kd.S_typed HO_7.out) (by decide)) (fun k_ hk => ⟨hk.1.2, hk.2⟩))) (fun _ h_ => h_))); (case aB => exact bb); (case aF => exact (fun k_ hk => Kd.fresh' (Kd.R_lt (ur HO_3.out)) k_ hk)); (case aO => exact (by (with_reducible repeat (first | apply Kd.S_alloc | apply Kd.S_drewN | apply Kd.S_drew)); exact Kd.S_mono HO_7.out (fun k_ hk => ⟨hk.1, fun e_ => hk.2 e_⟩))); (case aS => exact (below_size bb)); (case aL => have := LMc17.out; omega); intro v345 w20 ho hb hg hat; rw [← Ny344.out] at ho; have n0_ := ak (Kd.R_over' (ur HO_3.out) (Kd.S_typed (by (with_reducible repeat (first | apply Kd.S_alloc | apply Kd.S_drewN | apply Kd.S_drew)); exact HO_7.out)) (by decide) hg); have n1_ := ak (blk_grown (g := gb324) (o := .cells #[.slice A0_0 l0_0.length c0_0, .slice A0_1 l0_1.length c0_1, .slice (some ad340) l0_2.length c0_2] 28 (0, 0)) (ub BK324.out) hg (Kd.S_ne HO_7.out BK324.out (by decide))); have n2_ := ak (hb); have n3_ := ak (ho); clear HO_3; clear BK324; clear HB; clear HO_7; clear HO343; have HO_3 := n0_; have BK324 := n1_; have HB := n2_; have HO346 := n3_; clear n0_ n1_ n2_ n3_; clear ho hb hg hat))
     go_roundg k1
     case measure => have := HK1.out; omega
     case rel => exact ⟨(y344), (wrap64 (x8_1 + 1)), rs, H', ⟨by have := HK1.out; omega⟩, ⟨ur (Kd.R_mono HO_3.out (fun _ hk => trivial))⟩, ⟨by (with_reducible repeat (first | apply Kd.S_alloc | apply Kd.S_drewN | apply Kd.S_drew)); exact HO346.out⟩, ⟨ub BK324.out⟩, ⟨bb⟩⟩
    ·
     replace H := bd H
     obtain ⟨⟨t347, t348⟩, A22, H⟩ := H
     (try dsimp only at H)
     replace H := nl H; obtain ⟨LMc23, H⟩ := H
     obtain ⟨y351, Ny351⟩ := nm (y329 ++ t347)
     rw [← Ny351.out] at H
     (try rw [Option.bind_some] at H)
     obtain rfl := Option.some.inj H
     obtain ⟨hcz24_0, hcz24_1, hcz24_2, hfz24_0, hfz24_1, hfz24_2⟩ := cz3 BK324.out
     obtain ⟨Ao25, co25, eo25⟩ := Kd.S_slice HO_7.out
     subst eo25
     go_wp2_with (first | (refine gL 109 52 Tryz.func109 #[.slice Ao25 x7_1.length co25, .string t332] ?_; (with_reducible refine (spec_JoinParts.calls k1 _ _ x7_1 t332 t347 t348 _ (cu ((Kd.S_reads' HO_7.out).2.2)) ((Kd.S_reads' HO_7.out).2.1) A22.out).mono ?_); rintro e w26 ⟨v349, rfl, ho0, hb⟩; refine ⟨_, rfl, ?_⟩; have HO350 := ak (Kd.R_lower (Kd.R_new' ho0 (Kd.R_lt (ur HO_3.out))) (below_size bb)); replace HO_3 := ak (Kd.R_elder' (ur HO_3.out) (Kd.R_base ho0) hb); replace HO_7 := ak (Kd.S_elder' (by (with_reducible repeat (first | apply Kd.S_alloc | apply Kd.S_drewN | apply Kd.S_drew)); exact HO_7.out) (Kd.R_base ho0) hb); replace BK324 := kb BK324 hb; replace HB := ak (below_step bb hb); (try clear hb); (try clear ho0); obtain ⟨Ao28, co28, eo28⟩ := Kd.R_slice HO350.out; subst eo28) | ((with_reducible refine gate_builtin (b := .append) (xs := #[.tmp 55, .tmp 56]) rfl ?_); at_builtin; refine Kd.R_append_rows Kd.string (w0 := w) w.heap.size rfl (.tmp 55) (.tmp 56) 23 9 (.string ⟨#[]⟩) 16 rfl Tryz.underlying23 info9 rfl (by decide) (by omega) v330 y329 t347 _ _ _ (fun k_ => some k_ ≠ (.slice Ao28 t347.length co28 : Value).ownBlock) (fun _ => False) rfl rfl ?aO ?aR (fun _ _ h => h) (fun _ h => h.elim) ?aF ?aB ?aS ?aL ?_; (case aR => repeat (first | exact (Kd.R_reads' HO350.out).2.2 | (with_reducible refine Kd.C_alloc ?_ _) | (with_reducible refine Kd.C_drewN ?_ _) | (with_reducible refine Kd.C_drew ?_))); (case aB => exact bb); (case aF => exact (fun k_ hk => Kd.fresh' (Kd.R_lt (ur HO350.out)) k_ hk)); (case aO => exact (ur (Kd.R_mono HO_3.out (fun _ hk => hk.2)))); (case aS => exact (below_size bb)); (case aL => have := LMc23.out; omega); intro v352 w27 ho hb hg hat; rw [← Ny351.out] at ho; have n0_ := ak (Kd.S_after (ok := (fun k_ => some k_ ≠ (.slice Ao28 t347.length co28 : Value).ownBlock)) (by (with_reducible repeat (first | apply Kd.S_alloc | apply Kd.S_drewN | apply Kd.S_drew)); exact Kd.S_mono HO_7.out (fun _ hk => ⟨hk.2, hk.1⟩)) hg hat); have n1_ := ak (blk_grown (g := gb324) (o := .cells #[.slice A0_0 l0_0.length c0_0, .slice A0_1 l0_1.length c0_1, .slice A0_2 l0_2.length c0_2] 28 (0, 0)) (ub BK324.out) hg (Kd.R_ne HO_3.out BK324.out (by decide))); have n2_ := ak (Kd.R_after (ok := (fun _ => True)) (ur HO350.out) hg hat); have n3_ := ak (hb); have n4_ := ak (ho); clear HO_7; clear BK324; clear HO350; clear HB; clear HO_3; have HO_7 := n0_; have BK324 := n1_; have HO350 := n2_; have HB := n3_; have HO353 := n4_; clear n0_ n1_ n2_ n3_ n4_; clear ho hb hg hat))
     go_ret
     exact ⟨_, er, ur (Kd.R_mono HO353.out (fun _ hk => trivial)), bb⟩
 ·
  replace H := nl H; obtain ⟨LMc29, H⟩ := H
  obtain ⟨y334, Ny334⟩ := nm (y329 ++ l0_1)
  rw [← Ny334.out] at H
  (try rw [Option.bind_some] at H)
  obtain rfl := Option.some.inj H
  go_enter Tryz.func67, Tryz.ntmps67
  go_wp2_with (first | (refine bE 1 #[.slice A0_0 l0_0.length c0_0, .slice A0_1 l0_1.length c0_1, .slice A0_2 l0_2.length c0_2] 28 ?_; intro gb324 hg w30 hbox hb; have BK324 := ak (hbox); have GW324 := ge_ HB hg; have GE324 := ge_ HB hg; replace HB := bs HB hb; clear hb hbox hg; obtain ⟨hcz31_0, hcz31_1, hcz31_2, hfz31_0, hfz31_1, hfz31_2⟩ := cz3 BK324.out) | (refine gL 107 14 Tryz.func107 #[.slice A0_0 l0_0.length c0_0] ?_; (with_reducible refine (spec_FoldFields.calls k _ _ l0_0 t325 t326 _ (cu (Kd.C_below HR0_0.out HB.out)) HC0_0.out A2.out).mono ?_); rintro e w32 ⟨v327, rfl, ho0, hb⟩; refine ⟨_, rfl, ?_⟩; have HO328 := ak (Kd.R_lower ho0 (below_size bb)); replace BK324 := kb BK324 hb; replace HB := ak (below_step bb hb); (try clear hb); (try clear ho0)) | ((with_reducible refine gate_builtin (b := .append) (xs := #[.tmp 17, .tmp 18]) rfl ?_); at_builtin; refine Kd.R_append Kd.string (w0 := w) w.heap.size rfl (.tmp 17) (.tmp 18) 23 9 (.string ⟨#[]⟩) 16 rfl Tryz.underlying23 info9 rfl (by decide) (by omega) v327 t325 (⟨#[]⟩ : ByteArray) [.string (⟨#[]⟩ : ByteArray)] (fun _ => True) (fun _ => False) rfl rfl ?aP (fun _ hk => hk.elim) ?aF ?aO ?aB ?aS ?aL ?_; (case aP => exact rfl); (case aB => exact bb); (case aF => exact (fun _ _ => trivial)); (case aO => exact (ur HO328.out)); (case aS => exact (below_size bb)); (case aL => have := LMc3.out; omega); intro v330 w33 ho hb hg hat; rw [← Ny329.out] at ho; have n0_ := ak (blk_grown (g := gb324) (o := .cells #[.slice A0_0 l0_0.length c0_0, .slice A0_1 l0_1.length c0_1, .slice A0_2 l0_2.length c0_2] 28 (0, 0)) (ub BK324.out) hg (Kd.R_ne HO328.out BK324.out (by decide))); have n1_ := ak (hb); have n2_ := ak (ho); clear BK324; clear HB; clear HO328; have BK324 := n0_; have HB := n1_; have HO331 := n2_; clear n0_ n1_ n2_; clear ho hb hg hat; obtain ⟨hcz34_0, hcz34_1, hcz34_2, hfz34_0, hfz34_1, hfz34_2⟩ := cz3 BK324.out) | (refine gL 108 23 Tryz.func108 #[.slice A0_0 l0_0.length c0_0] ?_; (with_reducible refine (spec_l8Boundary.calls k _ _ l0_0 t332 false _ (cu (Kd.C_below HR0_0.out HB.out)) HC0_0.out A4.out).mono ?_); rintro e w35 ⟨rfl, hb⟩; refine ⟨_, rfl, ?_⟩; replace HO331 := rb HO331 hb; replace BK324 := kb BK324 hb; replace HB := ak (below_step bb hb); (try clear hb); obtain ⟨hcz36_0, hcz36_1, hcz36_2, hfz36_0, hfz36_1, hfz36_2⟩ := cz3 BK324.out) | ((with_reducible refine gate_builtin (b := .append) (xs := #[.tmp 28, .tmp 30]) rfl ?_); at_builtin; refine Kd.R_append_rows Kd.string (w0 := w) w.heap.size rfl (.tmp 28) (.tmp 30) 23 9 (.string ⟨#[]⟩) 16 rfl Tryz.underlying23 info9 rfl (by decide) (by omega) v330 y329 l0_1 _ _ _ (fun _ => True) (fun _ => False) rfl rfl ?aO ?aR (fun _ _ h => h) (fun _ h => h.elim) ?aF ?aB ?aS ?aL ?_; (case aR => repeat (first | exact (Kd.C_below HR0_1.out HB.out) | (with_reducible refine Kd.C_alloc ?_ _) | (with_reducible refine Kd.C_drewN ?_ _) | (with_reducible refine Kd.C_drew ?_))); (case aB => exact bb); (case aF => exact (fun _ _ => trivial)); (case aO => exact (ur HO331.out)); (case aS => exact (below_size bb)); (case aL => have := LMc29.out; omega); intro v335 w37 ho hb hg hat; rw [← Ny334.out] at ho; have n0_ := ak (blk_grown (g := gb324) (o := .cells #[.slice A0_0 l0_0.length c0_0, .slice A0_1 l0_1.length c0_1, .slice A0_2 l0_2.length c0_2] 28 (0, 0)) (ub BK324.out) hg (Kd.R_ne HO331.out BK324.out (by decide))); have n1_ := ak (hb); have n2_ := ak (ho); clear BK324; clear HB; clear HO331; have BK324 := n0_; have HB := n1_; have HO336 := n2_; clear n0_ n1_ n2_; clear ho hb hg hat))
  go_ret
  exact ⟨_, er, ur HO336.out, bb⟩
mutual
def spec_l8Body.l0 : Nat → List ByteArray → Int → Option (Bool)
 | 0, _, _ => none
 | k + 1, x0, x3 => if x3 < (x0.length : Int) then (spec_l8Body.j1 k x0 x3 (decide (x3 ≤ 30))) else (spec_l8Body.j1 k x0 x3 false)
def spec_l8Body.j1 : Nat → List ByteArray → Int → Bool → Option (Bool)
 | 0, _, _, _ => none
 | k + 1, x0, x3, x11 => if x11 = true then (if 0 ≤ x3 then (if x3 < (x0.length : Int) then ((spec_TextValid.f k (rdOf ByteArray.empty x0 x3)).bind fun t355 => (if t355 = true then (spec_l8Body.l0 k x0 (wrap64 (x3 + 1))) else (some false))) else (none)) else (none)) else (some (decide ((x0.length : Int) ≤ 30)))
end
def spec_l8Body.f (k : Nat) (l0 : List ByteArray) : Option (Bool) := spec_l8Body.l0 k l0 0
set_option maxHeartbeats 8000000 in
set_option maxRecDepth 100000 in
theorem spec_l8Body.calls (k : Nat) (A0 : Option Addr) (c0 : Nat) (l0 : List ByteArray) (r : Bool) (w : World) (hr0 : Kd.C Kd.string w A0 l0.length l0) (hc0 : l0.length ≤ c0) (h : spec_l8Body.f k l0 = some r) :
  Calls Tryz.prog 114 #[.slice A0 l0.length c0] w fun e w' => e = .returned (.bool r) ∧ Drawn0 w w' := by
 have HR0 := ak hr0
 have HC0 := ak hc0
 clear hr0 hc0
 have H : (spec_l8Body.l0 k l0 0) = some r := h
 clear h
 have H' := ak H; clear H
 go_enter Tryz.func114, Tryz.ntmps114
 go_wp2
 go_loopg [3] k (fun kq v3 w' => ∃ (x3_1 : Int), v3 = .int .i64 x3_1 ∧ Aside0 (spec_l8Body.l0 kq l0 x3_1 = some r) ∧ Aside0 (kq ≤ k) ∧ Drawn0 w w')
 case atStart => exact ⟨(0), rs, H', ⟨Nat.le_refl _⟩, dn⟩
 case round =>
  clear H'
  try clear c1
  obtain ⟨x3_1, rfl, HA, HK1, ⟨m1, rfl⟩⟩ := hrel
  cases gk with
  | zero => exact absurd HA.out (by simp [spec_l8Body.l0])
  | succ k1 =>
   have H := HA.out
   clear HA
   simp only [spec_l8Body.l0] at H
   have HC2 := ak H
   clear H
   go_upto_region 2 with (fail)
   go_cut [11] (fun v11 wc => ∃ (kq : Nat) (x11_1 : Bool), v11 = .bool x11_1 ∧ Aside0 (spec_l8Body.j1 kq l0 x3_1 x11_1 = some r) ∧ Aside0 (kq ≤ k1) ∧ Drawn0 w wc)
   case first =>
    have H := HC2.out
    clear HC2
    replace H := sd H
    rcases H with ⟨c3b0, H⟩ | ⟨c3b0, H⟩
    ·
     (first | rw [c3b0] | (simp only [i64_w, i32_w]; rw [c3b0]) | skip)
     have H' := ak H; clear H
     go_wp2
     go_meet
     case rel => exact ⟨_, (decide (x3_1 ≤ 30)), rs, H', ⟨by have := HK1.out; first | omega | exact Nat.le_refl _⟩, dn⟩
    ·
     (first | rw [c3b0] | (simp only [i64_w, i32_w]; rw [c3b0]) | skip)
     have H' := ak H; clear H
     go_wp2
     go_meet
     case rel => exact ⟨_, (false), rs, H', ⟨by have := HK1.out; first | omega | exact Nat.le_refl _⟩, dn⟩
   case rest =>
    clear HC2
    try clear c1
    try clear p2
    try clear c3
    try clear c3b0
    obtain ⟨kq, x11_1, rfl, HA, HJ1, ⟨mc1, rfl⟩⟩ := hcut
    cases kq with
    | zero => exact absurd HA.out (by simp [spec_l8Body.j1])
    | succ kj1 =>
     have H := HA.out
     clear HA
     simp only [spec_l8Body.j1] at H
     replace H := sb H
     rcases H with ⟨rfl, H⟩ | ⟨rfl, H⟩
     ·
      replace H := nde H; obtain ⟨c5b0, H⟩ := H; replace H := nde H; obtain ⟨c6b0, H⟩ := H; replace H := bd H; obtain ⟨t355, A7, H⟩ := H; replace H := sb H
      rcases H with ⟨rfl, H⟩ | ⟨rfl, H⟩
      ·
       have H' := ak H; clear H
       have p354 := zi x3_1
       have q354 := zj x3_1 l0.length
       obtain ⟨ad354, e354, hx354_0⟩ := Kd.at_string HR0.out x3_1 p354 q354
       cases e354
       replace p354 := eq_true p354
       replace q354 := eq_true q354
       go_wp2_with (first | (refine gL 159 18 Tryz.func159 #[.string (rdOf ByteArray.empty l0 x3_1)] ?_; (with_reducible refine (spec_TextValid.calls kj1 (rdOf ByteArray.empty l0 x3_1) true _ A7.out).mono ?_); rintro e w' ⟨rfl, ⟨nd, rfl⟩⟩; refine ⟨_, rfl, ?_⟩))
       go_roundg kj1
       case measure => have := HK1.out; have := HJ1.out; omega
       case rel => exact ⟨(wrap64 (x3_1 + 1)), rs, H', ⟨by have := HK1.out; have := HJ1.out; omega⟩, dn⟩
      ·
       obtain rfl := Option.some.inj H
       have p354 := zi x3_1
       have q354 := zj x3_1 l0.length
       obtain ⟨ad354, e354, hx354_0⟩ := Kd.at_string HR0.out x3_1 p354 q354
       cases e354
       replace p354 := eq_true p354
       replace q354 := eq_true q354
       go_wp2_with (first | (refine gL 159 18 Tryz.func159 #[.string (rdOf ByteArray.empty l0 x3_1)] ?_; (with_reducible refine (spec_TextValid.calls kj1 (rdOf ByteArray.empty l0 x3_1) false _ A7.out).mono ?_); rintro e w' ⟨rfl, ⟨nd, rfl⟩⟩; refine ⟨_, rfl, ?_⟩))
       go_ret
       exact ⟨rs, dn⟩
     ·
      obtain rfl := Option.some.inj H
      go_wp2
      go_ret
      exact ⟨rs, dn⟩
end Go.Proofs.YtncdadcmghglkaaGreatDoor.PFnExactCountParts
