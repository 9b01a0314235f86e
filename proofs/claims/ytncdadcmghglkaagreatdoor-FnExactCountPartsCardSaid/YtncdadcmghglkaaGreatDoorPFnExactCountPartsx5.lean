/- Printed walks; conditions: those in each statement. -/
import Derived.Test.YtncdadcmghglkaaGreatDoorVFnExactCountPartsQt
import Derived.Test.YtncdadcmghglkaaGreatDoorVFnExactCountPartsYt
import Derived.Test.YtncdadcmghglkaaGreatDoorPFnExactCountPartsx0
import Derived.Test.YtncdadcmghglkaaGreatDoorPFnExactCountPartsx2
import Derived.Test.YtncdadcmghglkaaGreatDoorPFnExactCountPartsx3
import Derived.Test.YtncdadcmghglkaaGreatDoorPFnExactCountPartsx4
-- short
-- dense
-- sq
namespace Go.Proofs.YtncdadcmghglkaaGreatDoor.PFnExactCountParts
open Go.RowKit Go.Proofs.YtncdadcmghglkaaGreatDoor.X Go.Proofs.YtncdadcmghglkaaGreatDoorW.PrintWords Go.Proofs.YtncdadcmghglkaaGreatDoorW.PrintLast Go.Proofs.YtncdadcmghglkaaGreatDoorW.PrintMore
attribute [local go_sem] max2_int min2_int max_two min_two max_three min_three max_four min_four   -- for this text's walks alone
set_option linter.unusedVariables false
set_option linter.unusedSimpArgs false
def spec_l2Cut.l0 : Nat → ByteArray → Int → Int → Option (ByteArray × ByteArray × Bool)
 | 0, _, _, _ => none
 | k + 1, x0, x1, x7 => if x7 < (x0.size : Int) then (if 0 ≤ x7 then (if (bt x0 x7) = 34 then ((spec_l1Read.f k x0 x7).bind fun bt189 => (if bt189.2 < 0 then (some (x0, (⟨#[]⟩ : ByteArray), false)) else (spec_l2Cut.l0 k x0 x1 bt189.2))) else (if (bt x0 x7) = x1 then (if x7 ≤ (x0.size : Int) then (if 0 ≤ (wrap64 (x7 + 1)) then (if (wrap64 (x7 + 1)) ≤ (x0.size : Int) then (some (x0.extract 0 (x7 : Int).toNat, x0.extract ((wrap64 (x7 + 1)) : Int).toNat x0.size, true)) else (none)) else (none)) else (none)) else (spec_l2Cut.l0 k x0 x1 (wrap64 (x7 + 1))))) else (none)) else (some (x0, (⟨#[]⟩ : ByteArray), false))
def spec_l2Cut.f (k : Nat) (a0 : ByteArray) (a1 : Int) : Option (ByteArray × ByteArray × Bool) := spec_l2Cut.l0 k a0 a1 0
set_option maxHeartbeats 8000000 in
set_option maxRecDepth 100000 in
theorem spec_l2Cut.calls (k : Nat) (a0 : ByteArray) (a1 : Int) (r1 : ByteArray) (r2 : ByteArray) (r3 : Bool) (w : World) (h : spec_l2Cut.f k a0 a1 = some (r1, r2, r3)) :
  Calls Tryz.prog 178 #[.string a0, .int .u8 a1] w fun e w' => e = .returned (.tuple #[.string r1, .string r2, .bool r3]) ∧ Drawn0 w w' := by
 have H : (spec_l2Cut.l0 k a0 a1 0) = some (r1, r2, r3) := h
 clear h
 have H' := ak H; clear H
 go_enter Tryz.func178, Tryz.ntmps178
 go_wp2
 repeat (go_quiet (fail); try go_wp2)
 go_loopg [7] k (fun kq v7 w' => ∃ (x7_1 : Int), v7 = .int .i64 x7_1 ∧ Aside0 (spec_l2Cut.l0 kq a0 a1 x7_1 = some (r1, r2, r3)) ∧ Aside0 (kq ≤ k) ∧ Drawn0 w w')
 case atStart => exact ⟨(0), rs, H', ⟨Nat.le_refl _⟩, dn⟩
 case round =>
  clear H'
  try clear c1
  try clear p2
  obtain ⟨x7_1, rfl, HA, HK1, ⟨m1, rfl⟩⟩ := hrel
  cases gk with
  | zero => exact absurd HA.out (by simp [spec_l2Cut.l0])
  | succ k1 =>
   have H := HA.out
   clear HA
   simp only [spec_l2Cut.l0] at H
   replace H := sd H
   rcases H with ⟨c3b0, H⟩ | ⟨c3b0, H⟩
   ·
    replace H := nde H; obtain ⟨c4b0, H⟩ := H; replace H := sq H
    rcases H with ⟨c6b0, c6b1, H⟩ | ⟨c6, c6b0, c6b1, H⟩
    ·
     replace H := bd H
     obtain ⟨⟨t189, t190⟩, A7, H⟩ := H
     (try dsimp only at H)
     replace H := sd H
     rcases H with ⟨c8b0, H⟩ | ⟨c8b0, H⟩
     ·
      simp only [Option.some.injEq, Prod.mk.injEq] at H
      obtain ⟨rfl, rfl, rfl⟩ := H
      obtain ⟨p5, q5, hx5⟩ := bx a0 x7_1
      go_wp2_with (first | (go_at_call 198; (with_reducible refine (spec_l1Read.calls k1 a0 x7_1 t189 t190 _ A7.out).mono ?_); rintro e w' ⟨rfl, ⟨nd, rfl⟩⟩; (try exact dq)))
      repeat (go_quiet (first | (go_at_call 198; (with_reducible refine (spec_l1Read.calls k1 a0 x7_1 t189 t190 _ A7.out).mono ?_); rintro e w' ⟨rfl, ⟨nd, rfl⟩⟩; (try exact dq))); try go_wp2_with (first | (go_at_call 198; (with_reducible refine (spec_l1Read.calls k1 a0 x7_1 t189 t190 _ A7.out).mono ?_); rintro e w' ⟨rfl, ⟨nd, rfl⟩⟩; (try exact dq))))
      go_ret3
      exact ⟨rs, dn⟩
     ·
      have H' := ak H; clear H
      obtain ⟨p5, q5, hx5⟩ := bx a0 x7_1
      go_wp2_with (first | (go_at_call 198; (with_reducible refine (spec_l1Read.calls k1 a0 x7_1 t189 t190 _ A7.out).mono ?_); rintro e w' ⟨rfl, ⟨nd, rfl⟩⟩; (try exact dq)))
      repeat (go_quiet (first | (go_at_call 198; (with_reducible refine (spec_l1Read.calls k1 a0 x7_1 t189 t190 _ A7.out).mono ?_); rintro e w' ⟨rfl, ⟨nd, rfl⟩⟩; (try exact dq))); try go_wp2_with (first | (go_at_call 198; (with_reducible refine (spec_l1Read.calls k1 a0 x7_1 t189 t190 _ A7.out).mono ?_); rintro e w' ⟨rfl, ⟨nd, rfl⟩⟩; (try exact dq))))
      go_roundg k1
      case measure => have := HK1.out; omega
      case rel => exact ⟨(t190), rs, H', ⟨by have := HK1.out; omega⟩, dn⟩
    ·
     replace H := sq H
     rcases H with ⟨c10b0, c10b1, H⟩ | ⟨c10, c10b0, c10b1, H⟩
     ·
      have c11b0 := eq_true (of_decide_eq_true (by assumption) : 0 ≤ x7_1)
      replace H := ne_ H; obtain ⟨c12b0, c12b1, H⟩ := H
      obtain ⟨ji13, hji13⟩ : ∃ j_ : Int, (wrap64 (x7_1 + 1)) = j_ := ⟨_, rfl⟩
      replace H : (if 0 ≤ (ji13) then (if (ji13) ≤ (a0.size : Int) then (some (a0.extract 0 (x7_1 : Int).toNat, a0.extract ((ji13) : Int).toNat a0.size, true)) else (none)) else (none)) = some (r1, r2, r3) := by first | (rw [hji13] at H; exact H) | (simp only [hji13] at H ⊢; exact H)
      have hji13w : (IntKind.i64.wrap (x7_1 + 1)) = ji13 := (i64_w _).trans hji13
      replace H := ne_ H; obtain ⟨c14b0, c14b1, H⟩ := H; replace H := ne_ H; obtain ⟨c15b0, c15b1, H⟩ := H
      simp only [Option.some.injEq, Prod.mk.injEq] at H
      obtain ⟨rfl, rfl, rfl⟩ := H
      obtain ⟨p5, q5, hx5⟩ := bx a0 x7_1
      obtain ⟨p9, q9, hx9⟩ := bx a0 x7_1
      go_wp2
      repeat (go_quiet (fail); try go_wp2)
      go_ret3
      exact ⟨by first | rfl | (simp; done) | (simp only [← hji13] <;> (first | rfl | simp)) | (simp [*]; done), dn⟩
     ·
      have H' := ak H; clear H
      obtain ⟨p5, q5, hx5⟩ := bx a0 x7_1
      obtain ⟨p9, q9, hx9⟩ := bx a0 x7_1
      go_wp2
      repeat (go_quiet (fail); try go_wp2)
      go_roundg k1
      case measure => have := HK1.out; omega
      case rel => exact ⟨(wrap64 (x7_1 + 1)), rs, H', ⟨by have := HK1.out; omega⟩, dn⟩
   ·
    simp only [Option.some.injEq, Prod.mk.injEq] at H
    obtain ⟨rfl, rfl, rfl⟩ := H
    go_wp2
    repeat (go_quiet (fail); try go_wp2)
    go_ret3
    exact ⟨rs, dn⟩
def spec_l1Atom.l0 : Nat → Int → Int → Option (Bool)
 | 0, _, _ => none
 | k + 1, x0, x3 => if x3 < 19 then (if 0 ≤ x3 then (if x0 = (bt (⟨#[33, 35, 36, 37, 38, 39, 42, 43, 45, 47, 61, 63, 94, 95, 96, 123, 124, 125, 126]⟩ : ByteArray) x3) then (some true) else (spec_l1Atom.l0 k x0 (wrap64 (x3 + 1)))) else (none)) else ((spec_l1Letter.f x0).bind fun t191 => (some t191))
def spec_l1Atom.f (k : Nat) (a0 : Int) : Option (Bool) := spec_l1Atom.l0 k a0 0
set_option maxHeartbeats 8000000 in
set_option maxRecDepth 100000 in
theorem spec_l1Atom.calls (k : Nat) (a0 : Int) (r : Bool) (w : World) (h : spec_l1Atom.f k a0 = some r) :
  Calls Tryz.prog 199 #[.int .u8 a0] w fun e w' => e = .returned (.bool r) ∧ Drawn0 w w' := by
 have H : (spec_l1Atom.l0 k a0 0) = some r := h
 clear h
 have H' := ak H; clear H
 go_enter Tryz.func199, Tryz.ntmps199
 go_wp2
 go_loopg [3] k (fun kq v3 w' => ∃ (x3_1 : Int), v3 = .int .i64 x3_1 ∧ Aside0 (spec_l1Atom.l0 kq a0 x3_1 = some r) ∧ Aside0 (kq ≤ k) ∧ Drawn0 w w')
 case atStart => exact ⟨(0), rs, H', ⟨Nat.le_refl _⟩, dn⟩
 case round =>
  clear H'
  try clear c1
  obtain ⟨x3_1, rfl, HA, HK1, ⟨m1, rfl⟩⟩ := hrel
  cases gk with
  | zero => exact absurd HA.out (by simp [spec_l1Atom.l0])
  | succ k1 =>
   have H := HA.out
   clear HA
   simp only [spec_l1Atom.l0] at H
   replace H := sd H
   rcases H with ⟨c2b0, H⟩ | ⟨c2b0, H⟩
   ·
    replace H := nde H; obtain ⟨c3b0, H⟩ := H; replace H := sq H
    rcases H with ⟨c5b0, c5b1, H⟩ | ⟨c5, c5b0, c5b1, H⟩
    ·
     obtain rfl := Option.some.inj H
     have p4 := zi x3_1
     have q4 := zj x3_1 19
     have hx4 := bt_at (⟨#[33, 35, 36, 37, 38, 39, 42, 43, 45, 47, 61, 63, 94, 95, 96, 123, 124, 125, 126]⟩ : ByteArray) x3_1
     replace p4 := eq_true p4
     replace q4 := eq_true q4
     go_wp2
     go_ret
     exact ⟨rs, dn⟩
    ·
     have H' := ak H; clear H
     have p4 := zi x3_1
     have q4 := zj x3_1 19
     have hx4 := bt_at (⟨#[33, 35, 36, 37, 38, 39, 42, 43, 45, 47, 61, 63, 94, 95, 96, 123, 124, 125, 126]⟩ : ByteArray) x3_1
     replace p4 := eq_true p4
     replace q4 := eq_true q4
     go_wp2
     go_roundg k1
     case measure => have := HK1.out; omega
     case rel => exact ⟨(wrap64 (x3_1 + 1)), rs, H', ⟨by have := HK1.out; omega⟩, dn⟩
   ·
    replace H := bd H; obtain ⟨t191, A6, H⟩ := H
    obtain rfl := Option.some.inj H
    go_wp2_with (first | (refine gL 183 13 Tryz.func183 #[.int .u8 a0] ?_; (with_reducible refine (spec_l1Letter.calls a0 t191 _ A6.out).mono ?_); rintro e w' ⟨rfl, ⟨nd, rfl⟩⟩; refine ⟨_, rfl, ?_⟩))
    go_ret
    exact ⟨rs, dn⟩
mutual
def spec_l1Words.l0 : Nat → ByteArray → List ByteArray → Int → Option (List ByteArray × Bool)
 | 0, _, _, _ => none
 | k + 1, x0, x4, x5 => if x5 < (x0.size : Int) then (if 0 ≤ x5 then (if (bt x0 x5) = 32 then (spec_l1Words.l0 k x0 x4 (wrap64 (x5 + 1))) else (if (bt x0 x5) = 34 then ((spec_l1Read.f k x0 x5).bind fun bt195 => (if bt195.2 < 0 then (some ((([] : List ByteArray)), false)) else (if bt195.2 = x5 then (some ((([] : List ByteArray)), false)) else (if bt195.2 < (x0.size : Int) then (if 0 ≤ bt195.2 then (if (bt x0 bt195.2) = 32 then (if x4.length < 8796093022208 then (spec_l1Words.l0 k x0 (x4 ++ [bt195.1]) bt195.2) else (none)) else (some ((([] : List ByteArray)), false))) else (none)) else (if x4.length < 8796093022208 then (spec_l1Words.l0 k x0 (x4 ++ [bt195.1]) bt195.2) else (none)))))) else (spec_l1Words.l1 k x0 x4 x5 x5))) else (none)) else (some (x4, true))
def spec_l1Words.l1 : Nat → ByteArray → List ByteArray → Int → Int → Option (List ByteArray × Bool)
 | 0, _, _, _, _ => none
 | k + 1, x0, x4, x5, x6 => if x5 < (x0.size : Int) then (if 0 ≤ x5 then ((spec_l1Atom.f k (bt x0 x5)).bind fun t212 => (if t212 = true then (spec_l1Words.l1 k x0 x4 (wrap64 (x5 + 1)) x6) else (if 0 ≤ x6 then (if x6 ≤ x5 then (if x5 ≤ (x0.size : Int) then (if x5 = x6 then (some ((([] : List ByteArray)), false)) else (if (bt x0 x5) = 32 then (if x4.length < 8796093022208 then (spec_l1Words.l0 k x0 (x4 ++ [x0.extract (x6 : Int).toNat (x5 : Int).toNat]) x5) else (none)) else (some ((([] : List ByteArray)), false)))) else (none)) else (none)) else (none)))) else (none)) else (if 0 ≤ x6 then (if x6 ≤ x5 then (if x5 ≤ (x0.size : Int) then (if x5 = x6 then (some ((([] : List ByteArray)), false)) else (if x4.length < 8796093022208 then (spec_l1Words.l0 k x0 (x4 ++ [x0.extract (x6 : Int).toNat (x5 : Int).toNat]) x5) else (none))) else (none)) else (none)) else (none))
end
def spec_l1Words.f (k : Nat) (a0 : ByteArray) : Option (List ByteArray × Bool) := spec_l1Words.l0 k a0 (([] : List ByteArray)) 0
set_option maxHeartbeats 8000000 in
set_option maxRecDepth 100000 in
theorem spec_l1Words.calls (k : Nat) (a0 : ByteArray) (r1 : List ByteArray) (r2 : Bool) (w : World) (h : spec_l1Words.f k a0 = some (r1, r2)) :
  Calls Tryz.prog 181 #[.string a0] w fun e w' => ∃ v0_ : Value, e = .returned (.tuple #[v0_, .bool r2]) ∧ Kd.R Kd.string 9 w' w.heap.size (fun _ => True) v0_ r1 ∧ Below w.heap.size w w' := by
 have HB := ak (Below.refl w.heap.size w)
 have H : (spec_l1Words.l0 k a0 (([] : List ByteArray)) 0) = some (r1, r2) := h
 clear h
 obtain ⟨y192, Ny192⟩ := nm ([] : List ByteArray)
 rw [← Ny192.out] at H
 (try rw [Option.bind_some] at H)
 have H' := ak H; clear H
 go_enter Tryz.func181, Tryz.ntmps181
 go_wp2_with (first | ((with_reducible refine gate_dst (N := 8) rfl ?_); (try (refine gate_guard (by rfl) ?_; dsimp only)); refine Kd.R_lit Kd.string _ 9 ?hg (N := 8) ?hd (xs := ([] : List ByteArray)) (inner := []) (ok := fun _ => True) (okp := fun _ => True) ?hr ?hp (fun _ hk => hk) trivial (Below.refl _ _) (Nat.le_refl _) (by simp) ?_; (case hd => rfl); (case hg => rfl); (case hr => first | (go_simp; done) | (go_simp; rfl)); (case hp => exact (Reps.none _ _)); intro v193 w2 ho3 hb hg_ hnew_; clear hg_ hnew_; (first | rw [← Ny192.out] at ho3 | (simp only [Int.reduceToNat] at ho3; rw [← Ny192.out] at ho3)); have HO194 := ak (Kd.R_lower ho3 (below_size (ul HB.out))); replace HB := bs HB hb; clear hb ho3))
 go_loopg [4, 5] k (fun kq v4 v5 w' => ∃ (x4_1 : List ByteArray) (x5_1 : Int), v5 = .int .i64 x5_1 ∧ Aside0 (spec_l1Words.l0 kq a0 x4_1 x5_1 = some (r1, r2)) ∧ Aside0 (kq ≤ k) ∧ Aside0 (Kd.R Kd.string 9 w' w.heap.size (fun _ => True) v4 x4_1) ∧ Aside0 (Below w.heap.size w w'))
 case atStart => exact ⟨(y192), (0), rs, H', ⟨Nat.le_refl _⟩, ⟨ur HO194.out⟩, ⟨ul HB.out⟩⟩
 case round =>
  clear H'
  try clear c1
  try clear p2
  obtain ⟨x4_1, x5_1, rfl, HA, HK1, HO_4, HB⟩ := hrel
  cases gk with
  | zero => exact absurd HA.out (by simp [spec_l1Words.l0])
  | succ k1 =>
   have H := HA.out
   clear HA
   simp only [spec_l1Words.l0] at H
   replace H := sd H
   rcases H with ⟨c4b0, H⟩ | ⟨c4b0, H⟩
   ·
    replace H := nde H; obtain ⟨c5b0, H⟩ := H; replace H := sq H
    rcases H with ⟨c7b0, c7b1, H⟩ | ⟨c7, c7b0, c7b1, H⟩
    ·
     have H' := ak H; clear H
     obtain ⟨p6, q6, hx6⟩ := bx a0 x5_1
     go_wp2
     go_roundg k1
     case measure => have := HK1.out; omega
     case rel => exact ⟨(x4_1), (wrap64 (x5_1 + 1)), rs, H', ⟨by have := HK1.out; omega⟩, ⟨ur HO_4.out⟩, ⟨ul HB.out⟩⟩
    ·
     replace H := sq H
     rcases H with ⟨c9b0, c9b1, H⟩ | ⟨c9, c9b0, c9b1, H⟩
     ·
      replace H := bd H
      obtain ⟨⟨t195, t196⟩, A10, H⟩ := H
      (try dsimp only at H)
      replace H := sd H
      rcases H with ⟨c11b0, H⟩ | ⟨c11b0, H⟩
      ·
       obtain ⟨y197, Ny197⟩ := nm ([] : List ByteArray)
       rw [← Ny197.out] at H
       (try rw [Option.bind_some] at H)
       simp only [Option.some.injEq, Prod.mk.injEq] at H
       obtain ⟨rfl, rfl⟩ := H
       obtain ⟨p6, q6, hx6⟩ := bx a0 x5_1
       obtain ⟨p8, q8, hx8⟩ := bx a0 x5_1
       go_wp2_with (first | (refine gL 198 27 Tryz.func198 #[.string a0, .int .i64 x5_1] ?_; (with_reducible refine (spec_l1Read.calls k1 a0 x5_1 t195 t196 _ A10.out).mono ?_); rintro e w' ⟨rfl, ⟨nd, rfl⟩⟩; refine ⟨_, rfl, ?_⟩) | ((with_reducible refine gate_dst (N := 32) rfl ?_); (try (refine gate_guard (by rfl) ?_; dsimp only)); refine Kd.R_lit Kd.string _ 9 ?hg (N := 32) ?hd (xs := ([] : List ByteArray)) (inner := []) (ok := fun _ => True) (okp := fun _ => True) ?hr ?hp (fun _ hk => hk) trivial (Below.refl _ _) (Nat.le_refl _) (by simp) ?_; (case hd => rfl); (case hg => rfl); (case hr => first | (go_simp; done) | (go_simp; rfl)); (case hp => exact (Reps.none _ _)); intro v198 w12 ho13 hb hg_ hnew_; clear hg_ hnew_; (first | rw [← Ny197.out] at ho13 | (simp only [Int.reduceToNat] at ho13; rw [← Ny197.out] at ho13)); have HO199 := ak (Kd.R_lower (Kd.R_new' ho13 (Kd.R_lt (ur HO_4.out))) (below_size (ul HB.out))); replace HO_4 := ak (Kd.R_elder' (ur HO_4.out) (Kd.R_base ho13) hb); replace HB := bs HB hb; clear hb ho13))
       go_ret2
       exact ⟨_, er, ur (Kd.R_mono HO199.out (fun _ hk => trivial)), ul HB.out⟩
      ·
       replace H := sq H
       rcases H with ⟨c14b0, c14b1, H⟩ | ⟨c14, c14b0, c14b1, H⟩
       ·
        obtain ⟨y200, Ny200⟩ := nm ([] : List ByteArray)
        rw [← Ny200.out] at H
        (try rw [Option.bind_some] at H)
        simp only [Option.some.injEq, Prod.mk.injEq] at H
        obtain ⟨rfl, rfl⟩ := H
        obtain ⟨p6, q6, hx6⟩ := bx a0 x5_1
        obtain ⟨p8, q8, hx8⟩ := bx a0 x5_1
        go_wp2_with (first | (refine gL 198 27 Tryz.func198 #[.string a0, .int .i64 x5_1] ?_; (with_reducible refine (spec_l1Read.calls k1 a0 x5_1 t195 t196 _ A10.out).mono ?_); rintro e w' ⟨rfl, ⟨nd, rfl⟩⟩; refine ⟨_, rfl, ?_⟩) | ((with_reducible refine gate_dst (N := 64) rfl ?_); (try (refine gate_guard (by rfl) ?_; dsimp only)); refine Kd.R_lit Kd.string _ 9 ?hg (N := 64) ?hd (xs := ([] : List ByteArray)) (inner := []) (ok := fun _ => True) (okp := fun _ => True) ?hr ?hp (fun _ hk => hk) trivial (Below.refl _ _) (Nat.le_refl _) (by simp) ?_; (case hd => rfl); (case hg => rfl); (case hr => first | (go_simp; done) | (go_simp; rfl)); (case hp => exact (Reps.none _ _)); intro v201 w15 ho16 hb hg_ hnew_; clear hg_ hnew_; (first | rw [← Ny200.out] at ho16 | (simp only [Int.reduceToNat] at ho16; rw [← Ny200.out] at ho16)); have HO202 := ak (Kd.R_lower (Kd.R_new' ho16 (Kd.R_lt (ur HO_4.out))) (below_size (ul HB.out))); replace HO_4 := ak (Kd.R_elder' (ur HO_4.out) (Kd.R_base ho16) hb); replace HB := bs HB hb; clear hb ho16))
        go_ret2
        exact ⟨_, er, ur (Kd.R_mono HO202.out (fun _ hk => trivial)), ul HB.out⟩
       ·
        replace H := sd H
        rcases H with ⟨c17b0, H⟩ | ⟨c17b0, H⟩
        ·
         replace H := nde H; obtain ⟨c18b0, H⟩ := H; replace H := sq H
         rcases H with ⟨c20b0, c20b1, H⟩ | ⟨c20, c20b0, c20b1, H⟩
         ·
          replace H := nl H; obtain ⟨LMc21, H⟩ := H
          obtain ⟨y203, Ny203⟩ := nm (x4_1 ++ [t195])
          rw [← Ny203.out] at H
          (try rw [Option.bind_some] at H)
          have H' := ak H; clear H
          obtain ⟨p6, q6, hx6⟩ := bx a0 x5_1
          obtain ⟨p8, q8, hx8⟩ := bx a0 x5_1
          go_wp2_with (first | (refine gL 198 27 Tryz.func198 #[.string a0, .int .i64 x5_1] ?_; (with_reducible refine (spec_l1Read.calls k1 a0 x5_1 t195 t196 _ A10.out).mono ?_); rintro e w' ⟨rfl, ⟨nd, rfl⟩⟩; refine ⟨_, rfl, ?_⟩; have p19 : 0 ≤ (t196 : Int) := of_decide_eq_true (by assumption); have q19 : t196 < (a0.size : Int) := of_decide_eq_true (by assumption); have hx19 := bt_at a0 t196; replace p19 := eq_true p19; replace q19 := eq_true q19) | ((with_reducible refine gate_builtin (b := .append) (xs := #[.tmp 65, .tmp 67]) rfl ?_); (try (refine gate_guard (by rfl) ?_; dsimp only)); at_builtin; refine Kd.R_append Kd.string (w0 := w) w.heap.size rfl (.tmp 65) (.tmp 67) 23 9 (.string ⟨#[]⟩) 16 rfl Tryz.underlying23 info9 rfl (by decide) (by omega) u4 x4_1 t195 [.string t195] (fun _ => True) (fun _ => False) rfl rfl ?aP (fun _ hk => hk.elim) ?aF ?aO ?aB ?aS ?aL ?_; (case aP => exact rfl); (case aB => exact (ul HB.out)); (case aF => exact (fun _ _ => trivial)); (case aO => exact (ur HO_4.out)); (case aS => exact (below_size (ul HB.out))); (case aL => have := LMc21.out; omega); intro v204 w22 ho hb hg hat; rw [← Ny203.out] at ho; have n0_ := ak (hb); have n1_ := ak (ho); clear HB; clear HO_4; have HB := n0_; have HO205 := n1_; clear n0_ n1_; clear ho hb hg hat))
          go_roundg k1
          case measure => have := HK1.out; omega
          case rel => exact ⟨(y203), (t196), rs, H', ⟨by have := HK1.out; omega⟩, ⟨ur HO205.out⟩, ⟨ul HB.out⟩⟩
         ·
          obtain ⟨y206, Ny206⟩ := nm ([] : List ByteArray)
          rw [← Ny206.out] at H
          (try rw [Option.bind_some] at H)
          simp only [Option.some.injEq, Prod.mk.injEq] at H
          obtain ⟨rfl, rfl⟩ := H
          obtain ⟨p6, q6, hx6⟩ := bx a0 x5_1
          obtain ⟨p8, q8, hx8⟩ := bx a0 x5_1
          go_wp2_with (first | (refine gL 198 27 Tryz.func198 #[.string a0, .int .i64 x5_1] ?_; (with_reducible refine (spec_l1Read.calls k1 a0 x5_1 t195 t196 _ A10.out).mono ?_); rintro e w' ⟨rfl, ⟨nd, rfl⟩⟩; refine ⟨_, rfl, ?_⟩; have p19 : 0 ≤ (t196 : Int) := of_decide_eq_true (by assumption); have q19 : t196 < (a0.size : Int) := of_decide_eq_true (by assumption); have hx19 := bt_at a0 t196; replace p19 := eq_true p19; replace q19 := eq_true q19) | ((with_reducible refine gate_dst (N := 64) rfl ?_); (try (refine gate_guard (by rfl) ?_; dsimp only)); refine Kd.R_lit Kd.string _ 9 ?hg (N := 64) ?hd (xs := ([] : List ByteArray)) (inner := []) (ok := fun _ => True) (okp := fun _ => True) ?hr ?hp (fun _ hk => hk) trivial (Below.refl _ _) (Nat.le_refl _) (by simp) ?_; (case hd => rfl); (case hg => rfl); (case hr => first | (go_simp; done) | (go_simp; rfl)); (case hp => exact (Reps.none _ _)); intro v207 w23 ho24 hb hg_ hnew_; clear hg_ hnew_; (first | rw [← Ny206.out] at ho24 | (simp only [Int.reduceToNat] at ho24; rw [← Ny206.out] at ho24)); have HO208 := ak (Kd.R_lower (Kd.R_new' ho24 (Kd.R_lt (ur HO_4.out))) (below_size (ul HB.out))); replace HO_4 := ak (Kd.R_elder' (ur HO_4.out) (Kd.R_base ho24) hb); replace HB := bs HB hb; clear hb ho24))
          go_ret2
          exact ⟨_, er, ur (Kd.R_mono HO208.out (fun _ hk => trivial)), ul HB.out⟩
        ·
         replace H := nl H; obtain ⟨LMc25, H⟩ := H
         obtain ⟨y209, Ny209⟩ := nm (x4_1 ++ [t195])
         rw [← Ny209.out] at H
         (try rw [Option.bind_some] at H)
         have H' := ak H; clear H
         obtain ⟨p6, q6, hx6⟩ := bx a0 x5_1
         obtain ⟨p8, q8, hx8⟩ := bx a0 x5_1
         go_wp2_with (first | (refine gL 198 27 Tryz.func198 #[.string a0, .int .i64 x5_1] ?_; (with_reducible refine (spec_l1Read.calls k1 a0 x5_1 t195 t196 _ A10.out).mono ?_); rintro e w' ⟨rfl, ⟨nd, rfl⟩⟩; refine ⟨_, rfl, ?_⟩) | ((with_reducible refine gate_builtin (b := .append) (xs := #[.tmp 65, .tmp 67]) rfl ?_); (try (refine gate_guard (by rfl) ?_; dsimp only)); at_builtin; refine Kd.R_append Kd.string (w0 := w) w.heap.size rfl (.tmp 65) (.tmp 67) 23 9 (.string ⟨#[]⟩) 16 rfl Tryz.underlying23 info9 rfl (by decide) (by omega) u4 x4_1 t195 [.string t195] (fun _ => True) (fun _ => False) rfl rfl ?aP (fun _ hk => hk.elim) ?aF ?aO ?aB ?aS ?aL ?_; (case aP => exact rfl); (case aB => exact (ul HB.out)); (case aF => exact (fun _ _ => trivial)); (case aO => exact (ur HO_4.out)); (case aS => exact (below_size (ul HB.out))); (case aL => have := LMc25.out; omega); intro v210 w26 ho hb hg hat; rw [← Ny209.out] at ho; have n0_ := ak (hb); have n1_ := ak (ho); clear HB; clear HO_4; have HB := n0_; have HO211 := n1_; clear n0_ n1_; clear ho hb hg hat))
         go_roundg k1
         case measure => have := HK1.out; omega
         case rel => exact ⟨(y209), (t196), rs, H', ⟨by have := HK1.out; omega⟩, ⟨ur HO211.out⟩, ⟨ul HB.out⟩⟩
     ·
      have H' := ak H; clear H
      obtain ⟨p6, q6, hx6⟩ := bx a0 x5_1
      obtain ⟨p8, q8, hx8⟩ := bx a0 x5_1
      go_wp2
      go_loopg [5] k1 (fun kq v5 w' => ∃ (x5_2 : Int), v5 = .int .i64 x5_2 ∧ Aside0 (spec_l1Words.l1 kq a0 x4_1 x5_2 x5_1 = some (r1, r2)) ∧ Aside0 (kq ≤ k1) ∧ Aside0 (Kd.R Kd.string 9 w' w.heap.size (fun _ => True) u4 x4_1) ∧ Aside0 (Below w.heap.size w w'))
      case atStart => exact ⟨(x5_1), rs, H', ⟨Nat.le_refl _⟩, ⟨ur HO_4.out⟩, ⟨ul HB.out⟩⟩
      case round =>
       clear H'
       try clear c1
       try clear p1
       try clear q1
       try clear hx1
       try clear c2
       try clear p2
       try clear c4
       try clear c4b0
       try clear c5
       try clear c5b0
       try clear p6
       try clear q6
       try clear hx6
       try clear c7
       try clear c7b0
       try clear c7b1
       try clear p8
       try clear q8
       try clear hx8
       try clear c9
       try clear c9b0
       try clear c9b1
       try clear c11
       try clear c11b0
       try clear c14
       try clear c14b0
       try clear c14b1
       try clear c17
       try clear c17b0
       try clear c18
       try clear c18b0
       try clear c19
       try clear p19
       try clear q19
       try clear hx19
       try clear c20
       try clear c20b0
       try clear c20b1
       try clear c21
       try clear c25
       try clear p19
       try clear p2
       try clear p6
       try clear p8
       try clear q19
       try clear q6
       try clear q8
       obtain ⟨x5_2, rfl, HA, HK2, HO_4, HB⟩ := hrel
       cases gk with
       | zero => exact absurd HA.out (by simp [spec_l1Words.l1])
       | succ k2 =>
        have H := HA.out
        clear HA
        simp only [spec_l1Words.l1] at H
        replace H := sd H
        rcases H with ⟨c27b0, H⟩ | ⟨c27b0, H⟩
        ·
         replace H := nde H; obtain ⟨c28b0, H⟩ := H; replace H := bd H; obtain ⟨t212, A30, H⟩ := H; replace H := sb H
         rcases H with ⟨rfl, H⟩ | ⟨rfl, H⟩
         ·
          have H' := ak H; clear H
          obtain ⟨p29, q29, hx29⟩ := bx a0 x5_2
          go_wp2_with (first | (go_at_call 199; (with_reducible refine (spec_l1Atom.calls k2 (bt a0 x5_2) true _ A30.out).mono ?_); rintro e w' ⟨rfl, ⟨nd, rfl⟩⟩))
          go_roundg k2
          case measure => have := HK1.out; have := HK2.out; omega
          case rel => exact ⟨(wrap64 (x5_2 + 1)), rs, H', ⟨by have := HK1.out; have := HK2.out; omega⟩, ⟨ur HO_4.out⟩, ⟨ul HB.out⟩⟩
         ·
          replace H := ne_ H; obtain ⟨c32b0, c32b1, H⟩ := H; replace H := ne_ H; obtain ⟨c33b0, c33b1, H⟩ := H; replace H := ne_ H; obtain ⟨c34b0, c34b1, H⟩ := H; replace H := sq H
          rcases H with ⟨c35b0, c35b1, H⟩ | ⟨c35, c35b0, c35b1, H⟩
          ·
           obtain ⟨y213, Ny213⟩ := nm ([] : List ByteArray)
           rw [← Ny213.out] at H
           (try rw [Option.bind_some] at H)
           simp only [Option.some.injEq, Prod.mk.injEq] at H
           obtain ⟨rfl, rfl⟩ := H
           obtain ⟨p29, q29, hx29⟩ := bx a0 x5_2
           go_wp2_with (first | (go_at_call 199; (with_reducible refine (spec_l1Atom.calls k2 (bt a0 x5_2) false _ A30.out).mono ?_); rintro e w' ⟨rfl, ⟨nd, rfl⟩⟩) | ((with_reducible refine gate_dst (N := 64) rfl ?_); (try (refine gate_guard (by rfl) ?_; dsimp only)); refine Kd.R_lit Kd.string _ 9 ?hg (N := 64) ?hd (xs := ([] : List ByteArray)) (inner := []) (ok := fun _ => True) (okp := fun _ => True) ?hr ?hp (fun _ hk => hk) trivial (Below.refl _ _) (Nat.le_refl _) (by simp) ?_; (case hd => rfl); (case hg => rfl); (case hr => first | (go_simp; done) | (go_simp; rfl)); (case hp => exact (Reps.none _ _)); intro v214 w36 ho37 hb hg_ hnew_; clear hg_ hnew_; (first | rw [← Ny213.out] at ho37 | (simp only [Int.reduceToNat] at ho37; rw [← Ny213.out] at ho37)); have HO215 := ak (Kd.R_lower (Kd.R_new' ho37 (Kd.R_lt (ur HO_4.out))) (below_size (ul HB.out))); replace HO_4 := ak (Kd.R_elder' (ur HO_4.out) (Kd.R_base ho37) hb); replace HB := bs HB hb; clear hb ho37))
           go_ret2
           exact ⟨_, er, ur (Kd.R_mono HO215.out (fun _ hk => trivial)), ul HB.out⟩
          ·
           replace H := sq H
           rcases H with ⟨c39b0, c39b1, H⟩ | ⟨c39, c39b0, c39b1, H⟩
           ·
            replace H := nl H; obtain ⟨LMc40, H⟩ := H
            obtain ⟨y216, Ny216⟩ := nm (x4_1 ++ [a0.extract (x5_1 : Int).toNat (x5_2 : Int).toNat])
            rw [← Ny216.out] at H
            (try rw [Option.bind_some] at H)
            have H' := ak H; clear H
            obtain ⟨p29, q29, hx29⟩ := bx a0 x5_2
            go_wp2_with (first | (go_at_call 199; (with_reducible refine (spec_l1Atom.calls k2 (bt a0 x5_2) false _ A30.out).mono ?_); rintro e w' ⟨rfl, ⟨nd, rfl⟩⟩; have p38 : 0 ≤ (x5_2 : Int) := of_decide_eq_true (by assumption); have q38 : x5_2 < (a0.size : Int) := of_decide_eq_true (by assumption); have hx38 := bt_at a0 x5_2; replace p38 := eq_true p38; replace q38 := eq_true q38) | ((with_reducible refine gate_builtin (b := .append) (xs := #[.tmp 65, .tmp 67]) rfl ?_); (try (refine gate_guard (by rfl) ?_; dsimp only)); at_builtin; refine Kd.R_append Kd.string (w0 := w) w.heap.size rfl (.tmp 65) (.tmp 67) 23 9 (.string ⟨#[]⟩) 16 rfl Tryz.underlying23 info9 rfl (by decide) (by omega) u4 x4_1 (a0.extract (x5_1 : Int).toNat (x5_2 : Int).toNat) [.string (a0.extract (x5_1 : Int).toNat (x5_2 : Int).toNat)] (fun _ => True) (fun _ => False) rfl rfl ?aP (fun _ hk => hk.elim) ?aF ?aO ?aB ?aS ?aL ?_; (case aP => exact rfl); (case aB => exact (ul HB.out)); (case aF => exact (fun _ _ => trivial)); (case aO => exact (ur HO_4.out)); (case aS => exact (below_size (ul HB.out))); (case aL => have := LMc40.out; omega); intro v217 w41 ho hb hg hat; rw [← Ny216.out] at ho; have n0_ := ak (hb); have n1_ := ak (ho); clear HB; clear HO_4; have HB := n0_; have HO218 := n1_; clear n0_ n1_; clear ho hb hg hat))
            go_roundg k2
            case measure => have := HK1.out; have := HK2.out; omega
            case rel => exact ⟨(y216), (x5_2), rs, H', ⟨by have := HK1.out; have := HK2.out; omega⟩, ⟨ur HO218.out⟩, ⟨ul HB.out⟩⟩
           ·
            obtain ⟨y219, Ny219⟩ := nm ([] : List ByteArray)
            rw [← Ny219.out] at H
            (try rw [Option.bind_some] at H)
            simp only [Option.some.injEq, Prod.mk.injEq] at H
            obtain ⟨rfl, rfl⟩ := H
            obtain ⟨p29, q29, hx29⟩ := bx a0 x5_2
            go_wp2_with (first | (go_at_call 199; (with_reducible refine (spec_l1Atom.calls k2 (bt a0 x5_2) false _ A30.out).mono ?_); rintro e w' ⟨rfl, ⟨nd, rfl⟩⟩; have p38 : 0 ≤ (x5_2 : Int) := of_decide_eq_true (by assumption); have q38 : x5_2 < (a0.size : Int) := of_decide_eq_true (by assumption); have hx38 := bt_at a0 x5_2; replace p38 := eq_true p38; replace q38 := eq_true q38) | ((with_reducible refine gate_dst (N := 64) rfl ?_); (try (refine gate_guard (by rfl) ?_; dsimp only)); refine Kd.R_lit Kd.string _ 9 ?hg (N := 64) ?hd (xs := ([] : List ByteArray)) (inner := []) (ok := fun _ => True) (okp := fun _ => True) ?hr ?hp (fun _ hk => hk) trivial (Below.refl _ _) (Nat.le_refl _) (by simp) ?_; (case hd => rfl); (case hg => rfl); (case hr => first | (go_simp; done) | (go_simp; rfl)); (case hp => exact (Reps.none _ _)); intro v220 w42 ho43 hb hg_ hnew_; clear hg_ hnew_; (first | rw [← Ny219.out] at ho43 | (simp only [Int.reduceToNat] at ho43; rw [← Ny219.out] at ho43)); have HO221 := ak (Kd.R_lower (Kd.R_new' ho43 (Kd.R_lt (ur HO_4.out))) (below_size (ul HB.out))); replace HO_4 := ak (Kd.R_elder' (ur HO_4.out) (Kd.R_base ho43) hb); replace HB := bs HB hb; clear hb ho43))
            go_ret2
            exact ⟨_, er, ur (Kd.R_mono HO221.out (fun _ hk => trivial)), ul HB.out⟩
        ·
         replace H := ne_ H; obtain ⟨c44b0, c44b1, H⟩ := H; replace H := ne_ H; obtain ⟨c45b0, c45b1, H⟩ := H; replace H := ne_ H; obtain ⟨c46b0, c46b1, H⟩ := H; replace H := sq H
         rcases H with ⟨c47b0, c47b1, H⟩ | ⟨c47, c47b0, c47b1, H⟩
         ·
          obtain ⟨y222, Ny222⟩ := nm ([] : List ByteArray)
          rw [← Ny222.out] at H
          (try rw [Option.bind_some] at H)
          simp only [Option.some.injEq, Prod.mk.injEq] at H
          obtain ⟨rfl, rfl⟩ := H
          go_wp2_with (first | ((with_reducible refine gate_dst (N := 64) rfl ?_); (try (refine gate_guard (by rfl) ?_; dsimp only)); refine Kd.R_lit Kd.string _ 9 ?hg (N := 64) ?hd (xs := ([] : List ByteArray)) (inner := []) (ok := fun _ => True) (okp := fun _ => True) ?hr ?hp (fun _ hk => hk) trivial (Below.refl _ _) (Nat.le_refl _) (by simp) ?_; (case hd => rfl); (case hg => rfl); (case hr => first | (go_simp; done) | (go_simp; rfl)); (case hp => exact (Reps.none _ _)); intro v223 w48 ho49 hb hg_ hnew_; clear hg_ hnew_; (first | rw [← Ny222.out] at ho49 | (simp only [Int.reduceToNat] at ho49; rw [← Ny222.out] at ho49)); have HO224 := ak (Kd.R_lower (Kd.R_new' ho49 (Kd.R_lt (ur HO_4.out))) (below_size (ul HB.out))); replace HO_4 := ak (Kd.R_elder' (ur HO_4.out) (Kd.R_base ho49) hb); replace HB := bs HB hb; clear hb ho49))
          go_ret2
          exact ⟨_, er, ur (Kd.R_mono HO224.out (fun _ hk => trivial)), ul HB.out⟩
         ·
          replace H := nl H; obtain ⟨LMc50, H⟩ := H
          obtain ⟨y225, Ny225⟩ := nm (x4_1 ++ [a0.extract (x5_1 : Int).toNat (x5_2 : Int).toNat])
          rw [← Ny225.out] at H
          (try rw [Option.bind_some] at H)
          have H' := ak H; clear H
          go_wp2_with (first | ((with_reducible refine gate_builtin (b := .append) (xs := #[.tmp 65, .tmp 67]) rfl ?_); (try (refine gate_guard (by rfl) ?_; dsimp only)); at_builtin; refine Kd.R_append Kd.string (w0 := w) w.heap.size rfl (.tmp 65) (.tmp 67) 23 9 (.string ⟨#[]⟩) 16 rfl Tryz.underlying23 info9 rfl (by decide) (by omega) u4 x4_1 (a0.extract (x5_1 : Int).toNat (x5_2 : Int).toNat) [.string (a0.extract (x5_1 : Int).toNat (x5_2 : Int).toNat)] (fun _ => True) (fun _ => False) rfl rfl ?aP (fun _ hk => hk.elim) ?aF ?aO ?aB ?aS ?aL ?_; (case aP => exact rfl); (case aB => exact (ul HB.out)); (case aF => exact (fun _ _ => trivial)); (case aO => exact (ur HO_4.out)); (case aS => exact (below_size (ul HB.out))); (case aL => have := LMc50.out; omega); intro v226 w51 ho hb hg hat; rw [← Ny225.out] at ho; have n0_ := ak (hb); have n1_ := ak (ho); clear HB; clear HO_4; have HB := n0_; have HO227 := n1_; clear n0_ n1_; clear ho hb hg hat))
          go_roundg k2
          case measure => have := HK1.out; have := HK2.out; omega
          case rel => exact ⟨(y225), (x5_2), rs, H', ⟨by have := HK1.out; have := HK2.out; omega⟩, ⟨ur HO227.out⟩, ⟨ul HB.out⟩⟩
   ·
    simp only [Option.some.injEq, Prod.mk.injEq] at H
    obtain ⟨rfl, rfl⟩ := H
    go_wp2
    go_ret2
    exact ⟨_, er, ur HO_4.out, ul HB.out⟩
def spec_l7Word.f (k : Nat) (a0 : ByteArray) : Option (Bool) := (spec_l3Name.f k a0).bind fun t228 => (if t228 = true then ((spec_LowerText.f a0).bind fun t229 => (some (t229.toList == a0.toList))) else (some false))
set_option maxHeartbeats 8000000 in
set_option maxRecDepth 100000 in
theorem spec_l7Word.calls (k : Nat) (a0 : ByteArray) (r : Bool) (w : World) (h : spec_l7Word.f k a0 = some r) :
  Calls Tryz.prog 200 #[.string a0] w fun e w' => e = .returned (.bool r) ∧ Below w.heap.size w w' := by
 have HB := ak (Below.refl w.heap.size w)
 have H : ((spec_l3Name.f k a0).bind fun t228 => (if t228 = true then ((spec_LowerText.f a0).bind fun t229 => (some (t229.toList == a0.toList))) else (some false))) = some r := h
 clear h
 replace H := bd H; obtain ⟨t228, A2, H⟩ := H; replace H := sb H
 rcases H with ⟨rfl, H⟩ | ⟨rfl, H⟩
 ·
  replace H := bd H; obtain ⟨t229, A4, H⟩ := H
  obtain rfl := Option.some.inj H
  go_enter Tryz.func200, Tryz.ntmps200
  go_wp2_with (first | (refine gL 184 4 Tryz.func184 #[.string a0] ?_; (with_reducible refine (spec_l3Name.calls k a0 true _ A2.out).mono ?_); rintro e w' ⟨rfl, ⟨nd, rfl⟩⟩; refine ⟨_, rfl, ?_⟩) | (go_at_call 180; (with_reducible refine (spec_LowerText.calls a0 t229 _ A4.out).mono ?_); rintro e w5 ⟨rfl, hb⟩; replace HB := bs HB hb; (try clear hb)))
  go_ret
  exact ⟨er, ul HB.out⟩
 ·
  obtain rfl := Option.some.inj H
  go_enter Tryz.func200, Tryz.ntmps200
  go_wp2_with (first | (refine gL 184 4 Tryz.func184 #[.string a0] ?_; (with_reducible refine (spec_l3Name.calls k a0 false _ A2.out).mono ?_); rintro e w' ⟨rfl, ⟨nd, rfl⟩⟩; refine ⟨_, rfl, ?_⟩))
  go_ret
  exact ⟨er, ul HB.out⟩
def spec_l2Name.f (k : Nat) (a0 : ByteArray) : Option (Bool) := (spec_TextValid.f k a0).bind fun t230 => (if t230 = true then (some (decide ((a0.size : Int) ≤ 40))) else (some false))
set_option maxHeartbeats 8000000 in
set_option maxRecDepth 100000 in
theorem spec_l2Name.calls (k : Nat) (a0 : ByteArray) (r : Bool) (w : World) (h : spec_l2Name.f k a0 = some r) :
  Calls Tryz.prog 201 #[.string a0] w fun e w' => e = .returned (.bool r) ∧ Drawn0 w w' := by
 have H : ((spec_TextValid.f k a0).bind fun t230 => (if t230 = true then (some (decide ((a0.size : Int) ≤ 40))) else (some false))) = some r := h
 clear h
 replace H := bd H; obtain ⟨t230, A2, H⟩ := H; replace H := sb H
 rcases H with ⟨rfl, H⟩ | ⟨rfl, H⟩
 ·
  obtain rfl := Option.some.inj H
  go_enter Tryz.func201, Tryz.ntmps201
  go_wp2_with (first | (refine gL 159 4 Tryz.func159 #[.string a0] ?_; (with_reducible refine (spec_TextValid.calls k a0 true _ A2.out).mono ?_); rintro e w' ⟨rfl, ⟨nd, rfl⟩⟩; refine ⟨_, rfl, ?_⟩))
  go_ret
  exact ⟨rs, dn⟩
 ·
  obtain rfl := Option.some.inj H
  go_enter Tryz.func201, Tryz.ntmps201
  go_wp2_with (first | (refine gL 159 4 Tryz.func159 #[.string a0] ?_; (with_reducible refine (spec_TextValid.calls k a0 false _ A2.out).mono ?_); rintro e w' ⟨rfl, ⟨nd, rfl⟩⟩; refine ⟨_, rfl, ?_⟩))
  go_ret
  exact ⟨rs, dn⟩
end Go.Proofs.YtncdadcmghglkaaGreatDoor.PFnExactCountParts
