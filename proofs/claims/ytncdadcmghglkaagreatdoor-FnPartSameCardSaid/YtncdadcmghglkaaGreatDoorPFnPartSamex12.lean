/- Printed walks; conditions: those in each statement. -/
import Derived.Test.YtncdadcmghglkaaGreatDoorVFnPartSameQt
import Derived.Test.YtncdadcmghglkaaGreatDoorVFnPartSameYt
import Derived.Test.YtncdadcmghglkaaGreatDoorPFnPartSamex0
import Derived.Test.YtncdadcmghglkaaGreatDoorPFnPartSamex4
import Derived.Test.YtncdadcmghglkaaGreatDoorPFnPartSamex10
import Derived.Test.YtncdadcmghglkaaGreatDoorPFnPartSamex11
-- short
-- dense
-- sq
-- sq2
namespace Go.Proofs.YtncdadcmghglkaaGreatDoor.PFnPartSame
open Go.RowKit Go.Proofs.YtncdadcmghglkaaGreatDoor.X Go.Proofs.YtncdadcmghglkaaGreatDoorW.PrintWords Go.Proofs.YtncdadcmghglkaaGreatDoorW.PrintLast Go.Proofs.YtncdadcmghglkaaGreatDoorW.PrintMore
attribute [local go_sem] max2_int min2_int max_two min_two max_three min_three max_four min_four   -- for this text's walks alone
set_option linter.unusedVariables false
set_option maxHeartbeats 8000000
set_option maxRecDepth 100000
set_option linter.unusedSimpArgs false
mutual
def impl_Part_linesOf.j0 : Nat → Int → List ByteArray → Bool → List (S69) → List ByteArray → List (S28) → Option (List ByteArray × Bool)
 | 0, _, _, _, _, _, _ => none
 | k + 1, x1, x6, x27, x329000, x329001, x329002 => if x27 = true then (some (([] : List ByteArray), false)) else (if x6.length < 8796093022208 then ((some (x6 ++ [(⟨#[]⟩ : ByteArray)] : List ByteArray)).bind fun y333 => ((impl_Part_boundary.f k x329000 x329001 x329002).bind fun bt336 => (if bt336.2 = true then (if (x329001.length : Int) > 0 then (impl_Part_linesOf.j1 k x1 y333 bt336.1 true x329000 x329001 x329002) else (if (x329002.length : Int) < 1 then (impl_Part_linesOf.j1 k x1 y333 bt336.1 true x329000 x329001 x329002) else (impl_Part_linesOf.j1 k x1 y333 bt336.1 (decide ((x329002.length : Int) > 4)) x329000 x329001 x329002))) else (if y333.length + x329001.length < 8796093022208 then ((some (y333 ++ x329001 : List ByteArray)).bind fun y338 => (if (x329002.length : Int) = 0 then ((impl_areTexts.f k x329001 30).bind fun t341 => (some (y338, t341))) else (some (y338, false)))) else (none))))) else (none))
def impl_Part_linesOf.j1 : Nat → Int → List ByteArray → ByteArray → Bool → List (S69) → List ByteArray → List (S28) → Option (List ByteArray × Bool)
 | 0, _, _, _, _, _, _, _ => none
 | k + 1, x1, x6, x8, x66, x329000, x329001, x329002 => if x66 = true then (some (([] : List ByteArray), false)) else (impl_Part_linesOf.l0 k x1 x6 x8 (([] : List (List ByteArray))) x329002 (x329002.length : Int) 0)
def impl_Part_linesOf.l0 : Nat → Int → List ByteArray → ByteArray → List (List ByteArray) → List (S28) → Int → Int → Option (List ByteArray × Bool)
 | 0, _, _, _, _, _, _, _ => none
 | k + 1, x1, x6, x8, x10, x69, x70, x71 => if x71 < x70 then (if 0 ≤ x71 then (if x71 < (x69.length : Int) then ((impl_Part_linesOf.f k ((rd_T28 x69 x71).f0) ((rd_T28 x69 x71).f1) ((rd_T28 x69 x71).f2) (wrap64 (x1 - 1))).bind fun bt347 => (if bt347.2 = true then (if x10.length < 5864062014805 then (impl_Part_linesOf.l0 k x1 x6 x8 (x10 ++ [bt347.1]) x69 x70 (wrap64 (x71 + 1))) else (none)) else (some (([] : List ByteArray), false)))) else (none)) else (none)) else ((impl_JoinParts.f k x10 x8).bind fun bt354 => (if x6.length + bt354.1.length < 8796093022208 then (some ((x6 ++ bt354.1), bt354.2)) else (none)))
def impl_Part_linesOf.f : Nat → List (S69) → List ByteArray → List (S28) → Int → Option (List ByteArray × Bool)
 | 0, _, _, _, _ => none
 | k + 1, l0_0, l0_1, l0_2, a1 => (impl_FoldFields.f k l0_0).bind fun bt329 => (if bt329.2 = true then (impl_Part_linesOf.j0 k a1 bt329.1 (a1 == 0) l0_0 l0_1 l0_2) else (impl_Part_linesOf.j0 k a1 bt329.1 true l0_0 l0_1 l0_2))
end
def impl_Part_linesOf.T7 : Bool × List (List Nat × List Nat) := (true, [([], []), ([], []), ([1], [1]), ([0, 2], [0, 2]), ([], []), ([4], [4]), ([5], [5]), ([6], [6]), ([7, 3], [7]), ([8], [8]), ([9, 8], [8, 9]), ([10, 8, 8], [8, 10]), ([8, 11], [8, 11]), ([3, 11, 0, 1, 2, 3], [3]), ([12, 13, 0, 1, 2, 3, 4, 5, 6, 7, 8, 9, 10, 11, 12, 13], [12])])
def impl_Part_linesOf.B7 : List Nat := [0, 0, 2, 7, 0, 16, 48, 112, 255, 511, 1023, 2047, 4095, 4095, 16383]
theorem impl_Part_linesOf.tab7 : rtab .any (opsOf Tryz.f66 7) = impl_Part_linesOf.T7 := by kernel_rfl
theorem impl_Part_linesOf.bits7 : waitsOk impl_Part_linesOf.T7.2 impl_Part_linesOf.B7 = true := by kernel_rfl
theorem impl_Part_linesOf.calls (k : Nat) : ∀ (A0_0 : Option Addr) (c0_0 : Nat) (l0_0 : List (S69)) (A0_1 : Option Addr) (c0_1 : Nat) (l0_1 : List ByteArray) (A0_2 : Option Addr) (c0_2 : Nat) (l0_2 : List (S28)) (a1 : Int) (r1 : List ByteArray) (r2 : Bool) (w : World) (hr0_0 : Kd.C k69 w A0_0 l0_0.length l0_0) (hc0_0 : l0_0.length ≤ c0_0) (hr0_1 : Kd.C Kd.string w A0_1 l0_1.length l0_1) (hc0_1 : l0_1.length ≤ c0_1) (hr0_2 : Kd.C k28 w A0_2 l0_2.length l0_2) (hc0_2 : l0_2.length ≤ c0_2) (hg_ : MaxOk w) (h : impl_Part_linesOf.f k l0_0 l0_1 l0_2 a1 = some (r1, r2)),
  Calls Tryz.prog 66 #[.agg #[.slice A0_0 l0_0.length c0_0, .slice A0_1 l0_1.length c0_1, .slice A0_2 l0_2.length c0_2], .int .i64 a1] w fun e w' => ∃ v0_ : Value, e = .returned (.tuple #[v0_, .bool r2]) ∧ Kd.R Kd.string 9 w' w.heap.size (fun _ => True) v0_ r1 ∧ Below w.heap.size w w' := by
 induction k using Nat.strongRecOn with
 | _ k ih =>
 intro A0_0 c0_0 l0_0 A0_1 c0_1 l0_1 A0_2 c0_2 l0_2 a1 r1 r2 w hr0_0 hc0_0 hr0_1 hc0_1 hr0_2 hc0_2 hg_ h
 cases k with
 | zero => exact absurd h (by simp [impl_Part_linesOf.f])
 | succ k =>
 simp only [impl_Part_linesOf.f] at h
 have hu28 := Tryz.underlying28
 have HR0_0 := ak hr0_0
 have HC0_0 := ak hc0_0
 clear hr0_0 hc0_0
 have HR0_1 := ak hr0_1
 have HC0_1 := ak hc0_1
 clear hr0_1 hc0_1
 have HR0_2 := ak hr0_2
 have HC0_2 := ak hc0_2
 clear hr0_2 hc0_2
 have HG := ak hg_
 clear hg_
 have HB := ak (Below.refl w.heap.size w)
 have H : ((impl_FoldFields.f k l0_0).bind fun bt329 => (if bt329.2 = true then (impl_Part_linesOf.j0 k a1 bt329.1 (a1 == 0) l0_0 l0_1 l0_2) else (impl_Part_linesOf.j0 k a1 bt329.1 true l0_0 l0_1 l0_2))) = some (r1, r2) := h
 clear h
 replace H := bd H
 obtain ⟨⟨t329, t330⟩, A3, H⟩ := H
 (try dsimp only at H)
 have HC4 := ak H
 clear H
 go_enter Tryz.func66, Tryz.ntmps66
 go_upto_region 2 with (first | (refine gG 2 ?_; refine bX HB 2 #[.slice A0_0 l0_0.length c0_0, .slice A0_1 l0_1.length c0_1, .slice A0_2 l0_2.length c0_2] 28 ?_; intro gb328 w5 BK328 GW328 hb; replace HB := bs HB hb; clear hb; have z6 := cz3 BK328.out) | (refine gV Tryz.func39 (impl_FoldFields.calls (cu (Kd.C_below HR0_0.out HB.out)) HC0_0.out A3.out) ?_; rintro v331 w7 ⟨ho0, hb⟩; have HO332 := ak (Kd.R_lower ho0 (below_size bb)); replace BK328 := kb BK328 hb; replace HB := bz HB hb; clear hb; (try clear ho0)))
 (try simp only [Act.put, l_a, l_b, l_c])
 go_cut [27] (fun v27 wc => ∃ (kq : Nat) (x27_3 : Bool), v27 = .bool x27_3 ∧ Aside0 (impl_Part_linesOf.j0 kq a1 t329 x27_3 l0_0 l0_1 l0_2 = some (r1, r2)) ∧ Aside0 (kq ≤ k) ∧ Aside0 (Kd.R Kd.string 9 wc w.heap.size (fun _ => True) v331 t329) ∧ Aside0 (wc.heap[gb328]? = some (.cells #[(.slice A0_0 l0_0.length c0_0), (.slice A0_1 l0_1.length c0_1), (.slice A0_2 l0_2.length c0_2)] 28 (0, 0))) ∧ Aside0 (Below w.heap.size w wc))
 case first =>
  have H := HC4.out
  clear HC4
  replace H := sb H
  rcases H with ⟨rfl, H⟩ | ⟨rfl, H⟩
  ·
   have H' := ak H; clear H
   go_wp2
   go_meet
   case rel => exact ⟨_, _, rs, H', ⟨le_⟩, ⟨ur HO332.out⟩, ⟨ub BK328.out⟩, ⟨bb⟩⟩
  ·
   have H' := ak H; clear H
   go_wp2
   go_meet
   case rel => exact ⟨_, _, rs, H', ⟨le_⟩, ⟨ur HO332.out⟩, ⟨ub BK328.out⟩, ⟨bb⟩⟩
 case rest =>
  clear HC4
  obtain ⟨kq, x27_3, rfl, HA, HJ3, HO_6, BK328, HB⟩ := hcut
  cases kq with
  | zero => exact zz HA.out
  | succ kj3 =>
   obtain ⟨H⟩ := HA
   simp only [impl_Part_linesOf.j0] at H
   replace H := sb H
   rcases H with ⟨rfl, H⟩ | ⟨rfl, H⟩
   ·
    obtain ⟨rfl, rfl⟩ := s2 H
    go_wp2
    go_ret2
    exact ⟨_, er, nx, bb⟩
   ·
    replace H := nl H; obtain ⟨LMc10, H⟩ := H
    replace H := ny H
    obtain ⟨y333, Ny333, H⟩ := H
    replace H := bd H
    obtain ⟨⟨t336, t337⟩, A11, H⟩ := H
    (try dsimp only at H)
    replace H := sb H
    rcases H with ⟨rfl, H⟩ | ⟨rfl, H⟩
    ·
     have HC13 := ak H
     clear H
     go_upto_region 8 with (first | ((with_reducible refine gate_builtin (b := .append) (xs := #[.tmp 28, .tmp 29]) rfl ?_); (try (refine gate_guard (by rfl) ?_; dsimp only)); at_builtin; refine Kd.R_append Kd.string (w0 := w) w.heap.size rfl (.tmp 28) (.tmp 29) 23 9 (.string ⟨#[]⟩) 16 rfl Tryz.underlying23 info9 rfl (by decide) (by omega) v331 t329 (⟨#[]⟩ : ByteArray) [.string (⟨#[]⟩ : ByteArray)] (fun _ => True) (fun _ => False) rfl rfl ?aP (fun _ hk => hk.elim) ?aF ?aO ?aB ?aS ?aL ?_; (case aP => exact rfl); (case aB => exact bb); (case aF => exact (fun _ _ => trivial)); (case aO => exact (ur HO_6.out)); (case aS => exact (below_size bb)); (case aL => have := LMc10.out; omega); intro v334 w14 ho hb hg hat; rw [← Ny333.out] at ho; have HO335 := ak (ho); replace BK328 := ak (blk_grown (g := gb328) (o := .cells #[.slice A0_0 l0_0.length c0_0, .slice A0_1 l0_1.length c0_1, .slice A0_2 l0_2.length c0_2] 28 (0, 0)) (ub BK328.out) hg (Kd.R_ne HO_6.out BK328.out (by decide))); replace HB := ak (hb); clear ho hb hg hat HO_6; have z15 := cz3 BK328.out) | (refine gB Tryz.func101 (impl_Part_boundary.calls (cu (Kd.C_below HR0_0.out HB.out)) HC0_0.out (cu (Kd.C_below HR0_1.out HB.out)) HC0_1.out (cu (Kd.C_below HR0_2.out HB.out)) HC0_2.out ?side7 A11.out) ?_; (case side7 => first | exact HG.out | exact MaxOk.below HG.out bb | (repeat (first | exact HG.out | apply MaxOk.drewN | apply MaxOk.drew))); intro w16 hb; replace HO335 := rb HO335 hb; replace BK328 := kb BK328 hb; replace HB := bz HB hb; clear hb))
     (try simp only [Act.put, l_a, l_b, l_c])
     go_cut [66] (fun v66 wc => ∃ (kq : Nat) (x66_12 : Bool), v66 = .bool x66_12 ∧ Aside0 (impl_Part_linesOf.j1 kq a1 y333 t336 x66_12 l0_0 l0_1 l0_2 = some (r1, r2)) ∧ Aside0 (kq ≤ kj3) ∧ Aside0 (Kd.R Kd.string 9 wc w.heap.size (fun _ => True) v334 y333) ∧ Aside0 (wc.heap[gb328]? = some (.cells #[(.slice A0_0 l0_0.length c0_0), (.slice A0_1 l0_1.length c0_1), (.slice A0_2 l0_2.length c0_2)] 28 (0, 0))) ∧ Aside0 (Below w.heap.size w wc))
     case first =>
      have H := HC13.out
      clear HC13
      replace H := sp H
      rcases H with ⟨c17, H⟩ | ⟨c17, H⟩
      ·
       have c17b0 : decide (0 < (l0_1.length : Int)) = true := decide_eq_true c17
       have c17b1 : decide (0 < l0_1.length) = true := decide_eq_true (by omega)
       clear c17
       (first | rw [c17b0] | (simp only [i64_w, i32_w]; rw [c17b0]) | skip)
       have H' := ak H; clear H
       have z18 := cz3 BK328.out
       go_wp2
       go_meet
       case rel => exact ⟨_, _, rs, H', ⟨kl⟩, ⟨ur HO335.out⟩, ⟨ub BK328.out⟩, ⟨bb⟩⟩
      ·
       have c17b0 : decide (0 < (l0_1.length : Int)) = false := decide_eq_false c17
       have c17b1 : decide (0 < l0_1.length) = false := decide_eq_false (by omega)
       clear c17
       (first | rw [c17b0] | (simp only [i64_w, i32_w]; rw [c17b0]) | skip)
       replace H := sp H
       rcases H with ⟨c19, H⟩ | ⟨c19, H⟩
       ·
        have c19b0 := decide_eq_true c19
        have c19b1 : decide (l0_2.length < 1) = true := decide_eq_true (by omega)
        clear c19
        have H' := ak H; clear H
        have z20 := cz3 BK328.out
        go_wp2
        go_meet
        case rel => exact ⟨_, _, rs, H', ⟨kl⟩, ⟨ur HO335.out⟩, ⟨ub BK328.out⟩, ⟨bb⟩⟩
       ·
        have c19b0 := decide_eq_false c19
        have c19b1 : decide (l0_2.length < 1) = false := decide_eq_false (by omega)
        clear c19
        have H' := ak H; clear H
        have z21 := cz3 BK328.out
        go_wp2
        go_meet
        case rel => exact ⟨_, _, rs, H', ⟨kl⟩, ⟨ur HO335.out⟩, ⟨ub BK328.out⟩, ⟨bb⟩⟩
     case rest =>
      clear HC13
      obtain ⟨kq, x66_12, rfl, HA, HJ12, HO_6, BK328, HB⟩ := hcut
      cases kq with
      | zero => exact zz HA.out
      | succ kj12 =>
       obtain ⟨H⟩ := HA
       simp only [impl_Part_linesOf.j1] at H
       replace H := sb H
       rcases H with ⟨rfl, H⟩ | ⟨rfl, H⟩
       ·
        obtain ⟨rfl, rfl⟩ := s2 H
        go_wp2
        go_ret2
        exact ⟨_, er, nx, bb⟩
       ·
        obtain ⟨y342, Ny342⟩ := nm ([] : List (List ByteArray))
        rw [← Ny342.out] at H
        have H' := ak H; clear H
        go_wp2_with ((with_reducible refine gate_dst (N := 67) rfl ?_); (try (refine gate_guard (by rfl) ?_; dsimp only)); refine Kd.S_lit (Kd.slice 9 Kd.string) _ 23 ?hg (N := 67) ?hd (xs := ([] : List (List ByteArray))) (inner := []) (ok := fun _ => True) (okp := fun _ => True) ?hr ?hp (fun _ hk => hk) trivial (Below.refl _ _) (Nat.le_refl _) (by simp) ?_; (case hd => rfl); (case hg => rfl); (case hr => first | (go_simp; done) | (go_simp; rfl)); (case hp => exact (Reps.none _ _)); intro v343 w23 ho24 hb hg_ hnew_; clear hg_ hnew_; (first | rw [← Ny342.out] at ho24 | (simp only [Int.reduceToNat] at ho24; rw [← Ny342.out] at ho24)); have HO344 := ak (Kd.S_lower (Kd.S_new' ho24 (Kd.R_lt (ur HO_6.out))) (below_size bb)); replace HO_6 := rb HO_6 hb; replace BK328 := kb BK328 hb; replace HB := bz HB hb; clear hb ho24; have z25 := cz3 BK328.out)
        go_loopg [10, 71] kj12 (fun kq v10 v71 w' => ∃ (x10_3 : List (List ByteArray)) (x71_3 : Int), v71 = .int .i64 x71_3 ∧ Aside0 (impl_Part_linesOf.l0 kq a1 y333 t336 x10_3 l0_2 (l0_2.length : Int) x71_3 = some (r1, r2)) ∧ Aside0 (kq ≤ kj12) ∧ Aside0 (Kd.R Kd.string 9 w' w.heap.size (fun _ => True) v334 y333) ∧ Aside0 (Kd.S (Kd.slice 9 Kd.string) 23 w' w.heap.size (fun k_ => some k_ ≠ (v334 : Value).ownBlock) v10 x10_3) ∧ Aside0 (w'.heap[gb328]? = some (.cells #[(.slice A0_0 l0_0.length c0_0), (.slice A0_1 l0_1.length c0_1), (.slice A0_2 l0_2.length c0_2)] 28 (0, 0))) ∧ Aside0 (Below w.heap.size w w'))
        case atStart => exact ⟨_, _, rs, H', ⟨Nat.le_refl _⟩, ⟨ur HO_6.out⟩, ⟨by (with_reducible repeat (first | apply Kd.S_alloc | apply Kd.S_drewN | apply Kd.S_drew)); exact Kd.S_mono HO344.out (fun _ hk => hk.2)⟩, ⟨ub BK328.out⟩, ⟨bb⟩⟩
        case round =>
         clear H'
         obtain ⟨x10_3, x71_3, rfl, HA, HK3, HO_6, HO_10, BK328, HB⟩ := hrel
         cases gk with
         | zero => exact zz HA.out
         | succ k3 =>
          obtain ⟨H⟩ := HA
          simp only [impl_Part_linesOf.l0] at H
          replace H := sd H
          rcases H with ⟨c26b0, H⟩ | ⟨c26b0, H⟩
          ·
           replace H := nde H; obtain ⟨c27b0, H⟩ := H; replace H := nde H; obtain ⟨c28b0, H⟩ := H; replace H := bd H
           obtain ⟨⟨t347, t350⟩, A29, H⟩ := H
           (try dsimp only at H)
           replace H := sb H
           rcases H with ⟨rfl, H⟩ | ⟨rfl, H⟩
           ·
            replace H := nl H; obtain ⟨LMc31, H⟩ := H
            obtain ⟨y351, Ny351⟩ := nm (x10_3 ++ [t347])
            rw [← Ny351.out] at H
            have H' := ak H; clear H
            have p345 := zi x71_3
            have q345 := zj x71_3 l0_2.length
            obtain ⟨ad345, A345_0, c345_0, A345_1, c345_1, A345_2, c345_2, e345, hx345_0, hx345_1, hx345_2, hl345_0, hi345_0, hl345_1, hi345_1, hl345_2, hi345_2⟩ := at_T28 HR0_2.out x71_3 p345 q345
            cases e345
            replace hx345_0 := cl HB.out hx345_0
            replace hx345_1 := cl HB.out hx345_1
            replace hx345_2 := cl HB.out hx345_2
            have HR345_0 := ak hi345_0
            have HC345_0 := ak hl345_0
            clear hi345_0 hl345_0
            have HR345_1 := ak hi345_1
            have HC345_1 := ak hl345_1
            clear hi345_1 hl345_1
            have HR345_2 := ak hi345_2
            have HC345_2 := ak hl345_2
            clear hi345_2 hl345_2
            replace p345 := eq_true p345
            replace q345 := eq_true q345
            go_wp2_with (first | (refine gG 12 ?_; refine bY HB 12 #[.slice none 0 0, .slice none 0 0, .slice none 0 0] 28 ?_; intro gb346 w32 BK346 GW346 hg hb; have NB328_346 := nl_ BK328 hg; have NB346_328 := ng_ BK328 hg; replace HO_6 := rb HO_6 hb; replace HO_10 := ak (Kd.S_below (by (with_reducible repeat (first | apply Kd.S_alloc | apply Kd.S_drewN | apply Kd.S_drew)); exact HO_10.out) hb); replace BK328 := kb BK328 hb; replace HB := bz HB hb; clear hb hg; have hnb33 := NB346_328.out; have hnc33 := NB328_346.out; have z34 := cz3 BK346.out) | (refine gV Tryz.func66 (ih k3 (by have := HJ3.out; have := HJ12.out; have := HK3.out; omega) _ _ ((rd_T28 l0_2 x71_3).f0) _ _ ((rd_T28 l0_2 x71_3).f1) _ _ ((rd_T28 l0_2 x71_3).f2) (wrap64 (a1 - 1)) t347 true _ (Kd.C_below HR345_0.out bb) HC345_0.out (Kd.C_below HR345_1.out bb) HC345_1.out (Kd.C_below HR345_2.out bb) HC345_2.out ?side7 A29.out) ?_; (case side7 => first | exact HG.out | exact MaxOk.below HG.out bb | (repeat (first | exact HG.out | apply MaxOk.drewN | apply MaxOk.drew))); rintro v348 w35 ⟨ho0, hb⟩; have HO349 := ak (Kd.R_lower (Kd.R_new' ho0 (Kd.R_lt (rh HO_6))) (below_size bb)); replace HO_6 := ak (Kd.R_elder' (rh HO_6) (Kd.R_base ho0) hb); replace HO_10 := ak (Kd.S_elder' (by (with_reducible repeat (first | apply Kd.S_alloc | apply Kd.S_drewN | apply Kd.S_drew)); exact (Kd.S_mono (Kd.S_far (p := ⟨gb346, 2, none⟩) (Kd.S_far (p := ⟨gb346, 1, none⟩) (Kd.S_far (p := ⟨gb346, 0, none⟩) (Kd.S_types HO_10.out BK346.out (by decide)) (fun _ hk => hk.2) (.slice A345_0 ((rd_T28 l0_2 x71_3).f0).length c345_0)) (fun _ hk => hk.2) (.slice A345_1 ((rd_T28 l0_2 x71_3).f1).length c345_1)) (fun _ hk => hk.2) (.slice A345_2 ((rd_T28 l0_2 x71_3).f2).length c345_2)) (fun _ h_ => h_.1))) (Kd.R_base ho0) hb); replace BK328 := kp BK328 #[.slice A0_0 l0_0.length c0_0, .slice A0_1 l0_1.length c0_1, .slice (some ad345) l0_2.length c0_2] hb; replace BK346 := kp BK346 #[.slice A345_0 ((rd_T28 l0_2 x71_3).f0).length c345_0, .slice A345_1 ((rd_T28 l0_2 x71_3).f1).length c345_1, .slice A345_2 ((rd_T28 l0_2 x71_3).f2).length c345_2] hb; replace HB := bz HB hb; clear hb; (try clear ho0); obtain ⟨Ao37, co37, eo37⟩ := Kd.R_slice HO349.out; subst eo37) | ((with_reducible refine gate_builtin (b := .append) (xs := #[.tmp 84, .tmp 86]) rfl ?_); (try (refine gate_guard (by rfl) ?_; dsimp only)); at_builtin; refine Kd.S_append (Kd.slice 9 Kd.string) (w0 := w) w.heap.size rfl (.tmp 84) (.tmp 86) 65 23 (.slice none 0 0) 24 rfl Tryz.underlying65 info23 rfl (by decide) (by omega) u10 x10_3 t347 [.slice Ao37 t347.length co37] (fun k_ => some k_ ≠ (v334 : Value).ownBlock) (fun k_ => some k_ = (.slice Ao37 t347.length co37 : Value).ownBlock) rfl rfl ?aP (fun k_ hk_ => ((Kd.R_mono (ok' := fun k_ => ((fun k_ => some k_ ≠ (v334 : Value).ownBlock)) k_ ∧ some k_ ≠ (u10 : Value).ownBlock) (Kd.R_apart' (HO349.out) (Kd.S_typed HO_10.out) (by decide)) (fun k_ hk => ⟨hk.1.2, hk.2⟩))).1 k_ hk_.symm) ?aF ?aO ?aB ?aS ?aL ?_; (case aP => exact Kd.M_row (Kd.R_mono (Kd.R_tight rfl (Kd.R_mono (ok' := fun k_ => ((fun k_ => some k_ ≠ (v334 : Value).ownBlock)) k_ ∧ some k_ ≠ (u10 : Value).ownBlock) (Kd.R_apart' (HO349.out) (Kd.S_typed HO_10.out) (by decide)) (fun k_ hk => ⟨hk.1.2, hk.2⟩))) (fun _ h_ => h_))); (case aB => exact bb); (case aF => exact (fun k_ hk => Kd.fresh' (Kd.R_lt (ur HO_6.out)) k_ hk)); (case aO => exact (by (with_reducible repeat (first | apply Kd.S_alloc | apply Kd.S_drewN | apply Kd.S_drew)); exact Kd.S_mono HO_10.out (fun k_ hk => ⟨hk.1, fun e_ => hk.2 e_⟩))); (case aS => exact (below_size bb)); (case aL => have := LMc31.out; omega); intro v352 w36 ho hb hg hat; rw [← Ny351.out] at ho; have HO353 := ak (ho); replace HO_6 := ak (Kd.R_over' (ur HO_6.out) (Kd.S_typed (by (with_reducible repeat (first | apply Kd.S_alloc | apply Kd.S_drewN | apply Kd.S_drew)); exact HO_10.out)) (by decide) hg); replace BK328 := ak (blk_grown (g := gb328) (o := .cells #[.slice A0_0 l0_0.length c0_0, .slice A0_1 l0_1.length c0_1, .slice (some ad345) l0_2.length c0_2] 28 (0, 0)) (ub BK328.out) hg (Kd.S_ne HO_10.out BK328.out (by decide))); replace BK346 := ak (blk_grown (g := gb346) (o := .cells #[.slice A345_0 ((rd_T28 l0_2 x71_3).f0).length c345_0, .slice A345_1 ((rd_T28 l0_2 x71_3).f1).length c345_1, .slice A345_2 ((rd_T28 l0_2 x71_3).f2).length c345_2] 28 (0, 0)) (ub BK346.out) hg (Kd.S_ne HO_10.out BK346.out (by decide))); replace HB := ak (hb); clear ho hb hg hat HO_10 HO349))
            go_roundg k3
            case measure => have := HJ3.out; have := HJ12.out; have := HK3.out; omega
            case rel => exact ⟨_, _, rs, H', ⟨by have := HJ3.out; have := HJ12.out; have := HK3.out; omega⟩, ⟨ur (Kd.R_mono HO_6.out (fun _ hk => trivial))⟩, ⟨by (with_reducible repeat (first | apply Kd.S_alloc | apply Kd.S_drewN | apply Kd.S_drew)); exact HO353.out⟩, ⟨ub BK328.out⟩, ⟨bb⟩⟩
           ·
            obtain ⟨rfl, rfl⟩ := s2 H
            have p345 := zi x71_3
            have q345 := zj x71_3 l0_2.length
            obtain ⟨ad345, A345_0, c345_0, A345_1, c345_1, A345_2, c345_2, e345, hx345_0, hx345_1, hx345_2, hl345_0, hi345_0, hl345_1, hi345_1, hl345_2, hi345_2⟩ := at_T28 HR0_2.out x71_3 p345 q345
            cases e345
            replace hx345_0 := cl HB.out hx345_0
            replace hx345_1 := cl HB.out hx345_1
            replace hx345_2 := cl HB.out hx345_2
            have HR345_0 := ak hi345_0
            have HC345_0 := ak hl345_0
            clear hi345_0 hl345_0
            have HR345_1 := ak hi345_1
            have HC345_1 := ak hl345_1
            clear hi345_1 hl345_1
            have HR345_2 := ak hi345_2
            have HC345_2 := ak hl345_2
            clear hi345_2 hl345_2
            replace p345 := eq_true p345
            replace q345 := eq_true q345
            go_wp2_with (first | (refine gG 12 ?_; refine bY HB 12 #[.slice none 0 0, .slice none 0 0, .slice none 0 0] 28 ?_; intro gb346 w38 BK346 GW346 hg hb; have NB328_346 := nl_ BK328 hg; have NB346_328 := ng_ BK328 hg; replace HO_6 := rb HO_6 hb; replace HO_10 := ak (Kd.S_below (by (with_reducible repeat (first | apply Kd.S_alloc | apply Kd.S_drewN | apply Kd.S_drew)); exact HO_10.out) hb); replace BK328 := kb BK328 hb; replace HB := bz HB hb; clear hb hg; have hnb39 := NB346_328.out; have hnc39 := NB328_346.out; have z40 := cz3 BK346.out) | (refine gV Tryz.func66 (ih k3 (by have := HJ3.out; have := HJ12.out; have := HK3.out; omega) _ _ ((rd_T28 l0_2 x71_3).f0) _ _ ((rd_T28 l0_2 x71_3).f1) _ _ ((rd_T28 l0_2 x71_3).f2) (wrap64 (a1 - 1)) t347 false _ (Kd.C_below HR345_0.out bb) HC345_0.out (Kd.C_below HR345_1.out bb) HC345_1.out (Kd.C_below HR345_2.out bb) HC345_2.out ?side7 A29.out) ?_; (case side7 => first | exact HG.out | exact MaxOk.below HG.out bb | (repeat (first | exact HG.out | apply MaxOk.drewN | apply MaxOk.drew))); rintro v348 w41 ⟨ho0, hb⟩; have HO349 := ak (Kd.R_lower (Kd.R_new' ho0 (Kd.R_lt (rh HO_6))) (below_size bb)); replace HO_6 := ak (Kd.R_elder' (rh HO_6) (Kd.R_base ho0) hb); replace HO_10 := ak (Kd.S_elder' (by (with_reducible repeat (first | apply Kd.S_alloc | apply Kd.S_drewN | apply Kd.S_drew)); exact (Kd.S_mono (Kd.S_far (p := ⟨gb346, 2, none⟩) (Kd.S_far (p := ⟨gb346, 1, none⟩) (Kd.S_far (p := ⟨gb346, 0, none⟩) (Kd.S_types HO_10.out BK346.out (by decide)) (fun _ hk => hk.2) (.slice A345_0 ((rd_T28 l0_2 x71_3).f0).length c345_0)) (fun _ hk => hk.2) (.slice A345_1 ((rd_T28 l0_2 x71_3).f1).length c345_1)) (fun _ hk => hk.2) (.slice A345_2 ((rd_T28 l0_2 x71_3).f2).length c345_2)) (fun _ h_ => h_.1))) (Kd.R_base ho0) hb); replace BK328 := kp BK328 #[.slice A0_0 l0_0.length c0_0, .slice A0_1 l0_1.length c0_1, .slice (some ad345) l0_2.length c0_2] hb; replace BK346 := kp BK346 #[.slice A345_0 ((rd_T28 l0_2 x71_3).f0).length c345_0, .slice A345_1 ((rd_T28 l0_2 x71_3).f1).length c345_1, .slice A345_2 ((rd_T28 l0_2 x71_3).f2).length c345_2] hb; replace HB := bz HB hb; clear hb; (try clear ho0)))
            go_ret2
            exact ⟨_, er, nx, bb⟩
          ·
           replace H := bd H
           obtain ⟨⟨t354, t355⟩, A42, H⟩ := H
           (try dsimp only at H)
           replace H := nl H; obtain ⟨LMc43, H⟩ := H
           obtain ⟨y358, Ny358⟩ := nm (y333 ++ t354)
           rw [← Ny358.out] at H
           obtain ⟨rfl, rfl⟩ := s2 H
           obtain ⟨Ao44, co44, eo44⟩ := Kd.S_slice HO_10.out
           subst eo44
           go_wp2_with (first | (refine gV Tryz.func106 (impl_JoinParts.calls (cu ((Kd.S_reads' HO_10.out).2.2)) ((Kd.S_reads' HO_10.out).2.1) A42.out) ?_; rintro v356 w45 ⟨ho0, hb⟩; have HO357 := ak (Kd.R_lower (Kd.R_new' ho0 (Kd.R_lt (ur HO_6.out))) (below_size bb)); replace HO_6 := ak (Kd.R_elder' (ur HO_6.out) (Kd.R_base ho0) hb); replace HO_10 := ak (Kd.S_elder' (by (with_reducible repeat (first | apply Kd.S_alloc | apply Kd.S_drewN | apply Kd.S_drew)); exact HO_10.out) (Kd.R_base ho0) hb); replace BK328 := kb BK328 hb; replace HB := bz HB hb; clear hb; (try clear ho0); obtain ⟨Ao47, co47, eo47⟩ := Kd.R_slice HO357.out; subst eo47) | ((with_reducible refine gate_builtin (b := .append) (xs := #[.tmp 95, .tmp 96]) rfl ?_); (try (refine gate_guard (by rfl) ?_; dsimp only)); at_builtin; refine Kd.R_append_rows Kd.string (w0 := w) w.heap.size rfl (.tmp 95) (.tmp 96) 23 9 (.string ⟨#[]⟩) 16 rfl Tryz.underlying23 info9 rfl (by decide) (by omega) v334 y333 t354 _ _ _ (fun k_ => some k_ ≠ (.slice Ao47 t354.length co47 : Value).ownBlock) (fun _ => False) rfl rfl ?aO ?aR (fun _ _ h => h) (fun _ h => h.elim) ?aF ?aB ?aS ?aL ?_; (case aR => repeat (first | exact (Kd.R_reads' HO357.out).2.2 | (with_reducible refine Kd.C_alloc ?_ _) | (with_reducible refine Kd.C_drewN ?_ _) | (with_reducible refine Kd.C_drew ?_))); (case aB => exact bb); (case aF => exact (fun k_ hk => Kd.fresh' (Kd.R_lt (ur HO357.out)) k_ hk)); (case aO => exact (ur (Kd.R_mono HO_6.out (fun _ hk => hk.2)))); (case aS => exact (below_size bb)); (case aL => have := LMc43.out; omega); intro v359 w46 ho hb hg hat; rw [← Ny358.out] at ho; have HO360 := ak (ho); replace HO_10 := ak (Kd.S_after (ok := (fun k_ => some k_ ≠ (.slice Ao47 t354.length co47 : Value).ownBlock)) (by (with_reducible repeat (first | apply Kd.S_alloc | apply Kd.S_drewN | apply Kd.S_drew)); exact Kd.S_mono HO_10.out (fun _ hk => ⟨hk.2, hk.1⟩)) hg hat); replace BK328 := ak (blk_grown (g := gb328) (o := .cells #[.slice A0_0 l0_0.length c0_0, .slice A0_1 l0_1.length c0_1, .slice A0_2 l0_2.length c0_2] 28 (0, 0)) (ub BK328.out) hg (Kd.R_ne HO_6.out BK328.out (by decide))); replace HO357 := ak (Kd.R_after (ok := (fun _ => True)) (ur HO357.out) hg hat); replace HB := ak (hb); clear ho hb hg hat HO_6))
           go_ret2
           exact ⟨_, er, ur (Kd.R_mono HO360.out (fun _ hk => trivial)), bb⟩
    ·
     replace H := nl H; obtain ⟨LMc48, H⟩ := H
     replace H := ny H
     obtain ⟨y338, Ny338, H⟩ := H
     replace H := sp H
     rcases H with ⟨c49, H⟩ | ⟨c49, H⟩
     ·
      have c49b0 := beq_iff_eq.mpr c49
      have c49b1 := bne_eq_false_iff_eq.mpr c49
      clear c49
      replace H := bd H; obtain ⟨t341, A50, H⟩ := H
      obtain ⟨rfl, rfl⟩ := s2 H
      try go_wp2_with (first | ((with_reducible refine gate_builtin (b := .append) (xs := #[.tmp 28, .tmp 29]) rfl ?_); (try (refine gate_guard (by rfl) ?_; dsimp only)); at_builtin; refine Kd.R_append Kd.string (w0 := w) w.heap.size rfl (.tmp 28) (.tmp 29) 23 9 (.string ⟨#[]⟩) 16 rfl Tryz.underlying23 info9 rfl (by decide) (by omega) v331 t329 (⟨#[]⟩ : ByteArray) [.string (⟨#[]⟩ : ByteArray)] (fun _ => True) (fun _ => False) rfl rfl ?aP (fun _ hk => hk.elim) ?aF ?aO ?aB ?aS ?aL ?_; (case aP => exact rfl); (case aB => exact bb); (case aF => exact (fun _ _ => trivial)); (case aO => exact (ur HO_6.out)); (case aS => exact (below_size bb)); (case aL => have := LMc10.out; omega); intro v334 w51 ho hb hg hat; rw [← Ny333.out] at ho; have HO335 := ak (ho); replace BK328 := ak (blk_grown (g := gb328) (o := .cells #[.slice A0_0 l0_0.length c0_0, .slice A0_1 l0_1.length c0_1, .slice A0_2 l0_2.length c0_2] 28 (0, 0)) (ub BK328.out) hg (Kd.R_ne HO_6.out BK328.out (by decide))); replace HB := ak (hb); clear ho hb hg hat HO_6; have z52 := cz3 BK328.out) | (refine gB Tryz.func101 (impl_Part_boundary.calls (cu (Kd.C_below HR0_0.out HB.out)) HC0_0.out (cu (Kd.C_below HR0_1.out HB.out)) HC0_1.out (cu (Kd.C_below HR0_2.out HB.out)) HC0_2.out ?side7 A11.out) ?_; (case side7 => first | exact HG.out | exact MaxOk.below HG.out bb | (repeat (first | exact HG.out | apply MaxOk.drewN | apply MaxOk.drew))); intro w53 hb; replace HO335 := rb HO335 hb; replace BK328 := kb BK328 hb; replace HB := bz HB hb; clear hb))
      replace HO335 := ak (Kd.R_drew HO335.out)
      replace BK328 := ak (blk_drew BK328.out)
      replace HB := ak (below_drew1 HB.out)
      refine ro [3, 11] [0, 1, 4, 2, 5, 6, 7, 3, 8, 9, 10, 11, 12, 13, 14] (fun w' => w'.cell? ⟨gb328, 0, none⟩ = some (.slice A0_0 l0_0.length c0_0) ∧ w'.cell? ⟨gb328, 1, none⟩ = some (.slice A0_1 l0_1.length c0_1) ∧ w'.cell? ⟨gb328, 2, none⟩ = some (.slice A0_2 l0_2.length c0_2)) ⟨(blk_cell BK328.out 0).trans rfl, (blk_cell BK328.out 1).trans rfl, (blk_cell BK328.out 2).trans rfl⟩ ?_
      generalize w53.drew = w54 at HO335 BK328 HB ⊢
      repeat refine lo_ ?_
      refine ld (N := some 41) (gk.trans rfl) rfl rfl (fun K hK => ?_)
      refine Kd.R_append_rows_step Kd.string (w0 := w) w.heap.size (by rfl) (.tmp 38) (.tmp 40) 23 9 (.string ⟨#[]⟩) 16 rfl Tryz.underlying23 info9 rfl (by decide) (by omega) v334 y333 l0_1 _ _ _ (fun _ => True) (fun _ => False) rfl rfl ?aO ?aR (fun _ _ h => h) (fun _ h => h.elim) ?aF ?aB ?aS ?aL ?_
      (case aR => repeat (first | exact (Kd.C_below HR0_1.out HB.out) | (with_reducible refine Kd.C_alloc ?_ _) | (with_reducible refine Kd.C_drewN ?_ _) | (with_reducible refine Kd.C_drew ?_)))
      (case aB => exact bb)
      (case aF => exact (fun _ _ => trivial))
      (case aO => exact (ur HO335.out))
      (case aS => exact (below_size bb))
      (case aL => have := LMc48.out; omega)
      intro v339 w55 ho hb hg hat
      rw [← Ny338.out] at ho
      have n0_ := ak (blk_grown (g := gb328) (o := .cells #[.slice A0_0 l0_0.length c0_0, .slice A0_1 l0_1.length c0_1, .slice A0_2 l0_2.length c0_2] 28 (0, 0)) (ub BK328.out) hg (Kd.R_ne HO335.out BK328.out (by decide)))
      have n1_ := ak (hb)
      have n2_ := ak (ho)
      clear BK328 HB HO335
      have BK328 := n0_
      have HB := n1_
      have HO340 := n2_
      clear n0_ n1_ n2_ ho hb hg hat
      refine hK.out _ _ ⟨(blk_cell BK328.out 0).trans rfl, (blk_cell BK328.out 1).trans rfl, (blk_cell BK328.out 2).trans rfl⟩ ?_
      clear hK K
      refine no (a' := ?_) ?_ ?_
      rotate_left
      ·
       show Act.put _ (some 41) _ = _
       simp only [Act.put, l_a, l_b, l_c, i64_w, i32_w]
       rfl
      repeat refine lo_ ?_
      refine rA Tryz.func105 (impl_areTexts.calls (cu (Kd.C_below HR0_1.out HB.out)) HC0_1.out A50.out) ?_
      intro nd
      refine ⟨sx, ?_⟩
      repeat refine lo_ ?_
      refine on ?_
      try go_wp2
      go_ret2
      exact ⟨_, er, ur HO340.out, bb⟩
     ·
      have c49b0 := beq_eq_false_iff_ne.mpr c49
      have c49b1 := bne_iff_ne.mpr c49
      have c49b2 : ¬ (l0_2 = []) := fun h_ => c49 (by rw [h_]; rfl)
      obtain ⟨rfl, rfl⟩ := s2 H
      try go_wp2_with (first | ((with_reducible refine gate_builtin (b := .append) (xs := #[.tmp 28, .tmp 29]) rfl ?_); (try (refine gate_guard (by rfl) ?_; dsimp only)); at_builtin; refine Kd.R_append Kd.string (w0 := w) w.heap.size rfl (.tmp 28) (.tmp 29) 23 9 (.string ⟨#[]⟩) 16 rfl Tryz.underlying23 info9 rfl (by decide) (by omega) v331 t329 (⟨#[]⟩ : ByteArray) [.string (⟨#[]⟩ : ByteArray)] (fun _ => True) (fun _ => False) rfl rfl ?aP (fun _ hk => hk.elim) ?aF ?aO ?aB ?aS ?aL ?_; (case aP => exact rfl); (case aB => exact bb); (case aF => exact (fun _ _ => trivial)); (case aO => exact (ur HO_6.out)); (case aS => exact (below_size bb)); (case aL => have := LMc10.out; omega); intro v334 w56 ho hb hg hat; rw [← Ny333.out] at ho; have HO335 := ak (ho); replace BK328 := ak (blk_grown (g := gb328) (o := .cells #[.slice A0_0 l0_0.length c0_0, .slice A0_1 l0_1.length c0_1, .slice A0_2 l0_2.length c0_2] 28 (0, 0)) (ub BK328.out) hg (Kd.R_ne HO_6.out BK328.out (by decide))); replace HB := ak (hb); clear ho hb hg hat HO_6; have z57 := cz3 BK328.out) | (refine gB Tryz.func101 (impl_Part_boundary.calls (cu (Kd.C_below HR0_0.out HB.out)) HC0_0.out (cu (Kd.C_below HR0_1.out HB.out)) HC0_1.out (cu (Kd.C_below HR0_2.out HB.out)) HC0_2.out ?side7 A11.out) ?_; (case side7 => first | exact HG.out | exact MaxOk.below HG.out bb | (repeat (first | exact HG.out | apply MaxOk.drewN | apply MaxOk.drew))); intro w58 hb; replace HO335 := rb HO335 hb; replace BK328 := kb BK328 hb; replace HB := bz HB hb; clear hb))
      replace HO335 := ak (Kd.R_drew HO335.out)
      replace BK328 := ak (blk_drew BK328.out)
      replace HB := ak (below_drew1 HB.out)
      refine ro [3] [0, 1, 4, 2, 5, 6, 7, 3, 8, 9, 10, 11, 12, 13, 14] (fun w' => w'.cell? ⟨gb328, 0, none⟩ = some (.slice A0_0 l0_0.length c0_0) ∧ w'.cell? ⟨gb328, 1, none⟩ = some (.slice A0_1 l0_1.length c0_1) ∧ w'.cell? ⟨gb328, 2, none⟩ = some (.slice A0_2 l0_2.length c0_2)) ⟨(blk_cell BK328.out 0).trans rfl, (blk_cell BK328.out 1).trans rfl, (blk_cell BK328.out 2).trans rfl⟩ ?_
      generalize w58.drew = w59 at HO335 BK328 HB ⊢
      repeat (first | refine lo_ ?_ | refine lg_ ?_)
      refine ld (N := some 41) (gk.trans rfl) rfl rfl (fun K hK => ?_)
      refine Kd.R_append_rows_step Kd.string (w0 := w) w.heap.size (by rfl) (.tmp 38) (.tmp 40) 23 9 (.string ⟨#[]⟩) 16 rfl Tryz.underlying23 info9 rfl (by decide) (by omega) v334 y333 l0_1 _ _ _ (fun _ => True) (fun _ => False) rfl rfl ?aO ?aR (fun _ _ h => h) (fun _ h => h.elim) ?aF ?aB ?aS ?aL ?_
      (case aR => repeat (first | exact (Kd.C_below HR0_1.out HB.out) | (with_reducible refine Kd.C_alloc ?_ _) | (with_reducible refine Kd.C_drewN ?_ _) | (with_reducible refine Kd.C_drew ?_)))
      (case aB => exact bb)
      (case aF => exact (fun _ _ => trivial))
      (case aO => exact (ur HO335.out))
      (case aS => exact (below_size bb))
      (case aL => have := LMc48.out; omega)
      intro v339 w60 ho hb hg hat
      rw [← Ny338.out] at ho
      have n0_ := ak (blk_grown (g := gb328) (o := .cells #[.slice A0_0 l0_0.length c0_0, .slice A0_1 l0_1.length c0_1, .slice A0_2 l0_2.length c0_2] 28 (0, 0)) (ub BK328.out) hg (Kd.R_ne HO335.out BK328.out (by decide)))
      have n1_ := ak (hb)
      have n2_ := ak (ho)
      clear BK328 HB HO335
      have BK328 := n0_
      have HB := n1_
      have HO340 := n2_
      clear n0_ n1_ n2_ ho hb hg hat
      refine hK.out _ _ ⟨(blk_cell BK328.out 0).trans rfl, (blk_cell BK328.out 1).trans rfl, (blk_cell BK328.out 2).trans rfl⟩ ?_
      clear hK K
      refine no (a' := ?_) ?_ ?_
      rotate_left
      ·
       show Act.put _ (some 41) _ = _
       simp only [Act.put, l_a, l_b, l_c, i64_w, i32_w]
       rfl
      repeat (first | refine lo_ ?_ | refine lg_ ?_)
      refine on ?_
      try go_wp2
      go_ret2
      exact ⟨_, er, ur HO340.out, bb⟩
def impl_PartValid.f (k : Nat) (l0_0 : List (S69)) (l0_1 : List ByteArray) (l0_2 : List (S28)) : Option (Bool) := (impl_Part_linesOf.f k l0_0 l0_1 l0_2 3).bind fun bt362 => (some bt362.2)
theorem impl_PartValid.calls {k c0_0 c0_1 c0_2 : Nat} {A0_0 A0_1 A0_2 : Option Addr} {l0_0 : List (S69)} {l0_1 : List ByteArray} {l0_2 : List (S28)} {r : Bool} {w : World} (hr0_0 : Kd.C k69 w A0_0 l0_0.length l0_0) (hc0_0 : l0_0.length ≤ c0_0) (hr0_1 : Kd.C Kd.string w A0_1 l0_1.length l0_1) (hc0_1 : l0_1.length ≤ c0_1) (hr0_2 : Kd.C k28 w A0_2 l0_2.length l0_2) (hc0_2 : l0_2.length ≤ c0_2) (hg_ : MaxOk w) (h : impl_PartValid.f k l0_0 l0_1 l0_2 = some r) :
  Calls Tryz.prog 26 #[.agg #[.slice A0_0 l0_0.length c0_0, .slice A0_1 l0_1.length c0_1, .slice A0_2 l0_2.length c0_2]] w fun e w' => e = .returned (.bool r) ∧ Below w.heap.size w w' := by
 have hu28 := Tryz.underlying28
 have HR0_0 := ak hr0_0
 have HC0_0 := ak hc0_0
 clear hr0_0 hc0_0
 have HR0_1 := ak hr0_1
 have HC0_1 := ak hc0_1
 clear hr0_1 hc0_1
 have HR0_2 := ak hr0_2
 have HC0_2 := ak hc0_2
 clear hr0_2 hc0_2
 have HG := ak hg_
 clear hg_
 have HB := ak (Below.refl w.heap.size w)
 have H : ((impl_Part_linesOf.f k l0_0 l0_1 l0_2 3).bind fun bt362 => (some bt362.2)) = some r := h
 clear h
 replace H := bd H
 obtain ⟨⟨t362, t365⟩, A2, H⟩ := H
 (try dsimp only at H)
 obtain rfl := s1 H
 go_enter Tryz.func26, Tryz.ntmps26
 go_wp2_with (first | (refine bX HB 1 #[.slice A0_0 l0_0.length c0_0, .slice A0_1 l0_1.length c0_1, .slice A0_2 l0_2.length c0_2] 28 ?_; intro gb361 w3 BK361 GW361 hb; replace HB := bs HB hb; clear hb; have z4 := cz3 BK361.out) | (refine gV Tryz.func66 (impl_Part_linesOf.calls k _ _ l0_0 _ _ l0_1 _ _ l0_2 3 t362 t365 _ (cu (Kd.C_below HR0_0.out HB.out)) HC0_0.out (cu (Kd.C_below HR0_1.out HB.out)) HC0_1.out (cu (Kd.C_below HR0_2.out HB.out)) HC0_2.out ?side7 A2.out) ?_; (case side7 => first | exact HG.out | exact MaxOk.below HG.out bb | (repeat (first | exact HG.out | apply MaxOk.drewN | apply MaxOk.drew))); rintro v363 w5 ⟨ho0, hb⟩; have HO364 := ak (Kd.R_lower ho0 (below_size bb)); replace BK361 := kb BK361 hb; replace HB := bz HB hb; clear hb; (try clear ho0)))
 go_ret
 exact ⟨er, bb⟩
end Go.Proofs.YtncdadcmghglkaaGreatDoor.PFnPartSame
