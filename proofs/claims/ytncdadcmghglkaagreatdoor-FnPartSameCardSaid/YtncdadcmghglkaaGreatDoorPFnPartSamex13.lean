/- Printed walks; conditions: those in each statement. -/
import Derived.Test.YtncdadcmghglkaaGreatDoorVFnPartSameQt
import Derived.Test.YtncdadcmghglkaaGreatDoorVFnPartSameYt
import Derived.Test.YtncdadcmghglkaaGreatDoorPFnPartSamex0
-- short
-- dense
-- sq
-- sq2
namespace Go.Proofs.YtncdadcmghglkaaGreatDoor.PFnPartSame
open Go.RowKit Go.Proofs.YtncdadcmghglkaaGreatDoor.X Go.Proofs.YtncdadcmghglkaaGreatDoorW.PrintWords Go.Proofs.YtncdadcmghglkaaGreatDoorW.PrintLast Go.Proofs.YtncdadcmghglkaaGreatDoorW.PrintMore
attribute [local go_sem] max2_int min2_int max_two min_two max_three min_three max_four min_four   -- for this text's walks alone
set_option linter.unusedVariables false
set_option maxHeartbeats 8000000
set_option maxRecDepth 100000
set_option linter.unusedSimpArgs false
/-- A state of type 109 at block g of W; what its slices lead to came in by w0. -/
def IsS109 (w0 W : World) (g : Nat) (f0 : List Int) (f1 : Int) : Prop := ∃ A0 c0, W.heap[g]? = some (.cells #[.slice A0 f0.length c0, .int .i64 f1] 109 (0, 0)) ∧ w0.heap.size ≤ g ∧ Kd.C (Kd.int .u8) w0 A0 f0.length f0
theorem IsS109.grown {w0 W : World} {g : Nat} {f0 : List Int} {f1 : Int} {W1 : World} {row : Option Nat} (h : IsS109 w0 W g f0 f1) (hw : W.grownBy W1 row) (hne : some g ≠ row) : IsS109 w0 W1 g f0 f1 := by
 obtain ⟨A0, c0, hb, hg, hr0⟩ := h
 exact ⟨A0, c0, blk_grown hb hw hne, hg, hr0⟩
theorem IsS109.own_neN {w0 W : World} {g : Nat} {f0 : List Int} {f1 : Int} {α : Type} {d : Kd α} {e : Nat} {base : Nat} {ok : Nat → Prop} {v : Value} {xs : List α} (h : IsS109 w0 W g f0 f1) (ho : Kd.N d e W base ok v xs) (ht : e ≠ 109) : some g ≠ v.ownBlock := by
 obtain ⟨A0, c0, hb, hg, hr0⟩ := h
 exact Kd.N_ne ho hb ht
theorem IsS109.fresh {w0 W : World} {g : Nat} {f0 : List Int} {f1 : Int} (h : IsS109 w0 W g f0 f1) : ∀ k, W.heap.size ≤ k → k ≠ g := by
 obtain ⟨A0, c0, hb, hg, hr0⟩ := h
 exact Kd.freshB hb
theorem IsS109.kept {w0 W : World} {g : Nat} {f0 : List Int} {f1 : Int} {W1 : World} {S : Nat → Prop} (h : IsS109 w0 W g f0 f1) (hk : Kept W W1 S) (hne : ¬ S g) : IsS109 w0 W1 g f0 f1 := by
 obtain ⟨A0, c0, hb, hg, hr0⟩ := h
 exact ⟨A0, c0, blk_kept hb hk hne, hg, hr0⟩
theorem IsS109.below {w0 W : World} {g : Nat} {f0 : List Int} {f1 : Int} {W1 : World} (h : IsS109 w0 W g f0 f1) (hw : Below W.heap.size W W1) : IsS109 w0 W1 g f0 f1 := h.grown (grown_of_below hw none) (by simp)
theorem IsS109.alloc {w0 W : World} {g : Nat} {f0 : List Int} {f1 : Int} (h : IsS109 w0 W g f0 f1) (o : Obj) : IsS109 w0 (W.alloc o) g f0 f1 := h.below (below_alloc (Below.refl _ _) o)
theorem IsS109.drewN {w0 W : World} {g : Nat} {f0 : List Int} {f1 : Int} (h : IsS109 w0 W g f0 f1) (m : Nat) : IsS109 w0 (W.drewN m) g f0 f1 := h
theorem IsS109.drew {w0 W : World} {g : Nat} {f0 : List Int} {f1 : Int} (h : IsS109 w0 W g f0 f1) : IsS109 w0 W.drew g f0 f1 := h
theorem IsS109.at_ {w0 W : World} {g : Nat} {f0 : List Int} {f1 : Int} {w' : World} {m : Nat} (hq : W.drewN m = w') (h : IsS109 w0 W g f0 f1) : IsS109 w0 w' g f0 f1 := by subst hq; exact IsS109.drewN h m
theorem IsS109.apart {w0 W : World} {g : Nat} {f0 : List Int} {f1 : Int} {α : Type} {d : Kd α} {e : Nat} {base : Nat} {ok : Nat → Prop} {v : Value} {xs : List α} (h : IsS109 w0 W g f0 f1) (ho : d.R e W base ok v xs) (ht : ∀ q, q ∈ e :: d.E → q ≠ 109) : d.R e W base (fun k => ok k ∧ k ≠ g) v xs := by
 obtain ⟨A0, c0, hb, hg, hr0⟩ := h
 exact Kd.R_types ho hb ht
theorem IsS109.own_ne {w0 W : World} {g : Nat} {f0 : List Int} {f1 : Int} {α : Type} {d : Kd α} {e : Nat} {base : Nat} {ok : Nat → Prop} {v : Value} {xs : List α} (h : IsS109 w0 W g f0 f1) (ho : d.R e W base ok v xs) (ht : e ≠ 109) : some g ≠ v.ownBlock := by
 obtain ⟨A0, c0, hb, hg, hr0⟩ := h
 exact Kd.R_ne ho hb ht
theorem IsS109.apartQ {w0 W : World} {g : Nat} {f0 : List Int} {f1 : Int} {α : Type} {d : Kd α} {e : Nat} {base : Nat} {ok : Nat → Prop} {v : Value} {xs : List α} (h : IsS109 w0 W g f0 f1) (ho : d.Q e W base ok v xs) (ht : ∀ q, q ∈ e :: d.E → q ≠ 109) : d.Q e W base (fun k => ok k ∧ k ≠ g) v xs := by
 obtain ⟨A0, c0, hb, hg, hr0⟩ := h
 exact Kd.Q_types ho hb ht
theorem IsS109.own_neQ {w0 W : World} {g : Nat} {f0 : List Int} {f1 : Int} {α : Type} {d : Kd α} {e : Nat} {base : Nat} {ok : Nat → Prop} {v : Value} {xs : List α} (h : IsS109 w0 W g f0 f1) (ho : d.Q e W base ok v xs) (ht : e ≠ 109) : some g ≠ v.ownBlock := by
 obtain ⟨A0, c0, hb, hg, hr0⟩ := h
 exact Kd.Q_ne ho hb ht
theorem IsS109.apartS {w0 W : World} {g : Nat} {f0 : List Int} {f1 : Int} {α : Type} {d : Kd α} {e : Nat} {base : Nat} {ok : Nat → Prop} {v : Value} {xs : List α} (h : IsS109 w0 W g f0 f1) (ho : d.S e W base ok v xs) (ht : ∀ q, q ∈ e :: d.E → q ≠ 109) : d.S e W base (fun k => ok k ∧ k ≠ g) v xs := by
 obtain ⟨A0, c0, hb, hg, hr0⟩ := h
 exact Kd.S_types ho hb ht
theorem IsS109.own_neS {w0 W : World} {g : Nat} {f0 : List Int} {f1 : Int} {α : Type} {d : Kd α} {e : Nat} {base : Nat} {ok : Nat → Prop} {v : Value} {xs : List α} (h : IsS109 w0 W g f0 f1) (ho : d.S e W base ok v xs) (ht : e ≠ 109) : some g ≠ v.ownBlock := by
 obtain ⟨A0, c0, hb, hg, hr0⟩ := h
 exact Kd.S_ne ho hb ht
theorem IsS109.lt {w0 W : World} {g : Nat} {f0 : List Int} {f1 : Int} (h : IsS109 w0 W g f0 f1) : g < W.heap.size := by
 obtain ⟨A0, c0, hb, hg, hr0⟩ := h
 exact blk_lt hb
theorem IsS109.ge {w0 W : World} {g : Nat} {f0 : List Int} {f1 : Int} (h : IsS109 w0 W g f0 f1) : w0.heap.size ≤ g := by
 obtain ⟨A0, c0, hb, hg, hr0⟩ := h
 exact hg
theorem IsS109.ne_blk {w0 W : World} {g : Nat} {f0 : List Int} {f1 : Int} {a : Nat} {cs : Array Value} {t : TypeId} {fr : Nat × Nat} (h : IsS109 w0 W g f0 f1) (hb2 : W.heap[a]? = some (.cells cs t fr)) (ht : t ≠ 109) : g ≠ a := by
 obtain ⟨A0, c0, hb, hg, hr0⟩ := h
 rintro rfl
 rw [hb] at hb2
 injection hb2 with hb2
 injection hb2 with _ ht2
 exact ht ht2.symm
theorem IsS109.far {w0 W : World} {g : Nat} {f0 : List Int} {f1 : Int} {p : Addr} (h : IsS109 w0 W g f0 f1) (hne : g ≠ p.block) (u : Value) : IsS109 w0 (W.setCell p u) g f0 f1 := by
 obtain ⟨A0, c0, hb, hg, hr0⟩ := h
 exact ⟨A0, c0, blk_far hb hne u, hg, hr0⟩
theorem cellS109_0 {W : World} {g : Nat} {A0 : Option Addr} {c0 : Nat} {f0 : List Int} {f1 : Int} (h : W.heap[g]? = some (.cells #[.slice A0 f0.length c0, .int .i64 f1] 109 (0, 0))) : W.cell? ⟨g, 0, none⟩ = some (.slice A0 f0.length c0) := (blk_cell h 0).trans rfl
theorem cellS109_1 {W : World} {g : Nat} {A0 : Option Addr} {c0 : Nat} {f0 : List Int} {f1 : Int} (h : W.heap[g]? = some (.cells #[.slice A0 f0.length c0, .int .i64 f1] 109 (0, 0))) : W.cell? ⟨g, 1, none⟩ = some (.int .i64 f1) := (blk_cell h 1).trans rfl
theorem IsS109.set_1 {w0 W : World} {g : Nat} {f0 : List Int} {f1 : Int} (h : IsS109 w0 W g f0 f1) (x : Int) : IsS109 w0 (W.setCell ⟨g, 1, none⟩ (.int .i64 x)) g f0 x := by
 obtain ⟨A0, c0, hb, hg, hr0⟩ := h
 exact ⟨A0, c0, by simpa using blk_set hb 1 (.int .i64 x), hg, hr0⟩
theorem IsS109.new (w0 W : World) (A0 : Option Addr) (c0 : Nat) (f0 : List Int) (f1 : Int) (hB : Below w0.heap.size w0 W) (hr0 : Kd.C (Kd.int .u8) w0 A0 f0.length f0) : IsS109 w0 (W.alloc (.cells #[.slice A0 f0.length c0, .int .i64 f1] 109)) W.heap.size f0 f1 := ⟨A0, c0, by simpa using heap_alloc_new W _, hB.size, hr0⟩
/-! words on the state -/
theorem is_ {p : Prop} (h : p := by repeat (first | (with_reducible first | exact Aside0.out (by assumption) | apply IsS109.alloc | apply IsS109.drewN | apply IsS109.drew | apply IsS109.set_1 | refine IsS109.far ?_ (Aside0.out (by assumption)) _) | exact Aside0.out (by assumption))) : p := h
theorem bi_ {p : Prop} (h : p := by repeat (first | (with_reducible first | exact Aside0.out (by assumption) | apply below_alloc | apply pw_below_drewN | apply below_drew1 | refine below_set ?_ (IsS109.ge (Aside0.out (by assumption))) | refine below_set ?_ (Aside0.out (by assumption))) | exact Aside0.out (by assumption))) : p := h
theorem bS {P : Program} {ops : Array Oper} {o : Oper} {rest : List Oper} {a : Act} {Q : Exit → Act → World → Prop} {w0 w W c1 c2 c3 : World} {g : Nat} {f0 : List Int} {f1 f2 : Int} (_HI : Aside0 (IsS109 w0 c1 g f0 f1)) (_HK : Aside0 (KeepBut w c2 g none)) (_HB : Aside0 (Below w0.heap.size w0 c3)) (HW : Aside0 (w0.heap.size ≤ w.heap.size)) (N : Nat) (cs : Array Value) (t : TypeId)
  (h : ∀ b w1, Aside0 (w1.heap[b]? = some (.cells cs t (0, 0))) → Aside0 (w.heap.size ≤ b) → Aside0 (w0.heap.size ≤ b) → Aside0 (g ≠ b) → Aside0 (b ≠ g) → b = W.heap.size → Below W.heap.size W w1 → Aside0 (IsS109 w0 w1 g f0 f2) → Aside0 (KeepBut w w1 g none) → Aside0 (Below w0.heap.size w0 w1) → wpList P ops Q rest (a.put o.dst (.pointer (some ⟨b, 0, none⟩))) w1)
  (hd : o.dst = some N := by with_reducible rfl) (hg : o.guard = none := by with_reducible rfl) (hr : (execOp a.eval o).run P W = .ok (.value (.pointer (some ⟨W.heap.size, 0, none⟩))) (W.alloc (.cells cs t (0, 0))) := by first | (go_simp; done) | (go_simp; rfl)) (hI : IsS109 w0 W g f0 f2 := by exact is_) (hK : KeepBut w W g none := by exact kk) (hB : Below w0.heap.size w0 W := by exact bi_) : wpList P ops Q (o :: rest) a W :=
 bE N cs t (fun b hb w1 h1 hw => h b w1 ⟨h1⟩ ⟨by rw [hb]; exact keep_size hK⟩ ⟨Nat.le_trans HW.out (by rw [hb]; exact keep_size hK)⟩ ⟨by rw [hb]; exact Nat.ne_of_lt hI.lt⟩ ⟨by rw [hb]; exact Nat.ne_of_gt hI.lt⟩ hb hw ⟨hI.below hw⟩ ⟨hK.trans (KeepBut.of_below hw g none) (.inl rfl)⟩ ⟨below_step hB hw⟩) hd hg hr
theorem ki {α : Type} {d : Kd α} {e base : Nat} {ok : Nat → Prop} {v : Value} {xs : List α} {w0 a b c : World} {g : Nat} {f0 : List Int} {f1 : Int} (_old : Aside0 (Kd.R d e a base ok v xs)) (hk : KeepBut b c g none) (hI : IsS109 w0 b g f0 f1 := by exact is_) (h : Kd.R d e b base ok v xs := by exact rr) (ht : ∀ q, q ∈ e :: d.E → q ≠ 109 := by decide) : Aside0 (Kd.R d e c base ok v xs) := ⟨Kd.R_mono (Kd.R_keep (hI.apart h ht) hk (fun _ h => h.2)) (fun _ h => h.1)⟩
theorem kj {α β : Type} {d : Kd α} {e base : Nat} {ok : Nat → Prop} {v : Value} {xs : List α} {w0 a b c : World} {g : Nat} {f0 : List Int} {f1 : Int} {d' : Kd β} {e' : Nat} {ok' : Nat → Prop} {v' : Value} {ys : List β} (_old : Aside0 (Kd.R d e a base ok v xs)) (hk : KeepBut b c g none) (ho : Kd.R d' e' c b.heap.size ok' v' ys) (hI : IsS109 w0 b g f0 f1 := by exact is_) (h : Kd.R d e b base ok v xs := by exact rr) (ht : ∀ q, q ∈ e :: d.E → q ≠ 109 := by decide) : Aside0 (Kd.R d e c base (fun k => ok k ∧ some k ≠ v'.ownBlock) v xs) := ⟨Kd.R_mono (Kd.R_told (Kd.R_oldK (hI.apart h ht) hk) (Kd.R_base ho)) (fun _ h => h.1)⟩
def spec_l13Open.f (l0 : List Int) : Option (List Int × Int) := if (l0.length : Int) > 2000 then (if 2000 ≤ (l0.length : Int) then (some (l0.take 2000, 0)) else (none)) else (some (l0, 0))
theorem spec_l13Open.calls {A0 : Option Addr} {c0 : Nat} {l0 r1 : List Int} {r2 : Int} {w : World} (w0 : World) (hB : Below w0.heap.size w0 w) (hr0 : Kd.C (Kd.int .u8) w0 A0 l0.length l0) (hc0 : l0.length ≤ c0) (h : spec_l13Open.f l0 = some (r1, r2)) :
  Calls Tryz.prog 55 #[.slice A0 l0.length c0] w fun e w' => ∃ g_ : Nat, e = .returned (.pointer (some ⟨g_, 0, none⟩)) ∧ IsS109 w0 w' g_ r1 r2 ∧ Below w0.heap.size w0 w' ∧ Below w.heap.size w w' := by
 have hu109 := Tryz.underlying109
 have HR0 := ak hr0
 have HC0 := ak hc0
 clear hr0 hc0
 have HBW := ak (Below.refl w.heap.size w)
 have HW0 := ak hB.size
 have HB := ak hB
 clear hB
 have H : (if (l0.length : Int) > 2000 then (if 2000 ≤ (l0.length : Int) then (some (l0.take 2000, 0)) else (none)) else (some (l0, 0))) = some (r1, r2) := h
 clear h
 replace H := sp H
 rcases H with ⟨c2, H⟩ | ⟨c2, H⟩
 ·
  have c2b0 : decide (2000 < (l0.length : Int)) = true := decide_eq_true c2
  have c2b1 : decide (2000 < l0.length) = true := decide_eq_true (by omega)
  clear c2
  replace H := ne_ H; obtain ⟨c3b0, c3b1, H⟩ := H
  obtain ⟨rfl, rfl⟩ := s2 H
  obtain ⟨i04, hi04, _, hsz4, _⟩ := info_parts info5
  obtain ⟨hcut4, hA4, hC4⟩ := print_take_of (P := Tryz.prog) (Value.int .u8) 0 22 5 .i64 Tryz.underlying22 hi04 hsz4 A0 c0 l0 2000 (by omega) (of_decide_eq_true (by assumption)) HC0.out
  have HR366 := ak (Kd.C_of_reads (h1 := fun _ => rfl) (hA4 _ (Kd.reads_of_C HR0.out)))
  have HC366 := ak hC4
  clear hA4 hC4 hi04 hsz4
  go_enter Tryz.func55, Tryz.ntmps55
  go_wp2_with (refine bE 10 #[.slice A0 (l0.take 2000).length c0, .int .i64 0] 109 ?_; intro gb367 hg w5 hbox hb; have BK367 := ak (hbox); have GW367 := ge_ HBW hg; have GE367 := ak ((Nat.le_trans HW0.out (by rw [hg]; exact (below_size (ul HBW.out)) : w.heap.size ≤ gb367) : w0.heap.size ≤ gb367)); replace HBW := ak (below_step HBW.out hb); replace HB := bs HB hb; clear hb hbox hg)
  go_ret
  exact ⟨_, rfl, (show IsS109 w0 _ gb367 (l0.take 2000) 0 from ⟨_, _, ub BK367.out, GE367.out, HR366.out⟩), bi_, bh HBW.out⟩
 ·
  have c2b0 : decide (2000 < (l0.length : Int)) = false := decide_eq_false c2
  have c2b1 : decide (2000 < l0.length) = false := decide_eq_false (by omega)
  clear c2
  obtain ⟨rfl, rfl⟩ := s2 H
  go_enter Tryz.func55, Tryz.ntmps55
  go_wp2_with (refine bE 10 #[.slice A0 l0.length c0, .int .i64 0] 109 ?_; intro gb368 hg w6 hbox hb; have BK368 := ak (hbox); have GW368 := ge_ HBW hg; have GE368 := ak ((Nat.le_trans HW0.out (by rw [hg]; exact (below_size (ul HBW.out)) : w.heap.size ≤ gb368) : w0.heap.size ≤ gb368)); replace HBW := ak (below_step HBW.out hb); replace HB := bs HB hb; clear hb hbox hg)
  go_ret
  exact ⟨_, rfl, (show IsS109 w0 _ gb368 l0 0 from ⟨_, _, ub BK368.out, GE368.out, HR0.out⟩), bi_, bh HBW.out⟩
def spec_l13Rd_pick.j0 : Nat → Int → Bool → List Int → Int → Option (Int × Int)
 | 0, _, _, _, _ => none
 | k + 1, x1, x24, x1000, x1001 => if x24 = true then (some (0, x1001)) else (if (wrap64 (x1001 - 1)) < (x1000.length : Int) then (if 0 ≤ (wrap64 (x1001 - 1)) then (if x1 = 0 then (none) else (some (Int.tmod (wrap64 (rd x1000 (wrap64 (x1001 - 1)))) x1, x1001))) else (none)) else (if (x1000.length : Int) = 0 then (none) else (if 0 ≤ (Int.tmod (wrap64 (x1001 - 1)) (x1000.length : Int)) then (if (Int.tmod (wrap64 (x1001 - 1)) (x1000.length : Int)) < (x1000.length : Int) then (if 0 ≤ (Int.tmod (wrap64 ((wrap64 ((wrap64 (x1001 - 1)) * 7)) + 3)) (x1000.length : Int)) then (if (Int.tmod (wrap64 ((wrap64 ((wrap64 (x1001 - 1)) * 7)) + 3)) (x1000.length : Int)) < (x1000.length : Int) then (if x1 = 0 then (none) else (some (Int.tmod (Go.bits .xor .i64 (wrap64 ((wrap64 ((wrap64 ((wrap64 ((wrap64 (rd x1000 (Int.tmod (wrap64 (x1001 - 1)) (x1000.length : Int)))) * 131)) + (wrap64 ((wrap64 (rd x1000 (Int.tmod (wrap64 ((wrap64 ((wrap64 (x1001 - 1)) * 7)) + 3)) (x1000.length : Int)))) * 1117)))) + (wrap64 ((wrap64 (x1001 - 1)) * 29)))) + (wrap64 ((wrap64 (Int.tdiv (wrap64 (x1001 - 1)) (x1000.length : Int))) * 53)))) (wrap64 (Int.tdiv (wrap64 ((wrap64 ((wrap64 ((wrap64 ((wrap64 (rd x1000 (Int.tmod (wrap64 (x1001 - 1)) (x1000.length : Int)))) * 131)) + (wrap64 ((wrap64 (rd x1000 (Int.tmod (wrap64 ((wrap64 ((wrap64 (x1001 - 1)) * 7)) + 3)) (x1000.length : Int)))) * 1117)))) + (wrap64 ((wrap64 (x1001 - 1)) * 29)))) + (wrap64 ((wrap64 (Int.tdiv (wrap64 (x1001 - 1)) (x1000.length : Int))) * 53)))) 64))) x1, x1001))) else (none)) else (none)) else (none)) else (none))))
def spec_l13Rd_pick.f (k : Nat) (s0_0 : List Int) (s0_1 : Int) (a1 : Int) : Option (Int × Int) := if a1 < 1 then (spec_l13Rd_pick.j0 k a1 true s0_0 (wrap64 (s0_1 + 1))) else (spec_l13Rd_pick.j0 k a1 ((s0_0.length : Int) == 0) s0_0 (wrap64 (s0_1 + 1)))
theorem spec_l13Rd_pick.calls {k g : Nat} {s0_0 : List Int} {s0_1 a1 r1 r2 : Int} {w : World} (w0 : World) (hI : IsS109 w0 w g s0_0 s0_1) (hB : Below w0.heap.size w0 w) (h : spec_l13Rd_pick.f k s0_0 s0_1 a1 = some (r1, r2)) :
  Calls Tryz.prog 57 #[.pointer (some ⟨g, 0, none⟩), .int .i64 a1] w fun e w' => e = .returned (.int .i64 r1) ∧ IsS109 w0 w' g s0_0 r2 ∧ Below w0.heap.size w0 w' ∧ KeepBut w w' g none := by
 have HI0 := ak hI
 have HK := ak (KeepBut.refl w g none)
 have HL := ak hB.size
 clear hI
 have HW0 := ak hB.size
 have HB := ak hB
 clear hB
 have H : (if a1 < 1 then (spec_l13Rd_pick.j0 k a1 true s0_0 (wrap64 (s0_1 + 1))) else (spec_l13Rd_pick.j0 k a1 ((s0_0.length : Int) == 0) s0_0 (wrap64 (s0_1 + 1)))) = some (r1, r2) := h
 clear h
 have HC3 := ak H
 clear H
 obtain ⟨ASz4_0, cSz4_0, HGz4, hgz4, HSz4_0⟩ := HI0.out
 have hcz4_0 := cellS109_0 HGz4
 have hcz4_1 := cellS109_1 HGz4
 have hfz4_1 := blk_frozen HGz4 1
 clear HGz4 hgz4
 go_enter Tryz.func57, Tryz.ntmps57
 go_upto_region 2 with (fail)
 repeat (go_quiet (fail); go_upto_region 2 with (fail))
 go_cut [24] (fun v24 wc => ∃ (kq : Nat) (x24_2 : Bool), v24 = .bool x24_2 ∧ Aside0 (spec_l13Rd_pick.j0 kq a1 x24_2 s0_0 (wrap64 (s0_1 + 1)) = some (r1, r2)) ∧ Aside0 (kq ≤ k) ∧ Aside0 (IsS109 w0 wc g s0_0 (wrap64 (s0_1 + 1))) ∧ Aside0 (KeepBut w wc g none) ∧ Aside0 (Below w0.heap.size w0 wc))
 case first =>
  have H := HC3.out
  clear HC3
  replace H := sd H
  rcases H with ⟨c5b0, H⟩ | ⟨c5b0, H⟩
  ·
   (first | rw [c5b0] | (simp only [i64_w, i32_w]; rw [c5b0]) | skip)
   have H' := ak H; clear H
   go_wp2
   repeat (go_quiet (fail); try go_wp2)
   go_meet
   case rel => exact ⟨_, _, rs, H', ⟨le_⟩, ⟨is_⟩, ⟨kh HK.out⟩, ⟨bi_⟩⟩
  ·
   (first | rw [c5b0] | (simp only [i64_w, i32_w]; rw [c5b0]) | skip)
   have H' := ak H; clear H
   obtain ⟨ASz6_0, cSz6_0, HGz6, hgz6, HSz6_0⟩ := HI0.out
   have hcz6_0 := cellS109_0 HGz6
   have hcz6_1 := cellS109_1 HGz6
   have hfz6_1 := blk_frozen HGz6 1
   clear HGz6 hgz6
   go_wp2
   repeat (go_quiet (fail); try go_wp2)
   go_meet
   case rel => exact ⟨_, _, rs, H', ⟨le_⟩, ⟨is_⟩, ⟨kh HK.out⟩, ⟨bi_⟩⟩
 case rest =>
  clear HC3
  try clear hcz4_0
  try clear hcz4_1
  try clear hfz4_1
  obtain ⟨kq, x24_2, rfl, HA, HJ2, HI0, HK, HB⟩ := hcut
  cases kq with
  | zero => exact zz HA.out
  | succ kj2 =>
   obtain ⟨H⟩ := HA
   simp only [spec_l13Rd_pick.j0] at H
   replace H := sb H
   rcases H with ⟨rfl, H⟩ | ⟨rfl, H⟩
   ·
    obtain ⟨rfl, rfl⟩ := s2 H
    go_wp2
    repeat (go_quiet (fail); try go_wp2)
    go_ret
    exact ⟨er, is_, bi_, kh HK.out⟩
   ·
    replace H := sp H
    rcases H with ⟨c8, H⟩ | ⟨c8, H⟩
    ·
     have c8b0 := decide_eq_true c8
     (try (have c8b1 : decide (((wrap64 (s0_1 + 1)) - 1) < (s0_0.length : Int)) = true := decide_eq_true (by have h_ := c8; unfold wrap64 at h_; omega)))
     clear c8
     obtain ⟨ji9, hji9⟩ : ∃ j_ : Int, (wrap64 ((wrap64 (s0_1 + 1)) - 1)) = j_ := ⟨_, rfl⟩
     replace H : (if 0 ≤ (ji9) then (if a1 = 0 then (none) else (some (Int.tmod (wrap64 (rd s0_0 (ji9))) a1, (wrap64 (s0_1 + 1))))) else (none)) = some (r1, r2) := by first | (rw [hji9] at H; exact H) | (simp only [hji9] at H ⊢; exact H)
     (try rw [hji9] at c8b0)
     have hji9w : (IntKind.i64.wrap ((wrap64 (s0_1 + 1)) - 1)) = ji9 := (i64_w _).trans hji9
     replace H := nde H; obtain ⟨c10b0, H⟩ := H; replace H := sp H
     rcases H with ⟨c11, H⟩ | ⟨c11, H⟩
     ·
      exact absurd H (by simp)
     ·
      have c11b0 := beq_eq_false_iff_ne.mpr c11
      have c11b1 := bne_iff_ne.mpr c11
      obtain ⟨rfl, rfl⟩ := s2 H
      obtain ⟨ASz12_0, cSz12_0, HGz12, hgz12, HSz12_0⟩ := HI0.out
      have hcz12_0 := cellS109_0 HGz12
      have hcz12_1 := cellS109_1 HGz12
      have hfz12_1 := blk_frozen HGz12 1
      clear HGz12 hgz12
      have p369 := zi (ji9)
      have q369 := zj (ji9) s0_0.length
      obtain ⟨ad369, e369, hx369_0⟩ := Kd.at_int HSz12_0 (ji9) p369 q369
      cases e369
      replace hx369_0 := pw_cell_below HB.out hx369_0
      replace p369 := eq_true p369
      replace q369 := eq_true q369
      go_wp2
      repeat (go_quiet (fail); try go_wp2)
      go_ret
      exact ⟨by first | rfl | (simp [errW_none, errW_some] <;> rfl) | (simp only [← hji9]; first | rfl | (simp [errW_none, errW_some] <;> rfl)) | (simp [*, errW_none, errW_some] <;> rfl), is_, bi_, kh HK.out⟩
    ·
     have c8b0 := decide_eq_false c8
     (try (have c8b1 : decide (((wrap64 (s0_1 + 1)) - 1) < (s0_0.length : Int)) = false := decide_eq_false (by have h_ := c8; unfold wrap64 at h_; omega)))
     clear c8
     replace H := sp H
     rcases H with ⟨c13, H⟩ | ⟨c13, H⟩
     ·
      exact absurd H (by simp)
     ·
      have c13b0 := beq_eq_false_iff_ne.mpr c13
      have c13b1 := bne_iff_ne.mpr c13
      have c13b2 : ¬ (s0_0 = []) := fun h_ => c13 (by rw [h_]; rfl)
      obtain ⟨ji14, hji14⟩ : ∃ j_ : Int, (Int.tmod (wrap64 ((wrap64 (s0_1 + 1)) - 1)) (s0_0.length : Int)) = j_ := ⟨_, rfl⟩
      replace H : (if 0 ≤ (ji14) then (if (ji14) < (s0_0.length : Int) then (if 0 ≤ (Int.tmod (wrap64 ((wrap64 ((wrap64 ((wrap64 (s0_1 + 1)) - 1)) * 7)) + 3)) (s0_0.length : Int)) then (if (Int.tmod (wrap64 ((wrap64 ((wrap64 ((wrap64 (s0_1 + 1)) - 1)) * 7)) + 3)) (s0_0.length : Int)) < (s0_0.length : Int) then (if a1 = 0 then (none) else (some (Int.tmod (Go.bits .xor .i64 (wrap64 ((wrap64 ((wrap64 ((wrap64 ((wrap64 (rd s0_0 (ji14))) * 131)) + (wrap64 ((wrap64 (rd s0_0 (Int.tmod (wrap64 ((wrap64 ((wrap64 ((wrap64 (s0_1 + 1)) - 1)) * 7)) + 3)) (s0_0.length : Int)))) * 1117)))) + (wrap64 ((wrap64 ((wrap64 (s0_1 + 1)) - 1)) * 29)))) + (wrap64 ((wrap64 (Int.tdiv (wrap64 ((wrap64 (s0_1 + 1)) - 1)) (s0_0.length : Int))) * 53)))) (wrap64 (Int.tdiv (wrap64 ((wrap64 ((wrap64 ((wrap64 ((wrap64 (rd s0_0 (ji14))) * 131)) + (wrap64 ((wrap64 (rd s0_0 (Int.tmod (wrap64 ((wrap64 ((wrap64 ((wrap64 (s0_1 + 1)) - 1)) * 7)) + 3)) (s0_0.length : Int)))) * 1117)))) + (wrap64 ((wrap64 ((wrap64 (s0_1 + 1)) - 1)) * 29)))) + (wrap64 ((wrap64 (Int.tdiv (wrap64 ((wrap64 (s0_1 + 1)) - 1)) (s0_0.length : Int))) * 53)))) 64))) a1, (wrap64 (s0_1 + 1))))) else (none)) else (none)) else (none)) else (none)) = some (r1, r2) := by first | (rw [hji14] at H; exact H) | (simp only [hji14] at H ⊢; exact H)
      replace H := nde H; obtain ⟨c15b0, H⟩ := H; replace H := nde H; obtain ⟨c16b0, H⟩ := H
      obtain ⟨ji17, hji17⟩ : ∃ j_ : Int, (Int.tmod (wrap64 ((wrap64 ((wrap64 ((wrap64 (s0_1 + 1)) - 1)) * 7)) + 3)) (s0_0.length : Int)) = j_ := ⟨_, rfl⟩
      replace H : (if 0 ≤ (ji17) then (if (ji17) < (s0_0.length : Int) then (if a1 = 0 then (none) else (some (Int.tmod (Go.bits .xor .i64 (wrap64 ((wrap64 ((wrap64 ((wrap64 ((wrap64 (rd s0_0 (ji14))) * 131)) + (wrap64 ((wrap64 (rd s0_0 (ji17))) * 1117)))) + (wrap64 ((wrap64 ((wrap64 (s0_1 + 1)) - 1)) * 29)))) + (wrap64 ((wrap64 (Int.tdiv (wrap64 ((wrap64 (s0_1 + 1)) - 1)) (s0_0.length : Int))) * 53)))) (wrap64 (Int.tdiv (wrap64 ((wrap64 ((wrap64 ((wrap64 ((wrap64 (rd s0_0 (ji14))) * 131)) + (wrap64 ((wrap64 (rd s0_0 (ji17))) * 1117)))) + (wrap64 ((wrap64 ((wrap64 (s0_1 + 1)) - 1)) * 29)))) + (wrap64 ((wrap64 (Int.tdiv (wrap64 ((wrap64 (s0_1 + 1)) - 1)) (s0_0.length : Int))) * 53)))) 64))) a1, (wrap64 (s0_1 + 1))))) else (none)) else (none)) = some (r1, r2) := by first | (rw [hji17] at H; exact H) | (simp only [hji17] at H ⊢; exact H)
      replace H := nde H; obtain ⟨c18b0, H⟩ := H; replace H := nde H; obtain ⟨c19b0, H⟩ := H; replace H := sp H
      rcases H with ⟨c20, H⟩ | ⟨c20, H⟩
      ·
       exact absurd H (by simp)
      ·
       have c20b0 := beq_eq_false_iff_ne.mpr c20
       have c20b1 := bne_iff_ne.mpr c20
       obtain ⟨rfl, rfl⟩ := s2 H
       obtain ⟨ASz21_0, cSz21_0, HGz21, hgz21, HSz21_0⟩ := HI0.out
       have hcz21_0 := cellS109_0 HGz21
       have hcz21_1 := cellS109_1 HGz21
       have hfz21_1 := blk_frozen HGz21 1
       clear HGz21 hgz21
       have p370 := zi (ji14)
       have q370 := zj (ji14) s0_0.length
       obtain ⟨ad370, e370, hx370_0⟩ := Kd.at_int HSz21_0 (ji14) p370 q370
       cases e370
       replace hx370_0 := pw_cell_below HB.out hx370_0
       replace p370 := eq_true p370
       replace q370 := eq_true q370
       have p371 := zi (ji17)
       have q371 := zj (ji17) s0_0.length
       obtain ⟨ad371, e371, hx371_0⟩ := Kd.at_int HSz21_0 (ji17) p371 q371
       obtain rfl : ad370 = ad371 := (by injection e371)
       replace hx371_0 := pw_cell_below HB.out hx371_0
       replace p371 := eq_true p371
       replace q371 := eq_true q371
       go_wp2
       repeat (go_quiet (fail); try go_wp2)
       go_ret
       exact ⟨by first | rfl | (simp [errW_none, errW_some] <;> rfl) | (simp only [← hji14, ← hji17]; first | rfl | (simp [errW_none, errW_some] <;> rfl)) | (simp [*, errW_none, errW_some] <;> rfl), is_, bi_, kh HK.out⟩
def spec_l13Rd_of.f (k : Nat) (s0_0 : List Int) (s0_1 : Int) (l1 : List ByteArray) : Option (ByteArray × Int) := (spec_l13Rd_pick.f k s0_0 s0_1 (l1.length : Int)).bind fun bt372 => (if 0 ≤ bt372.1 then (if bt372.1 < (l1.length : Int) then (some (rdOf ByteArray.empty l1 bt372.1, bt372.2)) else (none)) else (none))
theorem spec_l13Rd_of.calls {k g c1 : Nat} {s0_0 : List Int} {s0_1 r2 : Int} {A1 : Option Addr} {l1 : List ByteArray} {r1 : ByteArray} {w : World} (w0 : World) (hI : IsS109 w0 w g s0_0 s0_1) (hB : Below w0.heap.size w0 w) (hr1 : Kd.C Kd.string w A1 l1.length l1) (hc1 : l1.length ≤ c1) (hf1 : ∀ ad, A1 = some ad → 0 < l1.length → ad.block ≠ g) (h : spec_l13Rd_of.f k s0_0 s0_1 l1 = some (r1, r2)) :
  Calls Tryz.prog 58 #[.pointer (some ⟨g, 0, none⟩), .slice A1 l1.length c1] w fun e w' => e = .returned (.string r1) ∧ IsS109 w0 w' g s0_0 r2 ∧ Below w0.heap.size w0 w' ∧ KeepBut w w' g none := by
 have HR1 := ak hr1
 have HC1 := ak hc1
 clear hr1 hc1
 have HI0 := ak hI
 have HK := ak (KeepBut.refl w g none)
 have HL := ak hB.size
 clear hI
 have HW0 := ak hB.size
 have HB := ak hB
 clear hB
 have H : ((spec_l13Rd_pick.f k s0_0 s0_1 (l1.length : Int)).bind fun bt372 => (if 0 ≤ bt372.1 then (if bt372.1 < (l1.length : Int) then (some (rdOf ByteArray.empty l1 bt372.1, bt372.2)) else (none)) else (none))) = some (r1, r2) := h
 clear h
 replace H := bd H
 obtain ⟨⟨t372, t373⟩, A3, H⟩ := H
 (try dsimp only at H)
 replace H := nde H; obtain ⟨c4b0, H⟩ := H; replace H := nde H; obtain ⟨c5b0, H⟩ := H
 obtain ⟨rfl, rfl⟩ := s2 H
 go_enter Tryz.func58, Tryz.ntmps58
 go_wp2_with (refine gL 57 9 Tryz.func57 #[.pointer (some ⟨g, 0, none⟩), .int .i64 (l1.length : Int)] ?_; (with_reducible refine (spec_l13Rd_pick.calls w0 ?side1 ?side2 A3.out).mono ?_); (case side1 => exact is_); (case side2 => exact bi_); rintro e w6 ⟨rfl, hi, hb, hk⟩; refine ⟨_, rfl, ?_⟩; replace HK := kt HK hk; replace HB := ak (hb); replace HI0 := ak (hi); clear hb; (try clear hk); (try clear hi); have p374 : 0 ≤ (t372 : Int) := of_decide_eq_true (by assumption); have q374 : t372 < (l1.length : Int) := of_decide_eq_true (by assumption); obtain ⟨ad374, e374, hx374_0⟩ := Kd.at_string HR1.out t372 p374 q374; cases e374; replace hx374_0 := keep_cell HK.out hx374_0 (by first | (rw [add_block]; exact hf1 _ rfl (by omega)) | exact hf1 _ rfl (by omega) | exact hf1 ad374 rfl (by omega)); replace p374 := eq_true p374; replace q374 := eq_true q374)
 go_ret
 exact ⟨er, is_, bi_, kh HK.out⟩
def spec_l13Rd_num.f (k : Nat) (s0_0 : List Int) (s0_1 : Int) (l1 : List Int) : Option (Int × Int) := (spec_l13Rd_pick.f k s0_0 s0_1 (l1.length : Int)).bind fun bt375 => (if 0 ≤ bt375.1 then (if bt375.1 < (l1.length : Int) then (some (rd l1 bt375.1, bt375.2)) else (none)) else (none))
theorem spec_l13Rd_num.calls {k g c1 : Nat} {s0_0 l1 : List Int} {s0_1 r1 r2 : Int} {A1 : Option Addr} {w : World} (w0 : World) (hI : IsS109 w0 w g s0_0 s0_1) (hB : Below w0.heap.size w0 w) (hr1 : Kd.C (Kd.int .i64) w A1 l1.length l1) (hc1 : l1.length ≤ c1) (hf1 : ∀ ad, A1 = some ad → 0 < l1.length → ad.block ≠ g) (h : spec_l13Rd_num.f k s0_0 s0_1 l1 = some (r1, r2)) :
  Calls Tryz.prog 97 #[.pointer (some ⟨g, 0, none⟩), .slice A1 l1.length c1] w fun e w' => e = .returned (.int .i64 r1) ∧ IsS109 w0 w' g s0_0 r2 ∧ Below w0.heap.size w0 w' ∧ KeepBut w w' g none := by
 have HR1 := ak hr1
 have HC1 := ak hc1
 clear hr1 hc1
 have HI0 := ak hI
 have HK := ak (KeepBut.refl w g none)
 have HL := ak hB.size
 clear hI
 have HW0 := ak hB.size
 have HB := ak hB
 clear hB
 have H : ((spec_l13Rd_pick.f k s0_0 s0_1 (l1.length : Int)).bind fun bt375 => (if 0 ≤ bt375.1 then (if bt375.1 < (l1.length : Int) then (some (rd l1 bt375.1, bt375.2)) else (none)) else (none))) = some (r1, r2) := h
 clear h
 replace H := bd H
 obtain ⟨⟨t375, t376⟩, A3, H⟩ := H
 (try dsimp only at H)
 replace H := nde H; obtain ⟨c4b0, H⟩ := H; replace H := nde H; obtain ⟨c5b0, H⟩ := H
 obtain ⟨rfl, rfl⟩ := s2 H
 go_enter Tryz.func97, Tryz.ntmps97
 go_wp2_with (refine gL 57 9 Tryz.func57 #[.pointer (some ⟨g, 0, none⟩), .int .i64 (l1.length : Int)] ?_; (with_reducible refine (spec_l13Rd_pick.calls w0 ?side1 ?side2 A3.out).mono ?_); (case side1 => exact is_); (case side2 => exact bi_); rintro e w6 ⟨rfl, hi, hb, hk⟩; refine ⟨_, rfl, ?_⟩; replace HK := kt HK hk; replace HB := ak (hb); replace HI0 := ak (hi); clear hb; (try clear hk); (try clear hi); have p377 : 0 ≤ (t375 : Int) := of_decide_eq_true (by assumption); have q377 : t375 < (l1.length : Int) := of_decide_eq_true (by assumption); obtain ⟨ad377, e377, hx377_0⟩ := Kd.at_int HR1.out t375 p377 q377; cases e377; replace hx377_0 := keep_cell HK.out hx377_0 (by first | (rw [add_block]; exact hf1 _ rfl (by omega)) | exact hf1 _ rfl (by omega) | exact hf1 ad377 rfl (by omega)); replace p377 := eq_true p377; replace q377 := eq_true q377)
 go_ret
 exact ⟨er, is_, bi_, kh HK.out⟩
mutual
def spec_TextValid.l0 : Nat → ByteArray → Int → Option (Bool)
 | 0, _, _ => none
 | k + 1, x0, x3 => if x3 < (x0.size : Int) then (spec_TextValid.j1 k x0 x3 (decide (x3 ≤ 200))) else (spec_TextValid.j1 k x0 x3 false)
def spec_TextValid.j1 : Nat → ByteArray → Int → Bool → Option (Bool)
 | 0, _, _, _ => none
 | k + 1, x0, x3, x11 => if x11 = true then (if 0 ≤ x3 then (if x3 < (x0.size : Int) then (if (bt x0 x3) < 32 then (some false) else (if (bt x0 x3) > 126 then (some false) else (spec_TextValid.l0 k x0 (wrap64 (x3 + 1))))) else (none)) else (none)) else (some (decide ((x0.size : Int) ≤ 200)))
end
def spec_TextValid.f (k : Nat) (a0 : ByteArray) : Option (Bool) := spec_TextValid.l0 k a0 0
theorem spec_TextValid.calls {k : Nat} {a0 : ByteArray} {r : Bool} {w : World} (h : spec_TextValid.f k a0 = some r) :
  Calls Tryz.prog 159 #[.string a0] w fun e w' => e = .returned (.bool r) ∧ Drawn0 w w' := by
 have H : (spec_TextValid.l0 k a0 0) = some r := h
 clear h
 have H' := ak H; clear H
 go_enter Tryz.func159, Tryz.ntmps159
 go_wp2
 go_loopg [3] k (fun kq v3 w' => ∃ (x3_1 : Int), v3 = .int .i64 x3_1 ∧ Aside0 (spec_TextValid.l0 kq a0 x3_1 = some r) ∧ Aside0 (kq ≤ k) ∧ Drawn0 w w')
 case atStart => exact ⟨_, rs, H', ⟨Nat.le_refl _⟩, dn⟩
 case round =>
  clear H'
  obtain ⟨x3_1, rfl, HA, HK1, ⟨m1, rfl⟩⟩ := hrel
  cases gk with
  | zero => exact zz HA.out
  | succ k1 =>
   obtain ⟨H⟩ := HA
   simp only [spec_TextValid.l0] at H
   have HC2 := ak H
   clear H
   go_upto_region 2 with (fail)
   go_cut [11] (fun v11 wc => ∃ (kq : Nat) (x11_1 : Bool), v11 = .bool x11_1 ∧ Aside0 (spec_TextValid.j1 kq a0 x3_1 x11_1 = some r) ∧ Aside0 (kq ≤ k1) ∧ Drawn0 w wc)
   case first =>
    have H := HC2.out
    clear HC2
    replace H := sd H
    rcases H with ⟨c3b0, H⟩ | ⟨c3b0, H⟩
    ·
     (first | rw [c3b0] | (simp only [i64_w, i32_w]; rw [c3b0]) | skip)
     have H' := ak H; clear H
     go_wp2
     go_meet
     case rel => exact ⟨_, _, rs, H', ⟨kl⟩, dn⟩
    ·
     (first | rw [c3b0] | (simp only [i64_w, i32_w]; rw [c3b0]) | skip)
     have H' := ak H; clear H
     go_wp2
     go_meet
     case rel => exact ⟨_, _, rs, H', ⟨kl⟩, dn⟩
   case rest =>
    clear HC2
    obtain ⟨kq, x11_1, rfl, HA, HJ1, ⟨mc1, rfl⟩⟩ := hcut
    cases kq with
    | zero => exact zz HA.out
    | succ kj1 =>
     obtain ⟨H⟩ := HA
     simp only [spec_TextValid.j1] at H
     replace H := sb H
     rcases H with ⟨rfl, H⟩ | ⟨rfl, H⟩
     ·
      replace H := nde H; obtain ⟨c5b0, H⟩ := H; replace H := nde H; obtain ⟨c6b0, H⟩ := H; replace H := sd H
      rcases H with ⟨c8b0, H⟩ | ⟨c8b0, H⟩
      ·
       obtain rfl := s1 H
       obtain ⟨p7, q7, hx7⟩ := bx a0 x3_1
       go_wp2
       go_ret
       exact ⟨rs, dn⟩
      ·
       replace H := sp H
       rcases H with ⟨c10, H⟩ | ⟨c10, H⟩
       ·
        have c10b0 : decide (126 < (bt a0 x3_1)) = true := decide_eq_true c10
        clear c10
        obtain rfl := s1 H
        obtain ⟨p7, q7, hx7⟩ := bx a0 x3_1
        obtain ⟨p9, q9, hx9⟩ := bx a0 x3_1
        go_wp2
        go_ret
        exact ⟨rs, dn⟩
       ·
        have c10b0 : decide (126 < (bt a0 x3_1)) = false := decide_eq_false c10
        clear c10
        have H' := ak H; clear H
        obtain ⟨p7, q7, hx7⟩ := bx a0 x3_1
        obtain ⟨p9, q9, hx9⟩ := bx a0 x3_1
        go_wp2
        go_roundg kj1
        case measure => exact kl
        case rel => exact ⟨_, rs, H', ⟨kl⟩, dn⟩
     ·
      obtain rfl := s1 H
      go_wp2
      go_ret
      exact ⟨rs, dn⟩
mutual
def spec_l8Body.l0 : Nat → List ByteArray → Int → Option (Bool)
 | 0, _, _ => none
 | k + 1, x0, x3 => if x3 < (x0.length : Int) then (spec_l8Body.j1 k x0 x3 (decide (x3 ≤ 30))) else (spec_l8Body.j1 k x0 x3 false)
def spec_l8Body.j1 : Nat → List ByteArray → Int → Bool → Option (Bool)
 | 0, _, _, _ => none
 | k + 1, x0, x3, x11 => if x11 = true then (if 0 ≤ x3 then (if x3 < (x0.length : Int) then ((spec_TextValid.f k (rdOf ByteArray.empty x0 x3)).bind fun t379 => (if t379 = true then (spec_l8Body.l0 k x0 (wrap64 (x3 + 1))) else (some false))) else (none)) else (none)) else (some (decide ((x0.length : Int) ≤ 30)))
end
def spec_l8Body.f (k : Nat) (l0 : List ByteArray) : Option (Bool) := spec_l8Body.l0 k l0 0
theorem spec_l8Body.calls {k c0 : Nat} {A0 : Option Addr} {l0 : List ByteArray} {r : Bool} {w : World} (hr0 : Kd.C Kd.string w A0 l0.length l0) (hc0 : l0.length ≤ c0) (h : spec_l8Body.f k l0 = some r) :
  Calls Tryz.prog 114 #[.slice A0 l0.length c0] w fun e w' => e = .returned (.bool r) ∧ Drawn0 w w' := by
 have HR0 := ak hr0
 have HC0 := ak hc0
 clear hr0 hc0
 have H : (spec_l8Body.l0 k l0 0) = some r := h
 clear h
 have H' := ak H; clear H
 go_enter Tryz.func114, Tryz.ntmps114
 go_wp2
 go_loopg [3] k (fun kq v3 w' => ∃ (x3_1 : Int), v3 = .int .i64 x3_1 ∧ Aside0 (spec_l8Body.l0 kq l0 x3_1 = some r) ∧ Aside0 (kq ≤ k) ∧ Drawn0 w w')
 case atStart => exact ⟨_, rs, H', ⟨Nat.le_refl _⟩, dn⟩
 case round =>
  clear H'
  obtain ⟨x3_1, rfl, HA, HK1, ⟨m1, rfl⟩⟩ := hrel
  cases gk with
  | zero => exact zz HA.out
  | succ k1 =>
   obtain ⟨H⟩ := HA
   simp only [spec_l8Body.l0] at H
   have HC2 := ak H
   clear H
   go_upto_region 2 with (fail)
   go_cut [11] (fun v11 wc => ∃ (kq : Nat) (x11_1 : Bool), v11 = .bool x11_1 ∧ Aside0 (spec_l8Body.j1 kq l0 x3_1 x11_1 = some r) ∧ Aside0 (kq ≤ k1) ∧ Drawn0 w wc)
   case first =>
    have H := HC2.out
    clear HC2
    replace H := sd H
    rcases H with ⟨c3b0, H⟩ | ⟨c3b0, H⟩
    ·
     (first | rw [c3b0] | (simp only [i64_w, i32_w]; rw [c3b0]) | skip)
     have H' := ak H; clear H
     go_wp2
     go_meet
     case rel => exact ⟨_, _, rs, H', ⟨kl⟩, dn⟩
    ·
     (first | rw [c3b0] | (simp only [i64_w, i32_w]; rw [c3b0]) | skip)
     have H' := ak H; clear H
     go_wp2
     go_meet
     case rel => exact ⟨_, _, rs, H', ⟨kl⟩, dn⟩
   case rest =>
    clear HC2
    obtain ⟨kq, x11_1, rfl, HA, HJ1, ⟨mc1, rfl⟩⟩ := hcut
    cases kq with
    | zero => exact zz HA.out
    | succ kj1 =>
     obtain ⟨H⟩ := HA
     simp only [spec_l8Body.j1] at H
     replace H := sb H
     rcases H with ⟨rfl, H⟩ | ⟨rfl, H⟩
     ·
      replace H := nde H; obtain ⟨c5b0, H⟩ := H; replace H := nde H; obtain ⟨c6b0, H⟩ := H; replace H := bd H; obtain ⟨t379, A7, H⟩ := H; replace H := sb H
      rcases H with ⟨rfl, H⟩ | ⟨rfl, H⟩
      ·
       have H' := ak H; clear H
       have p378 := zi x3_1
       have q378 := zj x3_1 l0.length
       obtain ⟨ad378, e378, hx378_0⟩ := Kd.at_string HR0.out x3_1 p378 q378
       cases e378
       replace p378 := eq_true p378
       replace q378 := eq_true q378
       go_wp2_with (refine gA Tryz.func159 (spec_TextValid.calls A7.out) ?_; intro nd)
       go_roundg kj1
       case measure => exact kl
       case rel => exact ⟨_, rs, H', ⟨kl⟩, dn⟩
      ·
       obtain rfl := s1 H
       have p378 := zi x3_1
       have q378 := zj x3_1 l0.length
       obtain ⟨ad378, e378, hx378_0⟩ := Kd.at_string HR0.out x3_1 p378 q378
       cases e378
       replace p378 := eq_true p378
       replace q378 := eq_true q378
       go_wp2_with (refine gA Tryz.func159 (spec_TextValid.calls A7.out) ?_; intro nd)
       go_ret
       exact ⟨rs, dn⟩
     ·
      obtain rfl := s1 H
      go_wp2
      go_ret
      exact ⟨rs, dn⟩
end Go.Proofs.YtncdadcmghglkaaGreatDoor.PFnPartSame
