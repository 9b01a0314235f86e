/- Proved by hand: the walk of the law FnPartSame over the contracts of what it calls; conditions: those in each statement. -/
import Derived.Test.YtncdadcmghglkaaGreatDoorPFnPartSamex0
import Derived.Test.YtncdadcmghglkaaGreatDoorPFnPartSamex2
import Derived.Test.YtncdadcmghglkaaGreatDoorPFnPartSamex3
import Derived.Test.YtncdadcmghglkaaGreatDoorPFnPartSamex4
import Derived.Test.YtncdadcmghglkaaGreatDoorPFnPartSamex5
import Derived.Test.YtncdadcmghglkaaGreatDoorPFnPartSamex6
import Derived.Test.YtncdadcmghglkaaGreatDoorPFnPartSamex7
import Derived.Test.YtncdadcmghglkaaGreatDoorPFnPartSamex8
import Derived.Test.YtncdadcmghglkaaGreatDoorPFnPartSamex9
import Derived.Test.YtncdadcmghglkaaGreatDoorPFnPartSamex10
import Derived.Test.YtncdadcmghglkaaGreatDoorPFnPartSamex11
import Derived.Test.YtncdadcmghglkaaGreatDoorPFnPartSamex12
import Derived.Test.YtncdadcmghglkaaGreatDoorPFnPartSamex13
import Derived.Test.YtncdadcmghglkaaGreatDoorPFnPartSamex14
import Derived.Test.YtncdadcmghglkaaGreatDoorPFnPartSamex15
import Derived.Test.YtncdadcmghglkaaGreatDoorPFnPartSamex16
import Derived.Test.YtncdadcmghglkaaGreatDoorPFnPartSamex17
import Derived.Test.YtncdadcmghglkaaGreatDoorPFnPartSamex18
import Derived.Test.YtncdadcmghglkaaGreatDoorPFnPartSamex19
import Derived.Test.YtncdadcmghglkaaGreatDoorPFnPartSamex20
import Derived.Test.YtncdadcmghglkaaGreatDoorPFnPartSamex21
import Derived.Test.YtncdadcmghglkaaGreatDoorPFnPartSamex22
import Derived.Test.YtncdadcmghglkaaGreatDoorPFnPartSamex23
import Derived.Test.YtncdadcmghglkaaGreatDoorPFnPartSamex24
import Derived.Test.YtncdadcmghglkaaGreatDoorPFnPartSamex25
import Derived.Test.YtncdadcmghglkaaGreatDoorPFnPartSamex26
import Derived.Test.YtncdadcmghglkaaGreatDoorPFnPartSamex27
-- by hand
-- sq2
-- dense
namespace Go.Proofs.YtncdadcmghglkaaGreatDoor.PFnPartSame
open Go.RowKit Go.Proofs.YtncdadcmghglkaaGreatDoor.X Go.Proofs.YtncdadcmghglkaaGreatDoorW.PrintWords Go.Proofs.YtncdadcmghglkaaGreatDoorW.PrintLast Go.Proofs.YtncdadcmghglkaaGreatDoorW.PrintMore
attribute [local go_sem] max2_int min2_int max_two min_two max_three min_three max_four min_four   -- for this text's walks alone
set_option linter.unusedVariables false
set_option maxHeartbeats 8000000
set_option maxRecDepth 100000
set_option linter.unusedSimpArgs false
/-- What is known of a part's three rows in a world. -/
abbrev PC (w : World) (A0 : Option Addr) (c0 : Nat) (p0 : List S69) (A1 : Option Addr) (c1 : Nat) (p1 : List ByteArray) (A2 : Option Addr) (c2 : Nat) (p2 : List S28) : Prop :=
 Kd.C k69 w A0 p0.length p0 ∧ p0.length ≤ c0 ∧ Kd.C Kd.string w A1 p1.length p1 ∧ p1.length ≤ c1 ∧ Kd.C k28 w A2 p2.length p2 ∧ p2.length ≤ c2
theorem PC_below {w w' : World} {A0 : Option Addr} {c0 : Nat} {p0 : List S69} {A1 : Option Addr} {c1 : Nat} {p1 : List ByteArray} {A2 : Option Addr} {c2 : Nat} {p2 : List S28} (h : Aside0 (PC w A0 c0 p0 A1 c1 p1 A2 c2 p2)) (hb : Below w.heap.size w w') : Aside0 (PC w' A0 c0 p0 A1 c1 p1 A2 c2 p2) :=
 ⟨Kd.C_below h.out.1 hb, h.out.2.1, Kd.C_below h.out.2.2.1 hb, h.out.2.2.2.1, Kd.C_below h.out.2.2.2.2.1 hb, h.out.2.2.2.2.2⟩
theorem PC_of {w : World} {base : Nat} {ok0 ok1 ok2 : Nat → Prop} {v0 v1 v2 : Value} {p0 : List S69} {p1 : List ByteArray} {p2 : List S28} (h0 : Kd.R k69 69 w base ok0 v0 p0) (h1 : Kd.R Kd.string 9 w base ok1 v1 p1) (h2 : Kd.R k28 28 w base ok2 v2 p2) :
  ∃ A0 c0 A1 c1 A2 c2, v0 = .slice A0 p0.length c0 ∧ v1 = .slice A1 p1.length c1 ∧ v2 = .slice A2 p2.length c2 ∧ Aside0 (PC w A0 c0 p0 A1 c1 p1 A2 c2 p2) := by
 obtain ⟨A0, c0, rfl⟩ := Kd.R_slice h0
 obtain ⟨A1, c1, rfl⟩ := Kd.R_slice h1
 obtain ⟨A2, c2, rfl⟩ := Kd.R_slice h2
 exact ⟨A0, c0, A1, c1, A2, c2, rfl, rfl, rfl, ⟨(Kd.R_reads' h0).2.2, (Kd.R_reads' h0).2.1, (Kd.R_reads' h1).2.2, (Kd.R_reads' h1).2.1, (Kd.R_reads' h2).2.2, (Kd.R_reads' h2).2.1⟩⟩
/-- What is read of a box of three cells. -/
theorem cx3 {w : World} {g t : Nat} {a b c : Value} (h : w.heap[g]? = some (.cells #[a, b, c] t (0, 0))) : w.cell? ⟨g, 0, none⟩ = some a ∧ w.cell? ⟨g, 1, none⟩ = some b ∧ w.cell? ⟨g, 2, none⟩ = some c :=
 ⟨(blk_cell h 0).trans rfl, (blk_cell h 1).trans rfl, (blk_cell h 2).trans rfl⟩
theorem below_put3 {w W : World} {g : Nat} {u0 u1 u2 : Value} (h : Below w.heap.size w W) (hg : w.heap.size ≤ g) : Below w.heap.size w (((W.setCell ⟨g, 0, none⟩ u0).setCell ⟨g, 1, none⟩ u1).setCell ⟨g, 2, none⟩ u2) := below_set (below_set (below_set h hg) hg) hg
theorem blk_put3 {w : World} {g t : Nat} {a b c u0 u1 u2 : Value} (h : w.heap[g]? = some (.cells #[a, b, c] t (0, 0))) : (((w.setCell ⟨g, 0, none⟩ u0).setCell ⟨g, 1, none⟩ u1).setCell ⟨g, 2, none⟩ u2).heap[g]? = some (.cells #[u0, u1, u2] t (0, 0)) := blk_put (blk_put (blk_put h 0 u0 rfl) 1 u1 rfl) 2 u2 rfl
/-- What the law's callees answer at k rounds. -/
def laws_FnPartSame.Ok (k : Nat) (l0 : List Int) : Prop :=
 (l0.length : Int) > 1048576 ∨ ¬ (l0.length : Int) > 1048576 ∧ ∃ (p r : S28) (t v : Bool), spec_DrawPartSame.f k l0 = some (p.f0, p.f1, p.f2, r.f0, r.f1, r.f2) ∧ impl_PartSame.f k p.f0 p.f1 p.f2 r.f0 r.f1 r.f2 = some t ∧ spec_PartSame.f k p.f0 p.f1 p.f2 r.f0 r.f1 r.f2 = some t ∧
  impl_PartSame.f k r.f0 r.f1 r.f2 p.f0 p.f1 p.f2 = some t ∧ impl_PartSame.f k p.f0 p.f1 p.f2 p.f0 p.f1 p.f2 = some true ∧ (t = false ∨ t = true ∧ impl_PartValid.f k p.f0 p.f1 p.f2 = some v ∧ impl_PartValid.f k r.f0 r.f1 r.f2 = some v)
theorem ab3 {P : Program} {c : Code} {Q : Exit → Act → World → Prop} {a : Act} {b W : World} {g t : Nat} {cs : Array Value} {u0 u1 u2 x y z : Value} (_old : Aside0 (b.heap[g]? = some (.cells cs t (0, 0))))
  (h : ∀ W', Aside0 (W'.heap[g]? = some (.cells #[x, y, z] t (0, 0))) → Aside0 (∀ g' o, g' ≠ g → W.heap[g']? = some o → W'.heap[g']? = some o) → Aside0 (∀ s : World, s.heap.size ≤ g → Below s.heap.size s W → Below s.heap.size s W') → c.wp P Q a W')
  (hK : W.heap[g]? = some (.cells #[u0, u1, u2] t (0, 0)) := by exact bq) : c.wp P Q a (((W.setCell ⟨g, 0, none⟩ x).setCell ⟨g, 1, none⟩ y).setCell ⟨g, 2, none⟩ z) :=
 h _ ⟨blk_put3 hK⟩ ⟨fun _ _ hn ho => (Below.heap_setCell _ _ _ _ hn).trans ((Below.heap_setCell _ _ _ _ hn).trans ((Below.heap_setCell _ _ _ _ hn).trans ho))⟩ ⟨fun _ hg hb => below_put3 hb hg⟩
theorem PCu {w a b : World} [u : Up a b] {A0 : Option Addr} {c0 : Nat} {p0 : List S69} {A1 : Option Addr} {c1 : Nat} {p1 : List ByteArray} {A2 : Option Addr} {c2 : Nat} {p2 : List S28} (h : Aside0 (PC w A0 c0 p0 A1 c1 p1 A2 c2 p2)) (hb : Aside0 (Below w.heap.size w a)) : Aside0 (PC b A0 c0 p0 A1 c1 p1 A2 c2 p2) := PC_below h (ul hb.out)
theorem cSame {k : Nat} {p r : S28} {t : Bool} {w : World} {a0 a1 a2 b0 b1 b2 : Option Addr} {a0' a1' a2' b0' b1' b2' : Nat} (HP : Aside0 (PC w a0 a0' p.f0 a1 a1' p.f1 a2 a2' p.f2)) (HQ : Aside0 (PC w b0 b0' r.f0 b1 b1' r.f1 b2 b2' r.f2)) (h : impl_PartSame.f k p.f0 p.f1 p.f2 r.f0 r.f1 r.f2 = some t) :
  Calls Tryz.prog 21 #[.agg #[.slice a0 p.f0.length a0', .slice a1 p.f1.length a1', .slice a2 p.f2.length a2'], .agg #[.slice b0 r.f0.length b0', .slice b1 r.f1.length b1', .slice b2 r.f2.length b2']] w fun e w' => e = .returned (.bool t) ∧ Below w.heap.size w w' :=
 impl_PartSame.calls HP.out.1 HP.out.2.1 HP.out.2.2.1 HP.out.2.2.2.1 HP.out.2.2.2.2.1 HP.out.2.2.2.2.2 HQ.out.1 HQ.out.2.1 HQ.out.2.2.1 HQ.out.2.2.2.1 HQ.out.2.2.2.2.1 HQ.out.2.2.2.2.2 h
theorem cSameS {k : Nat} {p r : S28} {t : Bool} {w : World} {a0 a1 a2 b0 b1 b2 : Option Addr} {a0' a1' a2' b0' b1' b2' : Nat} (HP : Aside0 (PC w a0 a0' p.f0 a1 a1' p.f1 a2 a2' p.f2)) (HQ : Aside0 (PC w b0 b0' r.f0 b1 b1' r.f1 b2 b2' r.f2)) (h : spec_PartSame.f k p.f0 p.f1 p.f2 r.f0 r.f1 r.f2 = some t) :
  Calls Tryz.prog 28 #[.agg #[.slice a0 p.f0.length a0', .slice a1 p.f1.length a1', .slice a2 p.f2.length a2'], .agg #[.slice b0 r.f0.length b0', .slice b1 r.f1.length b1', .slice b2 r.f2.length b2']] w fun e w' => e = .returned (.bool t) ∧ Below w.heap.size w w' :=
 spec_PartSame.calls HP.out.1 HP.out.2.1 HP.out.2.2.1 HP.out.2.2.2.1 HP.out.2.2.2.2.1 HP.out.2.2.2.2.2 HQ.out.1 HQ.out.2.1 HQ.out.2.2.1 HQ.out.2.2.2.1 HQ.out.2.2.2.2.1 HQ.out.2.2.2.2.2 h
theorem cValid {k : Nat} {p : S28} {t : Bool} {w : World} {a0 a1 a2 : Option Addr} {a0' a1' a2' : Nat} (HP : Aside0 (PC w a0 a0' p.f0 a1 a1' p.f1 a2 a2' p.f2)) (hg : MaxOk w) (h : impl_PartValid.f k p.f0 p.f1 p.f2 = some t) :
  Calls Tryz.prog 26 #[.agg #[.slice a0 p.f0.length a0', .slice a1 p.f1.length a1', .slice a2 p.f2.length a2']] w fun e w' => e = .returned (.bool t) ∧ Below w.heap.size w w' :=
 impl_PartValid.calls HP.out.1 HP.out.2.1 HP.out.2.2.1 HP.out.2.2.2.1 HP.out.2.2.2.2.1 HP.out.2.2.2.2.2 hg h
set_option maxHeartbeats 8000000 in
set_option maxRecDepth 100000 in
theorem laws_FnPartSame.calls (k : Nat) (A0 : Option Addr) (c0 : Nat) (l0 : List Int) (w : World) (hr0 : Kd.C (Kd.int .u8) w A0 l0.length l0) (hc0 : l0.length ≤ c0) (hg_ : MaxOk w) (h : laws_FnPartSame.Ok k l0) :
  Calls Tryz.prog 5 #[.slice A0 l0.length c0] w fun e w' => e = .returned (.bool true) ∧ Below w.heap.size w w' := by
 have hu28 := Tryz.underlying28
 have HR0 := ak hr0
 have HC0 := ak hc0
 have HG := ak hg_
 clear hr0 hc0 hg_
 have HB := ak (Below.refl w.heap.size w)
 rcases h with h | ⟨h, p, r, t, v, e1, e2, e3, e4, e5, h6⟩
 ·
  have c4b0 : decide (1048576 < (l0.length : Int)) = true := decide_eq_true h
  have c4b1 : decide (1048576 < l0.length) = true := decide_eq_true (by omega)
  clear h
  go_enter Tryz.func5, Tryz.ntmps5
  go_wp2
  go_ret
  exact ⟨rfl, ul HB.out⟩
 have c4b0 : decide (1048576 < (l0.length : Int)) = false := decide_eq_false h
 have c4b1 : decide (1048576 < l0.length) = false := decide_eq_false (by omega)
 clear h
 have E1 := ak e1
 have E2 := ak e2
 have E3 := ak e3
 have E4 := ak e4
 have E5 := ak e5
 have H6 := ak h6
 clear e1 e2 e3 e4 e5 h6
 go_enter Tryz.func5, Tryz.ntmps5
 go_upto_region 4 with (first | (go_at_call 27; (with_reducible refine (spec_DrawPartSame.calls (cu HR0.out) HC0.out E1.out).mono ?_); rintro e w1 ⟨x0_, x1_, x2_, y0_, y1_, y2_, rfl, h0, h1, h2, h3, h4, h5, hb⟩; obtain ⟨P_0, P_1, P_2, P_3, P_4, P_5, rfl, rfl, rfl, HP⟩ := PC_of h0 h1 h2; obtain ⟨R_0, R_1, R_2, R_3, R_4, R_5, rfl, rfl, rfl, HQ⟩ := PC_of h3 h4 h5; replace HB := bs HB hb; have H1 := ak (Below.refl w1.heap.size w1); clear h0 h1 h2 h3 h4 h5 hb) | (refine bY HB 3 #[.slice none 0 0, .slice none 0 0, .slice none 0 0] 28 ?_; intro ga w2 BKa GWa hg hb; have G1a := ge_ H1 hg; replace HB := bs HB hb; replace H1 := bs H1 hb; clear hb hg) | (refine bY HB 4 #[.slice none 0 0, .slice none 0 0, .slice none 0 0] 28 ?_; intro gc w3 BKc GWc hg hb; have G1c := ge_ H1 hg; have NBac := nl_ BKa hg; have NBca := ng_ BKa hg; replace BKa := kb BKa hb; replace HB := bs HB hb; replace H1 := bs H1 hb; clear hb hg; have hnb := NBac.out; have hnc := NBca.out; have za := cz3 BKa.out; have zc := cz3 BKc.out))
 (try simp only [Act.put, l_a, l_b, l_c])
 refine ab3 BKc ?_
 intro w4 BKd hk hs
 have BKb := ak (hk.out ga (.cells #[.slice P_0 p.f0.length P_1, .slice P_2 p.f1.length P_3, .slice P_4 p.f2.length P_5] 28 (0, 0)) NBac.out bq)
 replace HB := ak (hs.out w GWc.out bb)
 replace H1 := ak (hs.out w1 G1c.out bb)
 clear hk hs BKa BKc za zc
 have BKa := BKb
 have BKc := BKd
 clear BKb BKd
 have za := cz3 BKa.out
 have zc := cz3 BKc.out
 rcases H6.out with rfl | ⟨rfl, e7, e8⟩
 ·
  clear H6
  go_upto_region 5 with (first | (go_at_call 21; (with_reducible refine mB (cSame (PCu HP H1) (PCu HQ H1) E2.out) ?_); intro w5 hb; replace BKa := kb BKa hb; replace BKc := kb BKc hb; replace HB := bs HB hb; replace H1 := bs H1 hb; clear hb; have za := cz3 BKa.out; have zc := cz3 BKc.out))
  (try simp only [Act.put, l_a, l_b, l_c])
  refine rO [3, 9, 15] [0, 1, 2, 3, 4, 5, 6, 7, 8, 9, 10, 11, 12, 13, 14, 15, 16, 17, 18, 19, 20, 21, 23, 22, 24, 25, 26, 27, 28] (fun w' => w'.cell? ⟨ga, 0, none⟩ = some (.slice P_0 p.f0.length P_1) ∧ w'.cell? ⟨ga, 1, none⟩ = some (.slice P_2 p.f1.length P_3) ∧ w'.cell? ⟨ga, 2, none⟩ = some (.slice P_4 p.f2.length P_5) ∧ w'.cell? ⟨gc, 0, none⟩ = some (.slice R_0 r.f0.length R_1) ∧ w'.cell? ⟨gc, 1, none⟩ = some (.slice R_2 r.f1.length R_3) ∧ w'.cell? ⟨gc, 2, none⟩ = some (.slice R_4 r.f2.length R_5)) ?_
  intro w6 hb
  replace BKa := kb BKa hb; replace BKc := kb BKc hb; replace HB := bs HB hb; replace H1 := bs H1 hb; clear hb; have za := cz3 BKa.out; have zc := cz3 BKc.out
  refine ⟨sx, ?_⟩
  repeat (first | refine lo_ ?_ | refine lg_ ?_)
  refine rB Tryz.func28 (cSameS (PCu HP H1) (PCu HQ H1) E3.out) ?_
  intro w6 hb
  replace BKa := kb BKa hb; replace BKc := kb BKc hb; replace HB := bz HB hb; replace H1 := bz H1 hb; clear hb; have za := cz3 BKa.out; have zc := cz3 BKc.out
  refine ⟨sx, ?_⟩
  repeat (first | refine lo_ ?_ | refine lg_ ?_)
  refine rB Tryz.func21 (cSame (PCu HQ H1) (PCu HP H1) E4.out) ?_
  intro w6 hb
  replace BKa := kb BKa hb; replace BKc := kb BKc hb; replace HB := bz HB hb; replace H1 := bz H1 hb; clear hb; have za := cz3 BKa.out; have zc := cz3 BKc.out
  refine ⟨sx, ?_⟩
  repeat (first | refine lo_ ?_ | refine lg_ ?_)
  refine rB Tryz.func21 (cSame (PCu HP H1) (PCu HP H1) E5.out) ?_
  intro w6 hb
  replace BKa := kb BKa hb; replace BKc := kb BKc hb; replace HB := bz HB hb; replace H1 := bz H1 hb; clear hb; have za := cz3 BKa.out; have zc := cz3 BKc.out
  refine ⟨sx, ?_⟩
  repeat (first | refine lo_ ?_ | refine lg_ ?_)
  refine on ?_
  go_wp2
  go_ret
  exact ⟨rfl, ul HB.out⟩
 ·
  clear H6
  have E7 := ak e7
  have E8 := ak e8
  clear e7 e8
  go_upto_region 5 with (first | (go_at_call 21; (with_reducible refine mB (cSame (PCu HP H1) (PCu HQ H1) E2.out) ?_); intro w5 hb; replace BKa := kb BKa hb; replace BKc := kb BKc hb; replace HB := bs HB hb; replace H1 := bs H1 hb; clear hb; have za := cz3 BKa.out; have zc := cz3 BKc.out))
  (try simp only [Act.put, l_a, l_b, l_c])
  refine rO [3, 9, 15, 22, 24] [0, 1, 2, 3, 4, 5, 6, 7, 8, 9, 10, 11, 12, 13, 14, 15, 16, 17, 18, 19, 20, 21, 23, 22, 24, 25, 26, 27, 28] (fun w' => w'.cell? ⟨ga, 0, none⟩ = some (.slice P_0 p.f0.length P_1) ∧ w'.cell? ⟨ga, 1, none⟩ = some (.slice P_2 p.f1.length P_3) ∧ w'.cell? ⟨ga, 2, none⟩ = some (.slice P_4 p.f2.length P_5) ∧ w'.cell? ⟨gc, 0, none⟩ = some (.slice R_0 r.f0.length R_1) ∧ w'.cell? ⟨gc, 1, none⟩ = some (.slice R_2 r.f1.length R_3) ∧ w'.cell? ⟨gc, 2, none⟩ = some (.slice R_4 r.f2.length R_5)) ?_
  intro w6 hb
  replace BKa := kb BKa hb; replace BKc := kb BKc hb; replace HB := bs HB hb; replace H1 := bs H1 hb; clear hb; have za := cz3 BKa.out; have zc := cz3 BKc.out
  refine ⟨sx, ?_⟩
  repeat (first | refine lo_ ?_ | refine lg_ ?_)
  refine rB Tryz.func28 (cSameS (PCu HP H1) (PCu HQ H1) E3.out) ?_
  intro w6 hb
  replace BKa := kb BKa hb; replace BKc := kb BKc hb; replace HB := bz HB hb; replace H1 := bz H1 hb; clear hb; have za := cz3 BKa.out; have zc := cz3 BKc.out
  refine ⟨sx, ?_⟩
  repeat (first | refine lo_ ?_ | refine lg_ ?_)
  refine rB Tryz.func21 (cSame (PCu HQ H1) (PCu HP H1) E4.out) ?_
  intro w6 hb
  replace BKa := kb BKa hb; replace BKc := kb BKc hb; replace HB := bz HB hb; replace H1 := bz H1 hb; clear hb; have za := cz3 BKa.out; have zc := cz3 BKc.out
  refine ⟨sx, ?_⟩
  repeat (first | refine lo_ ?_ | refine lg_ ?_)
  refine rB Tryz.func21 (cSame (PCu HP H1) (PCu HP H1) E5.out) ?_
  intro w6 hb
  replace BKa := kb BKa hb; replace BKc := kb BKc hb; replace HB := bz HB hb; replace H1 := bz H1 hb; clear hb; have za := cz3 BKa.out; have zc := cz3 BKc.out
  refine ⟨sx, ?_⟩
  repeat (first | refine lo_ ?_ | refine lg_ ?_)
  refine rB Tryz.func26 (cValid (PCu HP H1) (MaxOk.below HG.out bb) E7.out) ?_
  intro w6 hb
  replace BKa := kb BKa hb; replace BKc := kb BKc hb; replace HB := bz HB hb; replace H1 := bz H1 hb; clear hb; have za := cz3 BKa.out; have zc := cz3 BKc.out
  refine ⟨sx, ?_⟩
  repeat (first | refine lo_ ?_ | refine lg_ ?_)
  refine rB Tryz.func26 (cValid (PCu HQ H1) (MaxOk.below HG.out bb) E8.out) ?_
  intro w6 hb
  replace BKa := kb BKa hb; replace BKc := kb BKc hb; replace HB := bz HB hb; replace H1 := bz H1 hb; clear hb; have za := cz3 BKa.out; have zc := cz3 BKc.out
  refine ⟨sx, ?_⟩
  repeat (first | refine lo_ ?_ | refine lg_ ?_)
  refine on ?_
  go_wp2
  go_ret
  exact ⟨rfl, ul HB.out⟩
def laws_FnPartSame.Pure : Prop := ∀ (l0 : List Int), l0.length ≤ maxLen → l0.length * 1 ≤ 140737488351232 → (∀ x ∈ l0, (Lit.int .u8 x).wf = true) → ∃ k, laws_FnPartSame.Ok k l0
theorem laws_FnPartSame.walk (P : laws_FnPartSame.Pure) (a0 : Option Addr) (len0 cap0 : Nat) (z0 : List Int) (w : World) (w0 : (a0 = none ∧ len0 = 0 ∧ cap0 = 0 ∧ z0 = []) ∨ ∃ x, a0 = some x ∧ len0 ≤ cap0 ∧ cap0 ≤ maxLen ∧ z0.length = cap0 ∧ (∀ i, i < z0.length → w.cell? (x.add i) = some (.int .u8 (z0.getD i 0))) ∧ ∀ n ∈ z0, (Lit.int .u8 n).wf = true) (y0 : len0 * 1 ≤ 140737488351232) (hg_ : MaxOk w) :
  Calls Tryz.prog 5 #[.slice a0 len0 cap0] w fun e w' => e = .returned (.bool true) ∧ Below w.heap.size w w' := by
 obtain ⟨l0, rfl, hr0, hm0, hw0, hc0⟩ := ReadsInt.ofRowC w0
 obtain ⟨k, h⟩ := P l0 hm0 y0 hw0
 exact laws_FnPartSame.calls k _ _ _ _ (Kd.C_of_reads (d := (0 : Int)) (h1 := fun _ => rfl) hr0) hc0 hg_ h
end Go.Proofs.YtncdadcmghglkaaGreatDoor.PFnPartSame
