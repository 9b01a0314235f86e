/- Proved by hand: the walk of the law FnExactCountParts over the contracts of what it calls; conditions: those in each statement. -/
import Derived.Test.YtncdadcmghglkaaGreatDoorPFnExactCountPartsx0
import Derived.Test.YtncdadcmghglkaaGreatDoorPFnExactCountPartsx1
import Derived.Test.YtncdadcmghglkaaGreatDoorPFnExactCountPartsx2
import Derived.Test.YtncdadcmghglkaaGreatDoorPFnExactCountPartsx3
import Derived.Test.YtncdadcmghglkaaGreatDoorPFnExactCountPartsx4
import Derived.Test.YtncdadcmghglkaaGreatDoorPFnExactCountPartsx5
import Derived.Test.YtncdadcmghglkaaGreatDoorPFnExactCountPartsx6
import Derived.Test.YtncdadcmghglkaaGreatDoorPFnExactCountPartsx7
import Derived.Test.YtncdadcmghglkaaGreatDoorPFnExactCountPartsx8
import Derived.Test.YtncdadcmghglkaaGreatDoorPFnExactCountPartsx9
import Derived.Test.YtncdadcmghglkaaGreatDoorPFnExactCountPartsx10
import Derived.Test.YtncdadcmghglkaaGreatDoorPFnExactCountPartsx11
import Derived.Test.YtncdadcmghglkaaGreatDoorPFnExactCountPartsx12
import Derived.Test.YtncdadcmghglkaaGreatDoorPFnExactCountPartsx13
import Derived.Test.YtncdadcmghglkaaGreatDoorPFnExactCountPartsx14
import Derived.Test.YtncdadcmghglkaaGreatDoorPFnExactCountPartsx15
import Derived.Test.YtncdadcmghglkaaGreatDoorPFnExactCountPartsx16
import Derived.Test.YtncdadcmghglkaaGreatDoorPFnExactCountPartsx17
import Derived.Test.YtncdadcmghglkaaGreatDoorPFnExactCountPartsx18
import Derived.Test.YtncdadcmghglkaaGreatDoorPFnExactCountPartsx19
import Derived.Test.YtncdadcmghglkaaGreatDoorPFnExactCountPartsx20
import Derived.Test.YtncdadcmghglkaaGreatDoorPFnExactCountPartsx21
import Derived.Test.YtncdadcmghglkaaGreatDoorPFnExactCountPartsx22
import Derived.Test.YtncdadcmghglkaaGreatDoorPFnExactCountPartsx23
import Derived.Test.YtncdadcmghglkaaGreatDoorPFnExactCountPartsx24
import Derived.Test.YtncdadcmghglkaaGreatDoorVFnExactCountPartsRt
-- by hand
-- dense
namespace Go.Proofs.YtncdadcmghglkaaGreatDoor.PFnExactCountParts
open Go.RowKit Go.Proofs.YtncdadcmghglkaaGreatDoor.X Go.Proofs.YtncdadcmghglkaaGreatDoorW.PrintWords Go.Proofs.YtncdadcmghglkaaGreatDoorW.PrintLast Go.Proofs.YtncdadcmghglkaaGreatDoorW.PrintMore
attribute [local go_sem] max2_int min2_int max_two min_two max_three min_three max_four min_four   -- for this text's walks alone
set_option linter.unusedVariables false
set_option linter.unusedSimpArgs false
/-- What is known of a part's three rows in a world. -/
abbrev PC (w : World) (A0 : Option Addr) (c0 : Nat) (p0 : List S69) (A1 : Option Addr) (c1 : Nat) (p1 : List ByteArray) (A2 : Option Addr) (c2 : Nat) (p2 : List S28) : Prop :=
 Kd.C k69 w A0 p0.length p0 ∧ p0.length ≤ c0 ∧ Kd.C Kd.string w A1 p1.length p1 ∧ p1.length ≤ c1 ∧ Kd.C k28 w A2 p2.length p2 ∧ p2.length ≤ c2
theorem PC_below {w w' : World} {A0 : Option Addr} {c0 : Nat} {p0 : List S69} {A1 : Option Addr} {c1 : Nat} {p1 : List ByteArray} {A2 : Option Addr} {c2 : Nat} {p2 : List S28} (h : Aside0 (PC w A0 c0 p0 A1 c1 p1 A2 c2 p2)) (hb : Below w.heap.size w w') : Aside0 (PC w' A0 c0 p0 A1 c1 p1 A2 c2 p2) :=
 ⟨Kd.C_below h.out.1 hb, h.out.2.1, Kd.C_below h.out.2.2.1 hb, h.out.2.2.2.1, Kd.C_below h.out.2.2.2.2.1 hb, h.out.2.2.2.2.2⟩
abbrev QC (w : World) (A0 : Option Addr) (c0 : Nat) (p0 : List S120) (A1 : Option Addr) (c1 : Nat) (p1 : List ByteArray) (A2 : Option Addr) (c2 : Nat) (p2 : List S44) : Prop :=
 Kd.C k120 w A0 p0.length p0 ∧ p0.length ≤ c0 ∧ Kd.C Kd.string w A1 p1.length p1 ∧ p1.length ≤ c1 ∧ Kd.C k44 w A2 p2.length p2 ∧ p2.length ≤ c2
theorem QC_below {w w' : World} {A0 : Option Addr} {c0 : Nat} {p0 : List S120} {A1 : Option Addr} {c1 : Nat} {p1 : List ByteArray} {A2 : Option Addr} {c2 : Nat} {p2 : List S44} (h : Aside0 (QC w A0 c0 p0 A1 c1 p1 A2 c2 p2)) (hb : Below w.heap.size w w') : Aside0 (QC w' A0 c0 p0 A1 c1 p1 A2 c2 p2) :=
 ⟨Kd.C_below h.out.1 hb, h.out.2.1, Kd.C_below h.out.2.2.1 hb, h.out.2.2.2.1, Kd.C_below h.out.2.2.2.2.1 hb, h.out.2.2.2.2.2⟩
theorem PC_of {w : World} {base : Nat} {ok0 ok1 ok2 : Nat → Prop} {v0 v1 v2 : Value} {p0 : List S69} {p1 : List ByteArray} {p2 : List S28} (h0 : Kd.R k69 69 w base ok0 v0 p0) (h1 : Kd.R Kd.string 9 w base ok1 v1 p1) (h2 : Kd.R k28 28 w base ok2 v2 p2) :
  ∃ A0 c0 A1 c1 A2 c2, v0 = .slice A0 p0.length c0 ∧ v1 = .slice A1 p1.length c1 ∧ v2 = .slice A2 p2.length c2 ∧ Aside0 (PC w A0 c0 p0 A1 c1 p1 A2 c2 p2) := by
 obtain ⟨A0, c0, rfl⟩ := Kd.R_slice h0
 obtain ⟨A1, c1, rfl⟩ := Kd.R_slice h1
 obtain ⟨A2, c2, rfl⟩ := Kd.R_slice h2
 exact ⟨A0, c0, A1, c1, A2, c2, rfl, rfl, rfl, ⟨(Kd.R_reads' h0).2.2, (Kd.R_reads' h0).2.1, (Kd.R_reads' h1).2.2, (Kd.R_reads' h1).2.1, (Kd.R_reads' h2).2.2, (Kd.R_reads' h2).2.1⟩⟩
/-- What is read of a box of three cells. -/
theorem cx3 {w : World} {g t : Nat} {a b c : Value} (h : w.heap[g]? = some (.cells #[a, b, c] t (0, 0))) : w.cell? ⟨g, 0, none⟩ = some a ∧ w.cell? ⟨g, 1, none⟩ = some b ∧ w.cell? ⟨g, 2, none⟩ = some c :=
 ⟨(blk_cell h 0).trans rfl, (blk_cell h 1).trans rfl, (blk_cell h 2).trans rfl⟩
theorem below_put3 {w W : World} {g : Nat} {u0 u1 u2 : Value} (h : Below w.heap.size w W) (hg : w.heap.size ≤ g) : Below w.heap.size w (((W.setCell ⟨g, 0, none⟩ u0).setCell ⟨g, 1, none⟩ u1).setCell ⟨g, 2, none⟩ u2) := below_set (below_set (below_set h hg) hg) hg
theorem blk_put3 {w : World} {g t : Nat} {a b c u0 u1 u2 : Value} (h : w.heap[g]? = some (.cells #[a, b, c] t (0, 0))) : (((w.setCell ⟨g, 0, none⟩ u0).setCell ⟨g, 1, none⟩ u1).setCell ⟨g, 2, none⟩ u2).heap[g]? = some (.cells #[u0, u1, u2] t (0, 0)) := blk_put (blk_put (blk_put h 0 u0 rfl) 1 u1 rfl) 2 u2 rfl
def laws_FnExactCountParts.Ok (k : Nat) (x : S44) : Prop :=
 ∃ v, laws_szPart.f k x.f0 x.f1 x.f2 1048576 = some v ∧ (v < 0 ∨ ¬ v < 0 ∧ ∃ (p : S28) (b : Int), laws_toPart.f k x.f0 x.f1 x.f2 = some (p.f0, p.f1, p.f2) ∧ spec_CountParts.f k p.f0 p.f1 p.f2 = some b ∧ impl_CountParts.f k p.f0 p.f1 p.f2 = some b ∧ laws_eqPart.f k p.f0 p.f1 p.f2 p.f0 p.f1 p.f2 = some true)
set_option maxHeartbeats 8000000 in
set_option maxRecDepth 100000 in
theorem laws_FnExactCountParts.calls (k : Nat) (A0 : Option Addr) (c0 : Nat) (A1 : Option Addr) (c1 : Nat) (A2 : Option Addr) (c2 : Nat) (x : S44) (_r : Bool) (w : World) (hx : Aside0 (QC w A0 c0 x.f0 A1 c1 x.f1 A2 c2 x.f2)) (hm : Aside0 (MaxOk w)) (h : laws_FnExactCountParts.Ok k x) :
  Calls Tryz.prog 7 #[.agg #[.slice A0 x.f0.length c0, .slice A1 x.f1.length c1, .slice A2 x.f2.length c2]] w fun e w' => e = .returned (.bool true) ∧ Below w.heap.size w w' := by
 obtain ⟨v, e1, h2⟩ := h
 have E1 := Aside0.mk e1
 clear e1
 have B := Aside0.mk (Below.refl w.heap.size w)
 rcases h2 with h2 | ⟨h2, p, b, e3, e4, e5, e6⟩
 ·
  have c3b0 : decide (v < 0) = true := decide_eq_true h2
  clear h2
  go_enter Tryz.func7, Tryz.ntmps7
  go_wp2_with (first | ((with_reducible refine gate_dst (N := 1) rfl ?_); refine box_event ?hg (N := 1) ?hd (cs := #[.slice A0 x.f0.length c0, .slice A1 x.f1.length c1, .slice A2 x.f2.length c2]) (t := 44) ?hr ?_; (case hd => rfl); (case hg => rfl); (case hr => first | (go_simp; done) | (go_simp; rfl)); intro ga hg_ wa hbox hb; have B := Aside0.mk (below_step B.out hb); have BA := Aside0.mk hbox; have EA := Aside0.mk (Below.refl wa.heap.size wa); obtain ⟨a0_, a1_, a2_⟩ := cx3 BA.out; clear hb hbox hg_))
  go_wp2_with (first | (go_at_call 29; (with_reducible refine ((laws_szPart.pair k).1 _ _ x.f0 _ _ x.f1 _ _ x.f2 1048576 v _ (QC_below hx B.out).out.1 (QC_below hx B.out).out.2.1 (QC_below hx B.out).out.2.2.1 (QC_below hx B.out).out.2.2.2.1 (QC_below hx B.out).out.2.2.2.2.1 (QC_below hx B.out).out.2.2.2.2.2 E1.out).mono ?_); rintro e w_ ⟨rfl, hb⟩; have B := Aside0.mk (below_step B.out hb); have EA := Aside0.mk (below_step EA.out hb); clear a0_ a1_ a2_; obtain ⟨a0_, a1_, a2_⟩ := cx3 (blk_below BA.out EA.out); clear hb))
  go_ret
  exact ⟨rfl, B.out⟩
 have c3b0 : decide (v < 0) = false := decide_eq_false h2
 have cb : (b != b) = false := by simp
 have E3 := Aside0.mk e3
 have E4 := Aside0.mk e4
 have E5 := Aside0.mk e5
 have E6 := Aside0.mk e6
 clear h2 e3 e4 e5 e6
 go_enter Tryz.func7, Tryz.ntmps7
 go_wp2_with (first | ((with_reducible refine gate_dst (N := 1) rfl ?_); refine box_event ?hg (N := 1) ?hd (cs := #[.slice A0 x.f0.length c0, .slice A1 x.f1.length c1, .slice A2 x.f2.length c2]) (t := 44) ?hr ?_; (case hd => rfl); (case hg => rfl); (case hr => first | (go_simp; done) | (go_simp; rfl)); intro ga hg_ wa hbox hb; have B := Aside0.mk (below_step B.out hb); have BA := Aside0.mk hbox; have EA := Aside0.mk (Below.refl wa.heap.size wa); obtain ⟨a0_, a1_, a2_⟩ := cx3 BA.out; clear hb hbox hg_))
 go_wp2_with (first | (go_at_call 29; (with_reducible refine ((laws_szPart.pair k).1 _ _ x.f0 _ _ x.f1 _ _ x.f2 1048576 v _ (QC_below hx B.out).out.1 (QC_below hx B.out).out.2.1 (QC_below hx B.out).out.2.2.1 (QC_below hx B.out).out.2.2.2.1 (QC_below hx B.out).out.2.2.2.2.1 (QC_below hx B.out).out.2.2.2.2.2 E1.out).mono ?_); rintro e w_ ⟨rfl, hb⟩; have B := Aside0.mk (below_step B.out hb); have EA := Aside0.mk (below_step EA.out hb); clear a0_ a1_ a2_; obtain ⟨a0_, a1_, a2_⟩ := cx3 (blk_below BA.out EA.out); clear hb))
 go_wp2_with (first | (go_at_call 31; (with_reducible refine ((laws_toPart.pair k).1 _ _ x.f0 _ _ x.f1 _ _ x.f2 p.f0 p.f1 p.f2 _ (QC_below hx B.out).out.1 (QC_below hx B.out).out.2.1 (QC_below hx B.out).out.2.2.1 (QC_below hx B.out).out.2.2.2.1 (QC_below hx B.out).out.2.2.2.2.1 (QC_below hx B.out).out.2.2.2.2.2 E3.out).mono ?_); rintro e w_ ⟨x0_, x1_, x2_, rfl, h0, h1, h2, hb⟩; have B := Aside0.mk (below_step B.out hb); have EA := Aside0.mk (below_step EA.out hb); clear a0_ a1_ a2_; obtain ⟨a0_, a1_, a2_⟩ := cx3 (blk_below BA.out EA.out); obtain ⟨U_0, U_1, U_2, U_3, U_4, U_5, rfl, rfl, rfl, U⟩ := PC_of h0 h1 h2; have DU := Aside0.mk (Below.refl w_.heap.size w_); clear h0 h1 h2; clear hb))
 go_wp2_with (first | (go_at_call 33; (with_reducible refine (spec_CountParts.calls k _ _ p.f0 _ _ p.f1 _ _ p.f2 b _ (PC_below U DU.out).out.1 (PC_below U DU.out).out.2.1 (PC_below U DU.out).out.2.2.1 (PC_below U DU.out).out.2.2.2.1 (PC_below U DU.out).out.2.2.2.2.1 (PC_below U DU.out).out.2.2.2.2.2 E4.out).mono ?_); rintro e w_ ⟨rfl, hb⟩; have B := Aside0.mk (below_step B.out hb); have EA := Aside0.mk (below_step EA.out hb); have DU := Aside0.mk (below_step DU.out hb); clear a0_ a1_ a2_; obtain ⟨a0_, a1_, a2_⟩ := cx3 (blk_below BA.out EA.out); clear hb))
 go_wp2_with (first | (go_at_call 31; (with_reducible refine ((laws_toPart.pair k).1 _ _ x.f0 _ _ x.f1 _ _ x.f2 p.f0 p.f1 p.f2 _ (QC_below hx B.out).out.1 (QC_below hx B.out).out.2.1 (QC_below hx B.out).out.2.2.1 (QC_below hx B.out).out.2.2.2.1 (QC_below hx B.out).out.2.2.2.2.1 (QC_below hx B.out).out.2.2.2.2.2 E3.out).mono ?_); rintro e w_ ⟨x0_, x1_, x2_, rfl, h0, h1, h2, hb⟩; have B := Aside0.mk (below_step B.out hb); have EA := Aside0.mk (below_step EA.out hb); clear a0_ a1_ a2_; obtain ⟨a0_, a1_, a2_⟩ := cx3 (blk_below BA.out EA.out); obtain ⟨P_0, P_1, P_2, P_3, P_4, P_5, rfl, rfl, rfl, P⟩ := PC_of h0 h1 h2; have DP := Aside0.mk (Below.refl w_.heap.size w_); clear h0 h1 h2; clear hb) | ((with_reducible refine gate_dst (N := 5) rfl ?_); refine box_event ?hg (N := 5) ?hd (cs := #[.slice none 0 0, .slice none 0 0, .slice none 0 0]) (t := 28) ?hr ?_; (case hd => rfl); (case hg => rfl); (case hr => first | (go_simp; done) | (go_simp; rfl)); intro gp hg_ wp hbox hb; have GB_P := (by rw [hg_]; exact below_size B.out : _ ≤ gp); have GEA_P := (by rw [hg_]; exact below_size EA.out : _ ≤ gp); have GDP_P := (by rw [hg_]; exact below_size DP.out : _ ≤ gp); have B := Aside0.mk (below_step B.out hb); have EA := Aside0.mk (below_step EA.out hb); have DP := Aside0.mk (below_step DP.out hb); clear a0_ a1_ a2_; obtain ⟨a0_, a1_, a2_⟩ := cx3 (blk_below BA.out EA.out); have BP := Aside0.mk hbox; have EP := Aside0.mk (Below.refl wp.heap.size wp); obtain ⟨p0_, p1_, p2_⟩ := cx3 BP.out; have fz0_ := blk_frozen hbox 0; have fz1_ := blk_frozen hbox 1; have fz2_ := blk_frozen hbox 2; clear hb hbox hg_) | ((with_reducible refine gate_store (t := 28) (p := 5) rfl ?_); refine store_event (t := 28) (p := 5) (v := ?vo_p) (w1 := ((wp.setCell ⟨gp, 0, none⟩ (.slice P_0 p.f0.length P_1)).setCell ⟨gp, 1, none⟩ (.slice P_2 p.f1.length P_3)).setCell ⟨gp, 2, none⟩ (.slice P_4 p.f2.length P_5)) ?hg ?ho ?hn ?hr ?_; (case ho => rfl); (case hg => rfl); (case hn => rfl); (case hr => first | (go_simp; done) | (go_simp; rfl)); intro w_ hw; have B := Aside0.mk (by rw [hw]; exact below_put3 B.out GB_P : Below _ _ w_); have EA := Aside0.mk (by rw [hw]; exact below_put3 EA.out GEA_P : Below _ _ w_); have DP := Aside0.mk (by rw [hw]; exact below_put3 DP.out GDP_P : Below _ _ w_); have BP := Aside0.mk (by rw [hw]; exact blk_put3 (blk_below BP.out EP.out) : w_.heap[gp]? = some (.cells #[.slice P_0 p.f0.length P_1, .slice P_2 p.f1.length P_3, .slice P_4 p.f2.length P_5] 28 (0, 0))); have EP := Aside0.mk (Below.refl w_.heap.size w_); clear hw fz0_ fz1_ fz2_ a0_ a1_ a2_ p0_ p1_ p2_; obtain ⟨a0_, a1_, a2_⟩ := cx3 (blk_below BA.out EA.out); obtain ⟨p0_, p1_, p2_⟩ := cx3 (blk_below BP.out EP.out)))
 go_wp2_with (first | (go_at_call 34; (with_reducible refine (impl_CountParts.calls k _ _ p.f0 _ _ p.f1 _ _ p.f2 b _ (PC_below P DP.out).out.1 (PC_below P DP.out).out.2.1 (PC_below P DP.out).out.2.2.1 (PC_below P DP.out).out.2.2.2.1 (PC_below P DP.out).out.2.2.2.2.1 (PC_below P DP.out).out.2.2.2.2.2 (MaxOk.below hm.out B.out) E5.out).mono ?_); rintro e w_ ⟨rfl, hb⟩; have B := Aside0.mk (below_step B.out hb); have EA := Aside0.mk (below_step EA.out hb); have DP := Aside0.mk (below_step DP.out hb); have EP := Aside0.mk (below_step EP.out hb); clear a0_ a1_ a2_ p0_ p1_ p2_; obtain ⟨a0_, a1_, a2_⟩ := cx3 (blk_below BA.out EA.out); obtain ⟨p0_, p1_, p2_⟩ := cx3 (blk_below BP.out EP.out); clear hb) | (refine reg_ [0, 1, 2, 3, 4] (by kernel_rfl) (by kernel_rfl) (fun _ _ d _ _ h => by cases d <;> exact h) (fun wd hb RS => ?_); have B := Aside0.mk (below_step B.out hb); have EA := Aside0.mk (below_step EA.out hb); have DP := Aside0.mk (below_step DP.out hb); have EP := Aside0.mk (below_step EP.out hb); clear a0_ a1_ a2_ p0_ p1_ p2_; obtain ⟨a0_, a1_, a2_⟩ := cx3 (blk_below BA.out EA.out); obtain ⟨p0_, p1_, p2_⟩ := cx3 (blk_below BP.out EP.out); obtain ⟨sa0_, sa1_, sa2_⟩ := cx3 (blk_below BA.out EA.out); obtain ⟨sp0_, sp1_, sp2_⟩ := cx3 (blk_below BP.out EP.out); clear hb) | (refine reg_ [0, 1, 2, 3, 4, 5] (by kernel_rfl) (by kernel_rfl) (fun _ _ d _ _ h => by cases d <;> exact h) (fun wd hb RS => ?_); have B := Aside0.mk (below_step B.out hb); have EA := Aside0.mk (below_step EA.out hb); have DP := Aside0.mk (below_step DP.out hb); have EP := Aside0.mk (below_step EP.out hb); clear a0_ a1_ a2_ p0_ p1_ p2_; obtain ⟨a0_, a1_, a2_⟩ := cx3 (blk_below BA.out EA.out); obtain ⟨p0_, p1_, p2_⟩ := cx3 (blk_below BP.out EP.out); obtain ⟨sa0_, sa1_, sa2_⟩ := cx3 (blk_below BA.out EA.out); obtain ⟨sp0_, sp1_, sp2_⟩ := cx3 (blk_below BP.out EP.out); clear hb) | (refine ord_nil ?_; clear RS sa0_ sa1_ sa2_ sp0_ sp1_ sp2_) | (refine ord_look (v := ?_) (a' := ?_) (gk.trans rfl) rfl rfl ?_ ?_ ?_; rotate_left; (focus (intro w' hS; have hcell := cell_as hS; clear hS; go_simp; with_reducible rfl)); rotate_left; (focus (simp only [Act.put, List.setIfInBounds_toArray, List.set_cons_zero, List.set_cons_succ]; rfl))) | (refine ord_loud (gk.trans rfl) rfl (fun K_ hK_ => ?_); rw [if_pos (by rfl)]) | (refine Shut.out hK_ _ _ RS.out ?_))
 go_wp2_with (first | (go_at_call 31; (with_reducible refine ((laws_toPart.pair k).1 _ _ x.f0 _ _ x.f1 _ _ x.f2 p.f0 p.f1 p.f2 _ (QC_below hx B.out).out.1 (QC_below hx B.out).out.2.1 (QC_below hx B.out).out.2.2.1 (QC_below hx B.out).out.2.2.2.1 (QC_below hx B.out).out.2.2.2.2.1 (QC_below hx B.out).out.2.2.2.2.2 E3.out).mono ?_); rintro e w_ ⟨x0_, x1_, x2_, rfl, h0, h1, h2, hb⟩; have B := Aside0.mk (below_step B.out hb); have EA := Aside0.mk (below_step EA.out hb); have DP := Aside0.mk (below_step DP.out hb); have EP := Aside0.mk (below_step EP.out hb); have RS := Aside0.mk (below_step RS.out hb); clear a0_ a1_ a2_ p0_ p1_ p2_; obtain ⟨a0_, a1_, a2_⟩ := cx3 (blk_below BA.out EA.out); obtain ⟨p0_, p1_, p2_⟩ := cx3 (blk_below BP.out EP.out); obtain ⟨R_0, R_1, R_2, R_3, R_4, R_5, rfl, rfl, rfl, R⟩ := PC_of h0 h1 h2; have DR := Aside0.mk (Below.refl w_.heap.size w_); clear h0 h1 h2; clear hb) | (refine ord_nil ?_; clear RS sa0_ sa1_ sa2_ sp0_ sp1_ sp2_) | (refine ord_look (v := ?_) (a' := ?_) (gk.trans rfl) rfl rfl ?_ ?_ ?_; rotate_left; (focus (intro w' hS; have hcell := cell_as hS; clear hS; go_simp; with_reducible rfl)); rotate_left; (focus (simp only [Act.put, List.setIfInBounds_toArray, List.set_cons_zero, List.set_cons_succ]; rfl))) | (refine ord_loud (gk.trans rfl) rfl (fun K_ hK_ => ?_); rw [if_pos (by rfl)]) | (refine Shut.out hK_ _ _ RS.out ?_))
 go_wp2_with (first | (go_at_call 32; (with_reducible refine ((laws_eqPart.pair k).1 _ _ p.f0 _ _ p.f1 _ _ p.f2 _ _ p.f0 _ _ p.f1 _ _ p.f2 true _ (PC_below P DP.out).out.1 (PC_below P DP.out).out.2.1 (PC_below P DP.out).out.2.2.1 (PC_below P DP.out).out.2.2.2.1 (PC_below P DP.out).out.2.2.2.2.1 (PC_below P DP.out).out.2.2.2.2.2 (PC_below R DR.out).out.1 (PC_below R DR.out).out.2.1 (PC_below R DR.out).out.2.2.1 (PC_below R DR.out).out.2.2.2.1 (PC_below R DR.out).out.2.2.2.2.1 (PC_below R DR.out).out.2.2.2.2.2 E6.out).mono ?_); rintro e w_ ⟨rfl, hb⟩; have B := Aside0.mk (below_step B.out hb); have EA := Aside0.mk (below_step EA.out hb); have DP := Aside0.mk (below_step DP.out hb); have EP := Aside0.mk (below_step EP.out hb); have DR := Aside0.mk (below_step DR.out hb); have RS := Aside0.mk (below_step RS.out hb); clear a0_ a1_ a2_ p0_ p1_ p2_; obtain ⟨a0_, a1_, a2_⟩ := cx3 (blk_below BA.out EA.out); obtain ⟨p0_, p1_, p2_⟩ := cx3 (blk_below BP.out EP.out); clear hb) | (refine ord_nil ?_; clear RS sa0_ sa1_ sa2_ sp0_ sp1_ sp2_) | (refine ord_look (v := ?_) (a' := ?_) (gk.trans rfl) rfl rfl ?_ ?_ ?_; rotate_left; (focus (intro w' hS; have hcell := cell_as hS; clear hS; go_simp; with_reducible rfl)); rotate_left; (focus (simp only [Act.put, List.setIfInBounds_toArray, List.set_cons_zero, List.set_cons_succ]; rfl))) | (refine ord_loud (gk.trans rfl) rfl (fun K_ hK_ => ?_); rw [if_pos (by rfl)]) | (refine Shut.out hK_ _ _ RS.out ?_))
 go_ret
 exact ⟨rfl, B.out⟩
end Go.Proofs.YtncdadcmghglkaaGreatDoor.PFnExactCountParts
