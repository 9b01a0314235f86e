/- Printed walks; conditions: those in each statement. -/
import Derived.Test.YtncdadcmghglkaaGreatDoorVFnPartSameQt
import Derived.Test.YtncdadcmghglkaaGreatDoorVFnPartSameYt
import Derived.Test.YtncdadcmghglkaaGreatDoorPFnPartSamex0
import Derived.Test.YtncdadcmghglkaaGreatDoorPFnPartSamex24
-- short
-- dense
-- sq
-- sq2
namespace Go.Proofs.YtncdadcmghglkaaGreatDoor.PFnPartSame
open Go.RowKit Go.Proofs.YtncdadcmghglkaaGreatDoor.X Go.Proofs.YtncdadcmghglkaaGreatDoorW.PrintWords Go.Proofs.YtncdadcmghglkaaGreatDoorW.PrintLast Go.Proofs.YtncdadcmghglkaaGreatDoorW.PrintMore
attribute [local go_sem] max2_int min2_int max_two min_two max_three min_three max_four min_four   -- for this text's walks alone
set_option linter.unusedVariables false
set_option maxHeartbeats 8000000
set_option maxRecDepth 100000
set_option linter.unusedSimpArgs false
def spec_PartSame.f (k : Nat) (l0_0 : List (S69)) (l0_1 : List ByteArray) (l0_2 : List (S28)) (l1_0 : List (S69)) (l1_1 : List ByteArray) (l1_2 : List (S28)) : Option (Bool) := (spec_l8Same.f k l0_0 l0_1 l0_2 l1_0 l1_1 l1_2).bind fun t808 => (some t808)
theorem spec_PartSame.calls {k c0_0 c0_1 c0_2 c1_0 c1_1 c1_2 : Nat} {A0_0 A0_1 A0_2 A1_0 A1_1 A1_2 : Option Addr} {l0_0 l1_0 : List (S69)} {l0_1 l1_1 : List ByteArray} {l0_2 l1_2 : List (S28)} {r : Bool} {w : World} (hr0_0 : Kd.C k69 w A0_0 l0_0.length l0_0) (hc0_0 : l0_0.length ≤ c0_0) (hr0_1 : Kd.C Kd.string w A0_1 l0_1.length l0_1) (hc0_1 : l0_1.length ≤ c0_1) (hr0_2 : Kd.C k28 w A0_2 l0_2.length l0_2) (hc0_2 : l0_2.length ≤ c0_2) (hr1_0 : Kd.C k69 w A1_0 l1_0.length l1_0) (hc1_0 : l1_0.length ≤ c1_0) (hr1_1 : Kd.C Kd.string w A1_1 l1_1.length l1_1) (hc1_1 : l1_1.length ≤ c1_1) (hr1_2 : Kd.C k28 w A1_2 l1_2.length l1_2) (hc1_2 : l1_2.length ≤ c1_2) (h : spec_PartSame.f k l0_0 l0_1 l0_2 l1_0 l1_1 l1_2 = some r) :
  Calls Tryz.prog 28 #[.agg #[.slice A0_0 l0_0.length c0_0, .slice A0_1 l0_1.length c0_1, .slice A0_2 l0_2.length c0_2], .agg #[.slice A1_0 l1_0.length c1_0, .slice A1_1 l1_1.length c1_1, .slice A1_2 l1_2.length c1_2]] w fun e w' => e = .returned (.bool r) ∧ Below w.heap.size w w' := by
 have hu28 := Tryz.underlying28
 have HR0_0 := ak hr0_0
 have HC0_0 := ak hc0_0
 clear hr0_0 hc0_0
 have HR0_1 := ak hr0_1
 have HC0_1 := ak hc0_1
 clear hr0_1 hc0_1
 have HR0_2 := ak hr0_2
 have HC0_2 := ak hc0_2
 clear hr0_2 hc0_2
 have HR1_0 := ak hr1_0
 have HC1_0 := ak hc1_0
 clear hr1_0 hc1_0
 have HR1_1 := ak hr1_1
 have HC1_1 := ak hc1_1
 clear hr1_1 hc1_1
 have HR1_2 := ak hr1_2
 have HC1_2 := ak hc1_2
 clear hr1_2 hc1_2
 have HB := ak (Below.refl w.heap.size w)
 have H : ((spec_l8Same.f k l0_0 l0_1 l0_2 l1_0 l1_1 l1_2).bind fun t808 => (some t808)) = some r := h
 clear h
 replace H := bd H; obtain ⟨t808, A3, H⟩ := H
 obtain rfl := s1 H
 go_enter Tryz.func28, Tryz.ntmps28
 go_wp2_with (first | (refine bX HB 2 #[.slice A0_0 l0_0.length c0_0, .slice A0_1 l0_1.length c0_1, .slice A0_2 l0_2.length c0_2] 28 ?_; intro gb806 w4 BK806 GW806 hb; replace HB := bs HB hb; clear hb) | (refine bY HB 3 #[.slice A1_0 l1_0.length c1_0, .slice A1_1 l1_1.length c1_1, .slice A1_2 l1_2.length c1_2] 28 ?_; intro gb807 w5 BK807 GW807 hg hb; have NB806_807 := nl_ BK806 hg; have NB807_806 := ng_ BK806 hg; replace BK806 := kb BK806 hb; replace HB := bz HB hb; clear hb hg; have hnb6 := NB806_807.out; have hnc6 := NB807_806.out; have z7 := cz3 BK806.out; have z8 := cz3 BK807.out) | (refine gB Tryz.func69 (spec_l8Same.calls k _ _ l0_0 _ _ l0_1 _ _ l0_2 _ _ l1_0 _ _ l1_1 _ _ l1_2 t808 _ (cu (Kd.C_below HR0_0.out HB.out)) HC0_0.out (cu (Kd.C_below HR0_1.out HB.out)) HC0_1.out (cu (Kd.C_below HR0_2.out HB.out)) HC0_2.out (cu (Kd.C_below HR1_0.out HB.out)) HC1_0.out (cu (Kd.C_below HR1_1.out HB.out)) HC1_1.out (cu (Kd.C_below HR1_2.out HB.out)) HC1_2.out A3.out) ?_; intro w9 hb; replace BK806 := kb BK806 hb; replace BK807 := kb BK807 hb; replace HB := bz HB hb; clear hb))
 go_ret
 exact ⟨er, bb⟩
end Go.Proofs.YtncdadcmghglkaaGreatDoor.PFnPartSame
