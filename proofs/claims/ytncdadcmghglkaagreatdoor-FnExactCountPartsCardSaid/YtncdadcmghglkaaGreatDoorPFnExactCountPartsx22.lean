/- Printed walks; conditions: those in each statement. -/
import Derived.Test.YtncdadcmghglkaaGreatDoorVFnExactCountPartsQt
import Derived.Test.YtncdadcmghglkaaGreatDoorVFnExactCountPartsYt
import Derived.Test.YtncdadcmghglkaaGreatDoorPFnExactCountPartsx0
import Derived.Test.YtncdadcmghglkaaGreatDoorPFnExactCountPartsx1
-- short
-- dense
-- sq
namespace Go.Proofs.YtncdadcmghglkaaGreatDoor.PFnExactCountParts
open Go.RowKit Go.Proofs.YtncdadcmghglkaaGreatDoor.X Go.Proofs.YtncdadcmghglkaaGreatDoorW.PrintWords Go.Proofs.YtncdadcmghglkaaGreatDoorW.PrintLast Go.Proofs.YtncdadcmghglkaaGreatDoorW.PrintMore
attribute [local go_sem] max2_int min2_int max_two min_two max_three min_three max_four min_four   -- for this text's walks alone
set_option linter.unusedVariables false
set_option linter.unusedSimpArgs false
mutual
def laws_szPart.f : Nat → List (S120) → List ByteArray → List (S44) → Int → Option (Int)
 | 0, _, _, _, _ => none
 | k + 1, l0_0, l0_1, l0_2, a1 => (laws_szFieldS.f k l0_0 a1).bind fun t106 => (if t106 < 0 then (some (-1)) else ((laws_szStringS.f k l0_1 t106).bind fun t107 => (if t107 < 0 then (some (-1)) else ((if (wrap64 (t107 - (l0_2.length : Int))) < 0 then (some (-1)) else (laws_szPartS.l0 k l0_2 (wrap64 (t107 - (l0_2.length : Int))) 0)).bind fun t108 => (if t108 < 0 then (some (-1)) else (some t108))))))
def laws_szPartS.l0 : Nat → List (S44) → Int → Int → Option (Int)
 | 0, _, _, _ => none
 | k + 1, x0, x1, x5 => if x5 < (x0.length : Int) then (if 0 ≤ x5 then ((laws_szPart.f k ((rd_T44 x0 x5).f0) ((rd_T44 x0 x5).f1) ((rd_T44 x0 x5).f2) x1).bind fun t102 => (if t102 < 0 then (some (-1)) else (laws_szPartS.l0 k x0 t102 (wrap64 (x5 + 1))))) else (none)) else (some x1)
end
def laws_szPartS.f (k : Nat) (l0 : List (S44)) (a1 : Int) : Option (Int) := if (wrap64 (a1 - (l0.length : Int))) < 0 then (some (-1)) else (laws_szPartS.l0 k l0 (wrap64 (a1 - (l0.length : Int))) 0)
theorem laws_szPart.f_succ (k : Nat) (l0_0 : List (S120)) (l0_1 : List ByteArray) (l0_2 : List (S44)) (a1 : Int) : laws_szPart.f (k + 1) l0_0 l0_1 l0_2 a1 = ((laws_szFieldS.f k l0_0 a1).bind fun t106 => (if t106 < 0 then (some (-1)) else ((laws_szStringS.f k l0_1 t106).bind fun t107 => (if t107 < 0 then (some (-1)) else ((laws_szPartS.f k l0_2 t107).bind fun t108 => (if t108 < 0 then (some (-1)) else (some t108))))))) := by simp only [laws_szPart.f, laws_szPartS.f]
set_option maxHeartbeats 8000000 in
set_option maxRecDepth 100000 in
theorem laws_szPart.pair (k : Nat) : (∀ (A0_0 : Option Addr) (c0_0 : Nat) (l0_0 : List (S120)) (A0_1 : Option Addr) (c0_1 : Nat) (l0_1 : List ByteArray) (A0_2 : Option Addr) (c0_2 : Nat) (l0_2 : List (S44)) (a1 : Int) (r : Int) (w : World) (hr0_0 : Kd.C k120 w A0_0 l0_0.length l0_0) (hc0_0 : l0_0.length ≤ c0_0) (hr0_1 : Kd.C Kd.string w A0_1 l0_1.length l0_1) (hc0_1 : l0_1.length ≤ c0_1) (hr0_2 : Kd.C k44 w A0_2 l0_2.length l0_2) (hc0_2 : l0_2.length ≤ c0_2) (h : laws_szPart.f k l0_0 l0_1 l0_2 a1 = some r),
  Calls Tryz.prog 29 #[.agg #[.slice A0_0 l0_0.length c0_0, .slice A0_1 l0_1.length c0_1, .slice A0_2 l0_2.length c0_2], .int .i64 a1] w fun e w' => e = .returned (.int .i64 r) ∧ Below w.heap.size w w') ∧
  (∀ (A0 : Option Addr) (c0 : Nat) (l0 : List (S44)) (a1 : Int) (r : Int) (w : World) (hr0 : Kd.C k44 w A0 l0.length l0) (hc0 : l0.length ≤ c0) (h : laws_szPartS.f k l0 a1 = some r),
  Calls Tryz.prog 71 #[.slice A0 l0.length c0, .int .i64 a1] w fun e w' => e = .returned (.int .i64 r) ∧ Below w.heap.size w w') := by
 induction k using Nat.strongRecOn with
 | _ k ih =>
 refine ⟨?_, ?_⟩
 ·
  cases k with
  | zero => intro A0_0 c0_0 l0_0 A0_1 c0_1 l0_1 A0_2 c0_2 l0_2 a1 r w hr0_0 hc0_0 hr0_1 hc0_1 hr0_2 hc0_2 h; exact absurd h (by simp [laws_szPart.f])
  | succ k =>
  have ihB := (ih k (Nat.lt_succ_self k)).2
  clear ih
  intro A0_0 c0_0 l0_0 A0_1 c0_1 l0_1 A0_2 c0_2 l0_2 a1 r w hr0_0 hc0_0 hr0_1 hc0_1 hr0_2 hc0_2 h
  rw [laws_szPart.f_succ] at h
  have hu44 := Tryz.underlying44
  have HR0_0 := ak hr0_0
  have HC0_0 := ak hc0_0
  clear hr0_0 hc0_0
  have HR0_1 := ak hr0_1
  have HC0_1 := ak hc0_1
  clear hr0_1 hc0_1
  have HR0_2 := ak hr0_2
  have HC0_2 := ak hc0_2
  clear hr0_2 hc0_2
  have HB := ak (Below.refl w.heap.size w)
  have H : ((laws_szFieldS.f k l0_0 a1).bind fun t106 => (if t106 < 0 then (some (-1)) else ((laws_szStringS.f k l0_1 t106).bind fun t107 => (if t107 < 0 then (some (-1)) else ((laws_szPartS.f k l0_2 t107).bind fun t108 => (if t108 < 0 then (some (-1)) else (some t108))))))) = some r := h
  clear h
  replace H := bd H; obtain ⟨t106, A3, H⟩ := H; replace H := sd H
  rcases H with ⟨c4b0, H⟩ | ⟨c4b0, H⟩
  ·
   obtain rfl := Option.some.inj H
   go_enter Tryz.func29, Tryz.ntmps29
   go_wp2_with (first | (refine bE 2 #[.slice A0_0 l0_0.length c0_0, .slice A0_1 l0_1.length c0_1, .slice A0_2 l0_2.length c0_2] 44 ?_; intro gb105 hg w5 hbox hb; have BK105 := ak (hbox); have GW105 := ge_ HB hg; have GE105 := ge_ HB hg; replace HB := bs HB hb; clear hb hbox hg; obtain ⟨hcz6_0, hcz6_1, hcz6_2, hfz6_0, hfz6_1, hfz6_2⟩ := cz3 BK105.out) | (refine gL 70 8 Tryz.func70 #[.slice A0_0 l0_0.length c0_0, .int .i64 a1] ?_; (with_reducible refine (laws_szFieldS.calls k _ _ l0_0 a1 t106 _ (cu (Kd.C_below HR0_0.out HB.out)) HC0_0.out A3.out).mono ?_); rintro e w7 ⟨rfl, hb⟩; refine ⟨_, rfl, ?_⟩; replace BK105 := kb BK105 hb; replace HB := ak (below_step bb hb); (try clear hb)))
   go_ret
   exact ⟨er, bb⟩
  ·
   replace H := bd H; obtain ⟨t107, A8, H⟩ := H; replace H := sd H
   rcases H with ⟨c9b0, H⟩ | ⟨c9b0, H⟩
   ·
    obtain rfl := Option.some.inj H
    go_enter Tryz.func29, Tryz.ntmps29
    go_wp2_with (first | (refine bE 2 #[.slice A0_0 l0_0.length c0_0, .slice A0_1 l0_1.length c0_1, .slice A0_2 l0_2.length c0_2] 44 ?_; intro gb105 hg w10 hbox hb; have BK105 := ak (hbox); have GW105 := ge_ HB hg; have GE105 := ge_ HB hg; replace HB := bs HB hb; clear hb hbox hg; obtain ⟨hcz11_0, hcz11_1, hcz11_2, hfz11_0, hfz11_1, hfz11_2⟩ := cz3 BK105.out) | (refine gL 70 8 Tryz.func70 #[.slice A0_0 l0_0.length c0_0, .int .i64 a1] ?_; (with_reducible refine (laws_szFieldS.calls k _ _ l0_0 a1 t106 _ (cu (Kd.C_below HR0_0.out HB.out)) HC0_0.out A3.out).mono ?_); rintro e w12 ⟨rfl, hb⟩; refine ⟨_, rfl, ?_⟩; replace BK105 := kb BK105 hb; replace HB := ak (below_step bb hb); (try clear hb); obtain ⟨hcz13_0, hcz13_1, hcz13_2, hfz13_0, hfz13_1, hfz13_2⟩ := cz3 BK105.out) | (refine gL 52 14 Tryz.func52 #[.slice A0_1 l0_1.length c0_1, .int .i64 t106] ?_; (with_reducible refine (laws_szStringS.calls k _ _ l0_1 t106 t107 _ (cu (Kd.C_below HR0_1.out HB.out)) HC0_1.out A8.out).mono ?_); rintro e w' ⟨rfl, ⟨nd, rfl⟩⟩; refine ⟨_, rfl, ?_⟩))
    go_ret
    exact ⟨er, bb⟩
   ·
    replace H := bd H; obtain ⟨t108, A14, H⟩ := H; replace H := sd H
    rcases H with ⟨c15b0, H⟩ | ⟨c15b0, H⟩
    ·
     obtain rfl := Option.some.inj H
     go_enter Tryz.func29, Tryz.ntmps29
     go_wp2_with (first | (refine bE 2 #[.slice A0_0 l0_0.length c0_0, .slice A0_1 l0_1.length c0_1, .slice A0_2 l0_2.length c0_2] 44 ?_; intro gb105 hg w16 hbox hb; have BK105 := ak (hbox); have GW105 := ge_ HB hg; have GE105 := ge_ HB hg; replace HB := bs HB hb; clear hb hbox hg; obtain ⟨hcz17_0, hcz17_1, hcz17_2, hfz17_0, hfz17_1, hfz17_2⟩ := cz3 BK105.out) | (refine gL 70 8 Tryz.func70 #[.slice A0_0 l0_0.length c0_0, .int .i64 a1] ?_; (with_reducible refine (laws_szFieldS.calls k _ _ l0_0 a1 t106 _ (cu (Kd.C_below HR0_0.out HB.out)) HC0_0.out A3.out).mono ?_); rintro e w18 ⟨rfl, hb⟩; refine ⟨_, rfl, ?_⟩; replace BK105 := kb BK105 hb; replace HB := ak (below_step bb hb); (try clear hb); obtain ⟨hcz19_0, hcz19_1, hcz19_2, hfz19_0, hfz19_1, hfz19_2⟩ := cz3 BK105.out) | (refine gL 52 14 Tryz.func52 #[.slice A0_1 l0_1.length c0_1, .int .i64 t106] ?_; (with_reducible refine (laws_szStringS.calls k _ _ l0_1 t106 t107 _ (cu (Kd.C_below HR0_1.out HB.out)) HC0_1.out A8.out).mono ?_); rintro e w' ⟨rfl, ⟨nd, rfl⟩⟩; refine ⟨_, rfl, ?_⟩) | (refine gL 71 20 Tryz.func71 #[.slice A0_2 l0_2.length c0_2, .int .i64 t107] ?_; (with_reducible refine (ihB _ _ l0_2 t107 t108 _ (cu (Kd.C_below HR0_2.out bb)) HC0_2.out A14.out).mono ?_); rintro e w20 ⟨rfl, hb⟩; refine ⟨_, rfl, ?_⟩; replace BK105 := kb BK105 hb; replace HB := ak (below_step bb hb); (try clear hb)))
     go_ret
     exact ⟨er, bb⟩
    ·
     obtain rfl := Option.some.inj H
     go_enter Tryz.func29, Tryz.ntmps29
     go_wp2_with (first | (refine bE 2 #[.slice A0_0 l0_0.length c0_0, .slice A0_1 l0_1.length c0_1, .slice A0_2 l0_2.length c0_2] 44 ?_; intro gb105 hg w21 hbox hb; have BK105 := ak (hbox); have GW105 := ge_ HB hg; have GE105 := ge_ HB hg; replace HB := bs HB hb; clear hb hbox hg; obtain ⟨hcz22_0, hcz22_1, hcz22_2, hfz22_0, hfz22_1, hfz22_2⟩ := cz3 BK105.out) | (refine gL 70 8 Tryz.func70 #[.slice A0_0 l0_0.length c0_0, .int .i64 a1] ?_; (with_reducible refine (laws_szFieldS.calls k _ _ l0_0 a1 t106 _ (cu (Kd.C_below HR0_0.out HB.out)) HC0_0.out A3.out).mono ?_); rintro e w23 ⟨rfl, hb⟩; refine ⟨_, rfl, ?_⟩; replace BK105 := kb BK105 hb; replace HB := ak (below_step bb hb); (try clear hb); obtain ⟨hcz24_0, hcz24_1, hcz24_2, hfz24_0, hfz24_1, hfz24_2⟩ := cz3 BK105.out) | (refine gL 52 14 Tryz.func52 #[.slice A0_1 l0_1.length c0_1, .int .i64 t106] ?_; (with_reducible refine (laws_szStringS.calls k _ _ l0_1 t106 t107 _ (cu (Kd.C_below HR0_1.out HB.out)) HC0_1.out A8.out).mono ?_); rintro e w' ⟨rfl, ⟨nd, rfl⟩⟩; refine ⟨_, rfl, ?_⟩) | (refine gL 71 20 Tryz.func71 #[.slice A0_2 l0_2.length c0_2, .int .i64 t107] ?_; (with_reducible refine (ihB _ _ l0_2 t107 t108 _ (cu (Kd.C_below HR0_2.out bb)) HC0_2.out A14.out).mono ?_); rintro e w25 ⟨rfl, hb⟩; refine ⟨_, rfl, ?_⟩; replace BK105 := kb BK105 hb; replace HB := ak (below_step bb hb); (try clear hb)))
     go_ret
     exact ⟨er, bb⟩
 ·
  intro A0 c0 l0 a1 r w hr0 hc0 h
  have hu44 := Tryz.underlying44
  have HR0 := ak hr0
  have HC0 := ak hc0
  clear hr0 hc0
  have HB := ak (Below.refl w.heap.size w)
  have H : (if (wrap64 (a1 - (l0.length : Int))) < 0 then (some (-1)) else (laws_szPartS.l0 k l0 (wrap64 (a1 - (l0.length : Int))) 0)) = some r := h
  clear h
  replace H := sp H
  rcases H with ⟨c3, H⟩ | ⟨c3, H⟩
  ·
   have c3b0 := decide_eq_true c3
   (try (have c3b1 : decide ((a1 - (l0.length : Int)) < 0) = true := decide_eq_true (by have h_ := c3; unfold wrap64 at h_; omega)))
   clear c3
   obtain rfl := Option.some.inj H
   go_enter Tryz.func71, Tryz.ntmps71
   go_wp2
   go_ret
   exact ⟨er, ul HB.out⟩
  ·
   have c3b0 := decide_eq_false c3
   (try (have c3b1 : decide ((a1 - (l0.length : Int)) < 0) = false := decide_eq_false (by have h_ := c3; unfold wrap64 at h_; omega)))
   clear c3
   have H' := ak H; clear H
   go_enter Tryz.func71, Tryz.ntmps71
   go_wp2
   go_loopg [1, 5] k (fun kq v1 v5 w' => ∃ (x1_1 : Int) (x5_1 : Int), v1 = .int .i64 x1_1 ∧ v5 = .int .i64 x5_1 ∧ Aside0 (laws_szPartS.l0 kq l0 x1_1 x5_1 = some r) ∧ Aside0 (kq ≤ k) ∧ Aside0 (Below w.heap.size w w'))
   case atStart => exact ⟨(wrap64 (a1 - (l0.length : Int))), (0), rs, rs, H', ⟨Nat.le_refl _⟩, ⟨ul HB.out⟩⟩
   case round =>
    clear H'
    try clear p2
    try clear c3
    try clear c3b0
    try clear c3b1
    obtain ⟨x1_1, x5_1, rfl, rfl, HA, HK1, HB⟩ := hrel
    cases gk with
    | zero => exact absurd HA.out (by simp [laws_szPartS.l0])
    | succ k1 =>
     have H := HA.out
     clear HA
     simp only [laws_szPartS.l0] at H
     replace H := sd H
     rcases H with ⟨c4b0, H⟩ | ⟨c4b0, H⟩
     ·
      replace H := nde H; obtain ⟨c5b0, H⟩ := H; replace H := bd H; obtain ⟨t102, A6, H⟩ := H; replace H := sd H
      rcases H with ⟨c7b0, H⟩ | ⟨c7b0, H⟩
      ·
       obtain rfl := Option.some.inj H
       have p101 := zi x5_1
       have q101 := zj x5_1 l0.length
       obtain ⟨ad101, A101_0, c101_0, A101_1, c101_1, A101_2, c101_2, e101, hx101_0, hx101_1, hx101_2, hl101_0, hi101_0, hl101_1, hi101_1, hl101_2, hi101_2⟩ := at_T44 HR0.out x5_1 p101 q101
       cases e101
       replace hx101_0 := cl HB.out hx101_0
       replace hx101_1 := cl HB.out hx101_1
       replace hx101_2 := cl HB.out hx101_2
       have HR101_0 := ak hi101_0
       have HC101_0 := ak hl101_0
       clear hi101_0 hl101_0
       have HR101_1 := ak hi101_1
       have HC101_1 := ak hl101_1
       clear hi101_1 hl101_1
       have HR101_2 := ak hi101_2
       have HC101_2 := ak hl101_2
       clear hi101_2 hl101_2
       replace p101 := eq_true p101
       replace q101 := eq_true q101
       go_wp2_with (first | (refine gL 29 23 Tryz.func29 #[.agg #[.slice A101_0 ((rd_T44 l0 x5_1).f0).length c101_0, .slice A101_1 ((rd_T44 l0 x5_1).f1).length c101_1, .slice A101_2 ((rd_T44 l0 x5_1).f2).length c101_2], .int .i64 x1_1] ?_; (with_reducible refine ((ih k1 (by have := HK1.out; omega)).1 _ _ ((rd_T44 l0 x5_1).f0) _ _ ((rd_T44 l0 x5_1).f1) _ _ ((rd_T44 l0 x5_1).f2) x1_1 t102 _ (cu (Kd.C_below HR101_0.out HB.out)) HC101_0.out (cu (Kd.C_below HR101_1.out HB.out)) HC101_1.out (cu (Kd.C_below HR101_2.out HB.out)) HC101_2.out A6.out).mono ?_); rintro e w8 ⟨rfl, hb⟩; refine ⟨_, rfl, ?_⟩; replace HB := bs HB hb; (try clear hb)))
       go_ret
       exact ⟨er, ul HB.out⟩
      ·
       have H' := ak H; clear H
       have p101 := zi x5_1
       have q101 := zj x5_1 l0.length
       obtain ⟨ad101, A101_0, c101_0, A101_1, c101_1, A101_2, c101_2, e101, hx101_0, hx101_1, hx101_2, hl101_0, hi101_0, hl101_1, hi101_1, hl101_2, hi101_2⟩ := at_T44 HR0.out x5_1 p101 q101
       cases e101
       replace hx101_0 := cl HB.out hx101_0
       replace hx101_1 := cl HB.out hx101_1
       replace hx101_2 := cl HB.out hx101_2
       have HR101_0 := ak hi101_0
       have HC101_0 := ak hl101_0
       clear hi101_0 hl101_0
       have HR101_1 := ak hi101_1
       have HC101_1 := ak hl101_1
       clear hi101_1 hl101_1
       have HR101_2 := ak hi101_2
       have HC101_2 := ak hl101_2
       clear hi101_2 hl101_2
       replace p101 := eq_true p101
       replace q101 := eq_true q101
       go_wp2_with (first | (refine gL 29 23 Tryz.func29 #[.agg #[.slice A101_0 ((rd_T44 l0 x5_1).f0).length c101_0, .slice A101_1 ((rd_T44 l0 x5_1).f1).length c101_1, .slice A101_2 ((rd_T44 l0 x5_1).f2).length c101_2], .int .i64 x1_1] ?_; (with_reducible refine ((ih k1 (by have := HK1.out; omega)).1 _ _ ((rd_T44 l0 x5_1).f0) _ _ ((rd_T44 l0 x5_1).f1) _ _ ((rd_T44 l0 x5_1).f2) x1_1 t102 _ (cu (Kd.C_below HR101_0.out HB.out)) HC101_0.out (cu (Kd.C_below HR101_1.out HB.out)) HC101_1.out (cu (Kd.C_below HR101_2.out HB.out)) HC101_2.out A6.out).mono ?_); rintro e w9 ⟨rfl, hb⟩; refine ⟨_, rfl, ?_⟩; replace HB := bs HB hb; (try clear hb)))
       go_roundg k1
       case measure => have := HK1.out; omega
       case rel => exact ⟨(t102), (wrap64 (x5_1 + 1)), rs, rs, H', ⟨by have := HK1.out; omega⟩, ⟨ul HB.out⟩⟩
     ·
      obtain rfl := Option.some.inj H
      go_wp2
      go_ret
      exact ⟨er, ul HB.out⟩
end Go.Proofs.YtncdadcmghglkaaGreatDoor.PFnExactCountParts
