/- Printed walks; conditions: those in each statement. -/
import Derived.Test.YtncdadcmghglkaaGreatDoorVFnCountPartsQt
import Derived.Test.YtncdadcmghglkaaGreatDoorVFnCountPartsYt
import Derived.Test.YtncdadcmghglkaaGreatDoorPFnCountPartsx0
import Derived.Test.YtncdadcmghglkaaGreatDoorPFnCountPartsx2
-- short
-- dense
-- sq
-- sq2
namespace Go.Proofs.YtncdadcmghglkaaGreatDoor.PFnCountParts
open Go.RowKit Go.Proofs.YtncdadcmghglkaaGreatDoor.X Go.Proofs.YtncdadcmghglkaaGreatDoorW.bI Go.Proofs.YtncdadcmghglkaaGreatDoorW.gI Go.Proofs.YtncdadcmghglkaaGreatDoorW.iL
attribute [local go_sem] kN kP mF mG jB jC kQ kR   -- for this text's walks alone
set_option linter.unusedVariables false
set_option maxHeartbeats 8000000
set_option maxRecDepth 100000
set_option linter.unusedSimpArgs false
def nZ.f (eF : ByteArray) (eP : ByteArray) (a1 : ByteArray) : Option (Bool) := (rZ.f eF a1).bind fun atJ => (some atJ)
theorem nZ.calls {eF eP a1 : ByteArray} {gq1 : Nat} {r : Bool} {w : World} (hq1 : w.heap[gq1]? = some (.cells #[.string a1] 9 (0, 0))) (h : nZ.f eF eP a1 = some r) :
  Calls Tryz.prog 123 #[.agg #[.string eF, .string eP], .pointer (some ⟨gq1, 0, none⟩)] w fun e w' => e = .returned (.bool r) ∧ Below w.heap.size w w' := by
 have Dt := Tryz.underlying69
 have vC := ak hq1
 clear hq1
 have HB := ak (Below.refl w.heap.size w)
 unfold nZ.f at h; have H := h
 clear h
 replace H := bd H; obtain ⟨atJ, A3, H⟩ := H
 obtain rfl := s1 H
 go_enter Tryz.func123, Tryz.ntmps123
 go_wp2_with (first | (refine bY HB 2 #[.string eF, .string eP] 69 ?_; intro aCu w4 aeZ aCv hg hb; have ae0 := AZ vC hg; have ae1 := A_ vC hg; replace vC := kb vC hb; replace HB := bz HB hb; clear hb hg; have aHw := ae1.out; have aHx := ae0.out; have z6 := zx aeZ.out; have azF : w4.cell? ⟨gq1, 0, none⟩ = some (.string a1) := (aG vC.out 0).trans rfl; have azG := iq vC.out 0) | (refine gB Tryz.func124 (rZ.calls A3.out) ?_; intro w8 hb; replace vC := kb vC hb; replace aeZ := kb aeZ hb; replace HB := bz HB hb; clear hb))
 go_ret
 exact ⟨er, bb⟩
def eU.l0 : Nat → List (gY) → Int → Int → ByteArray → Option (Int)
 | 0, _, _, _, _ => none
 | k + 1, x0, x7, x8, PX => if x8 < x7 then (if 0 ≤ x8 then (if x8 < (x0.length : Int) then ((nZ.f ((fD x0 x8).f0) ((fD x0 x8).f1) PX).bind fun t146 => (if t146 = true then (some x8) else (eU.l0 k x0 x7 (wrap64 (x8 + 1)) PX))) else (none)) else (none)) else (some (-1))
def eU.f (k : Nat) (l0 : List (gY)) (EG : ByteArray) : Option (Int) := eU.l0 k l0 (l0.length : Int) 0 EG
theorem eU.calls {k c0 He : Nat} {A0 : Option Addr} {l0 : List (gY)} {EG : ByteArray} {r : Int} {w : World} (hr0 : Kd.C qJ w A0 l0.length l0) (hc0 : l0.length ≤ c0) (Nc : w.heap[He]? = some (.cells #[.string EG] 9 (0, 0))) (h : eU.f k l0 EG = some r) :
  Calls Tryz.prog 122 #[.slice A0 l0.length c0, .func (.func 123) #[] #[.pointer (some ⟨He, 0, none⟩)]] w fun e w' => e = .returned (.int .i64 r) ∧ Below w.heap.size w w' := by
 have Dt := Tryz.underlying69
 have HR0 := ak hr0
 have xq := ak hc0
 clear hr0 hc0
 have vC := ak Nc
 clear Nc
 have HB := ak (Below.refl w.heap.size w)
 unfold eU.f at h; have H := h
 clear h
 have H' := ak H; clear H
 go_enter Tryz.func122, Tryz.ntmps122
 go_wp2
 go_loopg [8] k (fun kq v8 w' => ∃ (kY : Int), v8 = .int .i64 kY ∧ ah (eU.l0 kq l0 (l0.length : Int) kY EG = some r) ∧ ah (kq ≤ k) ∧ ah (w'.heap[He]? = some (.cells #[.string EG] 9 (0, 0))) ∧ ah (Below w.heap.size w w'))
 case atStart => exact ⟨_, rs, H', ⟨Nat.le_refl _⟩, ⟨ub vC.out⟩, ⟨bb⟩⟩
 case round =>
  clear H'
  obtain ⟨kY, rfl, HA, xu, vC, HB⟩ := hrel
  cases gk with
  | zero => exact zz HA.out
  | succ k1 =>
   obtain ⟨H⟩ := HA
   simp only [eU.l0] at H
   replace H := sd H
   rcases H with ⟨iQ, H⟩ | ⟨iQ, H⟩
   ·
    replace H := oM H; obtain ⟨rX, H⟩ := H; replace H := oM H; obtain ⟨nR, H⟩ := H; replace H := bd H; obtain ⟨t146, A6, H⟩ := H; replace H := sb H
    rcases H with ⟨rfl, H⟩ | ⟨rfl, H⟩
    ·
     obtain rfl := s1 H
     have XU := zi kY
     have XV := zj kY l0.length
     obtain ⟨atK, anm, JQ, JR⟩ := qV HR0.out kY XU XV
     cases anm
     replace JQ := cl HB.out JQ
     replace JR := cl HB.out JR
     replace XU := eq_true XU
     replace XV := eq_true XV
     go_wp2_with (go_at_call 123; refine mB (nZ.calls (ub vC.out) A6.out) ?_; intro w8 hb; replace vC := kb vC hb; replace HB := bz HB hb; clear hb)
     go_ret
     exact ⟨er, bb⟩
    ·
     have H' := ak H; clear H
     have XU := zi kY
     have XV := zj kY l0.length
     obtain ⟨atK, anm, JQ, JR⟩ := qV HR0.out kY XU XV
     cases anm
     replace JQ := cl HB.out JQ
     replace JR := cl HB.out JR
     replace XU := eq_true XU
     replace XV := eq_true XV
     go_wp2_with (go_at_call 123; refine mB (nZ.calls (ub vC.out) A6.out) ?_; intro w9 hb; replace vC := kb vC hb; replace HB := bz HB hb; clear hb)
     go_roundg k1
     case measure => exact kl
     case rel => exact ⟨_, rs, H', ⟨kl⟩, ⟨ub vC.out⟩, ⟨bb⟩⟩
   ·
    obtain rfl := s1 H
    go_wp2
    go_ret
    exact ⟨er, bb⟩
def lq.f (k : Nat) (l0 : List (gY)) (a1 : ByteArray) : Option (Int) := (eU.f k l0 a1).bind fun t148 => (some t148)
theorem lq.calls {k c0 : Nat} {A0 : Option Addr} {l0 : List (gY)} {a1 : ByteArray} {r : Int} {w : World} (hr0 : Kd.C qJ w A0 l0.length l0) (hc0 : l0.length ≤ c0) (h : lq.f k l0 a1 = some r) :
  Calls Tryz.prog 88 #[.slice A0 l0.length c0, .string a1] w fun e w' => e = .returned (.int .i64 r) ∧ Below w.heap.size w w' := by
 have HR0 := ak hr0
 have xq := ak hc0
 clear hr0 hc0
 have HB := ak (Below.refl w.heap.size w)
 unfold lq.f at h; have H := h
 clear h
 replace H := bd H; obtain ⟨t148, A3, H⟩ := H
 obtain rfl := s1 H
 go_enter Tryz.func88, Tryz.ntmps88
 go_wp2_with (first | (refine bX HB 3 #[.string a1] 9 ?_; intro aCw w4 ae2 aCx hb; replace HB := bs HB hb; clear hb) | (refine gB Tryz.func122 (eU.calls (cu (Kd.aW HR0.out HB.out)) xq.out (ub ae2.out) A3.out) ?_; intro w5 hb; replace ae2 := kb ae2 hb; replace HB := bz HB hb; clear hb))
 go_ret
 exact ⟨er, bb⟩
def ni.f (k : Nat) (l0 : List (gY)) (a1 : ByteArray) : Option (ByteArray × Bool) := (lq.f k l0 a1).bind fun V7 => (if V7 < 0 then (some ((⟨#[]⟩ : ByteArray), false)) else (if 0 ≤ V7 then (if V7 < (l0.length : Int) then (some ((fD l0 V7).f1, true)) else (none)) else (none)))
theorem ni.calls {k c0 : Nat} {A0 : Option Addr} {l0 : List (gY)} {a1 r1 : ByteArray} {r2 : Bool} {w : World} (hr0 : Kd.C qJ w A0 l0.length l0) (hc0 : l0.length ≤ c0) (h : ni.f k l0 a1 = some (r1, r2)) :
  Calls Tryz.prog 47 #[.slice A0 l0.length c0, .string a1] w fun e w' => e = .returned (.tuple #[.string r1, .bool r2]) ∧ Below w.heap.size w w' := by
 have HR0 := ak hr0
 have xq := ak hc0
 clear hr0 hc0
 have HB := ak (Below.refl w.heap.size w)
 unfold ni.f at h; have H := h
 clear h
 replace H := bd H; obtain ⟨V7, A3, H⟩ := H; replace H := sd H
 rcases H with ⟨rX, H⟩ | ⟨rX, H⟩
 ·
  obtain ⟨rfl, rfl⟩ := s2 H
  go_enter Tryz.func47, Tryz.ntmps47
  go_wp2_with (refine gB Tryz.func88 (lq.calls (cu HR0.out) xq.out A3.out) ?_; intro w5 hb; replace HB := bs HB hb; clear hb)
  go_ret2
  exact ⟨er, ul HB.out⟩
 ·
  replace H := oM H; obtain ⟨nT, H⟩ := H; replace H := oM H; obtain ⟨rY, H⟩ := H
  obtain ⟨rfl, rfl⟩ := s2 H
  go_enter Tryz.func47, Tryz.ntmps47
  go_wp2_with (refine gB Tryz.func88 (lq.calls (cu HR0.out) xq.out A3.out) ?_; intro w8 hb; replace HB := bs HB hb; clear hb; have ano : 0 ≤ (V7 : Int) := of_decide_eq_true (by assumption); have anp : V7 < (l0.length : Int) := of_decide_eq_true (by assumption); obtain ⟨aCy, azH, Ux, Uy⟩ := qV HR0.out V7 ano anp; cases azH; replace Ux := (HB.out.cell (World.block_lt_of_cell? w _ Ux)).trans Ux; replace Uy := (HB.out.cell (World.block_lt_of_cell? w _ Uy)).trans Uy; replace ano := eq_true ano; replace anp := eq_true anp)
  go_ret2
  exact ⟨er, ul HB.out⟩
def jw.l0 : Nat → ByteArray → List Int → Int → Option (ByteArray × Int × Bool)
 | 0, _, _, _ => none
 | k + 1, x0, x5, x6 => if x6 < (x0.size : Int) then (if 0 ≤ x6 then (if (bt x0 x6) = 34 then (some (strOfNums x5, wrap64 (x6 + 1), true)) else (if (bt x0 x6) = 92 then (if (wrap64 (x6 + 1)) = (x0.size : Int) then (some ((⟨#[]⟩ : ByteArray), 0, false)) else (if 0 ≤ (wrap64 (x6 + 1)) then (if (wrap64 (x6 + 1)) < (x0.size : Int) then (if x5.length < 140737488355328 then (jw.l0 k x0 (x5 ++ [bt x0 (wrap64 (x6 + 1))]) (wrap64 ((wrap64 (x6 + 1)) + 1))) else (none)) else (none)) else (none))) else (if x5.length < 140737488355328 then (jw.l0 k x0 (x5 ++ [bt x0 x6]) (wrap64 (x6 + 1))) else (none)))) else (none)) else (some ((⟨#[]⟩ : ByteArray), 0, false))
def jw.f (k : Nat) (a0 : ByteArray) : Option (ByteArray × Int × Bool) := jw.l0 k a0 (([] : List Int)) 1
theorem jw.calls {k : Nat} {a0 r1 : ByteArray} {r2 : Int} {r3 : Bool} {w : World} (h : jw.f k a0 = some (r1, r2, r3)) :
  Calls Tryz.prog 134 #[.string a0] w fun e w' => e = .returned (.tuple #[.string r1, .int .i64 r2, .bool r3]) ∧ Below w.heap.size w w' := by
 have HB := ak (Below.refl w.heap.size w)
 unfold jw.f at h; have H := h
 clear h
 obtain ⟨y151, akG⟩ := nm ([] : List Int)
 rw [← akG.out] at H
 have H' := ak H; clear H
 go_enter Tryz.func134, Tryz.ntmps134
 go_wp2_with (refine GN 7 (Kd.int .u8) 5 akG ?_; intro v152 w2 ho3 hb; have atL := ak (Kd.aA ho3 (aj (ul HB.out))); replace HB := bs HB hb; clear hb ho3)
 go_loopg [5, 6] k (fun kq v5 v6 w' => ∃ (eH : List Int) (jH : Int), v6 = .int .i64 jH ∧ ah (jw.l0 kq a0 eH jH = some (r1, r2, r3)) ∧ ah (kq ≤ k) ∧ ah (Kd.R (Kd.int .u8) 5 w' w.heap.size (fun _ => True) v5 eH) ∧ ah (Below w.heap.size w w'))
 case atStart => exact ⟨_, _, rs, H', ⟨Nat.le_refl _⟩, ⟨ur atL.out⟩, ⟨ul HB.out⟩⟩
 case round =>
  clear H'
  obtain ⟨eH, jH, rfl, HA, xu, qp, HB⟩ := hrel
  cases gk with
  | zero => exact zz HA.out
  | succ k1 =>
   obtain ⟨H⟩ := HA
   simp only [jw.l0] at H
   replace H := sd H
   rcases H with ⟨rX, H⟩ | ⟨rX, H⟩
   ·
    replace H := oM H; obtain ⟨nR, H⟩ := H; replace H := sq H
    rcases H with ⟨rY, Lc, H⟩ | ⟨c7, rY, Lc, H⟩
    ·
     obtain ⟨rfl, rfl, rfl⟩ := s3 H
     obtain ⟨p6, q6, hx6⟩ := bx a0 jH
     have aHy := qK (P := Tryz.prog) Tryz.underlying22 Tryz.underlying5 Tryz.underlying9 (Kd.uX qp.out)
     go_wp2
     go_ret3
     exact ⟨er, ul HB.out⟩
    ·
     replace H := sq H
     rcases H with ⟨oC, sK, H⟩ | ⟨c10, oC, sK, H⟩
     ·
      replace H := sq H
      rcases H with ⟨uH, Ec, H⟩ | ⟨c11, uH, Ec, H⟩
      ·
       obtain ⟨rfl, rfl, rfl⟩ := s3 H
       obtain ⟨p6, q6, hx6⟩ := bx a0 jH
       obtain ⟨p9, q9, YQ⟩ := bx a0 jH
       go_wp2
       go_ret3
       exact ⟨er, ul HB.out⟩
      ·
       obtain ⟨NQ, Ef⟩ : ∃ j_ : Int, (wrap64 (jH + 1)) = j_ := ⟨_, rfl⟩
       replace H : (if 0 ≤ (NQ) then (if (NQ) < (a0.size : Int) then (if eH.length < 140737488355328 then (jw.l0 k1 a0 (eH ++ [bt a0 (NQ)]) (wrap64 ((NQ) + 1))) else (none)) else (none)) else (none)) = some (r1, r2, r3) := by first | (rw [Ef] at H; exact H) | (simp only [Ef] at H ⊢; exact H)
       (try rw [Ef] at uH)
       (try rw [Ef] at Ec)
       have amZ : (IntKind.i64.wrap (jH + 1)) = NQ := (dU _).trans Ef
       replace H := oM H; obtain ⟨vS, H⟩ := H; replace H := oM H; obtain ⟨tu, H⟩ := H; replace H := nl H; obtain ⟨adN, H⟩ := H
       obtain ⟨aHz, akH⟩ := nm (eH ++ [bt a0 (NQ)])
       rw [← akH.out] at H
       have H' := ak H; clear H
       obtain ⟨p6, q6, hx6⟩ := bx a0 jH
       obtain ⟨p9, q9, YQ⟩ := bx a0 jH
       obtain ⟨p15, q15, aHA⟩ := bx a0 (NQ)
       go_wp2_with (at_builtin; refine aP 34 38 (Kd.int .u8) 22 5 (.int .u8 0) 1 Tryz.underlying22 info5 HB (ur qp.out) akH (by have := adN.out; omega) ?_; intro aHB w17 ho hb hg hat; have atM := ak (ho); replace HB := ak (hb); clear ho hb hg hat qp)
       go_roundg k1
       case measure => exact kl
       case rel => exact ⟨_, _, (by first | rfl | (simp; done) | (simp only [← Ef] <;> (first | rfl | simp)) | (simp [*]; done)), H', ⟨kl⟩, ⟨ur atM.out⟩, ⟨ul HB.out⟩⟩
     ·
      replace H := nl H; obtain ⟨ac3, H⟩ := H
      obtain ⟨y157, akI⟩ := nm (eH ++ [bt a0 jH])
      rw [← akI.out] at H
      have H' := ak H; clear H
      obtain ⟨p6, q6, hx6⟩ := bx a0 jH
      obtain ⟨p9, q9, YQ⟩ := bx a0 jH
      obtain ⟨p18, q18, atN⟩ := bx a0 jH
      go_wp2_with (at_builtin; refine aP 34 38 (Kd.int .u8) 22 5 (.int .u8 0) 1 Tryz.underlying22 info5 HB (ur qp.out) akI (by have := ac3.out; omega) ?_; intro aHC w20 ho hb hg hat; have atO := ak (ho); replace HB := ak (hb); clear ho hb hg hat qp)
      go_roundg k1
      case measure => exact kl
      case rel => exact ⟨_, _, rs, H', ⟨kl⟩, ⟨ur atO.out⟩, ⟨ul HB.out⟩⟩
   ·
    obtain ⟨rfl, rfl, rfl⟩ := s3 H
    go_wp2
    go_ret3
    exact ⟨er, ul HB.out⟩
def jT.l0 : Nat → ByteArray → Int → Int → Option (Int)
 | 0, _, _, _ => none
 | k + 1, x0, x1, x5 => if x5 < (x0.size : Int) then (if 0 ≤ x5 then (if (bt x0 x5) = 34 then (if x5 ≤ (x0.size : Int) then ((jw.f k (x0.extract (x5 : Int).toNat x0.size)).bind fun akJ => (if akJ.2.2 = true then (jT.l0 k x0 x1 (wrap64 ((wrap64 (x5 + (wrap64 (akJ.2.1 - 1)))) + 1))) else (some (-1)))) else (none)) else (if (bt x0 x5) = x1 then (some x5) else (jT.l0 k x0 x1 (wrap64 (x5 + 1))))) else (none)) else (some (-1))
def jT.f (k : Nat) (a0 : ByteArray) (a1 : Int) : Option (Int) := jT.l0 k a0 a1 0
theorem jT.calls {k : Nat} {a0 : ByteArray} {a1 r : Int} {w : World} (h : jT.f k a0 a1 = some r) :
  Calls Tryz.prog 125 #[.string a0, .int .u8 a1] w fun e w' => e = .returned (.int .i64 r) ∧ Below w.heap.size w w' := by
 have HB := ak (Below.refl w.heap.size w)
 unfold jT.f at h; have H := h
 clear h
 have H' := ak H; clear H
 go_enter Tryz.func125, Tryz.ntmps125
 go_wp2
 go_loopg [5] k (fun kq v5 w' => ∃ (eH : Int), v5 = .int .i64 eH ∧ ah (jT.l0 kq a0 a1 eH = some r) ∧ ah (kq ≤ k) ∧ ah (Below w.heap.size w w'))
 case atStart => exact ⟨_, rs, H', ⟨Nat.le_refl _⟩, ⟨ul HB.out⟩⟩
 case round =>
  clear H'
  obtain ⟨eH, rfl, HA, xu, HB⟩ := hrel
  cases gk with
  | zero => exact zz HA.out
  | succ k1 =>
   obtain ⟨H⟩ := HA
   simp only [jT.l0] at H
   replace H := sd H
   rcases H with ⟨iQ, H⟩ | ⟨iQ, H⟩
   ·
    replace H := oM H; obtain ⟨rX, H⟩ := H; replace H := sq H
    rcases H with ⟨nT, wF, H⟩ | ⟨c6, nT, wF, H⟩
    ·
     have rY := eq_true (of_decide_eq_true (by assumption) : 0 ≤ eH)
     replace H := zK H; obtain ⟨sH, Ba, H⟩ := H; replace H := bd H
     obtain ⟨⟨t160, aHD, t162⟩, A9, H⟩ := H
     (try dsimp only at H)
     replace H := sb H
     rcases H with ⟨rfl, H⟩ | ⟨rfl, H⟩
     ·
      have H' := ak H; clear H
      obtain ⟨p5, q5, hx5⟩ := bx a0 eH
      go_wp2_with (refine gB Tryz.func134 (jw.calls A9.out) ?_; intro SN hb; replace HB := bs HB hb; clear hb)
      go_roundg k1
      case measure => exact kl
      case rel => exact ⟨_, rs, H', ⟨kl⟩, ⟨ul HB.out⟩⟩
     ·
      obtain rfl := s1 H
      obtain ⟨p5, q5, hx5⟩ := bx a0 eH
      go_wp2_with (refine gB Tryz.func134 (jw.calls A9.out) ?_; intro w12 hb; replace HB := bs HB hb; clear hb)
      go_ret
      exact ⟨er, ul HB.out⟩
    ·
     replace H := sq H
     rcases H with ⟨vS, zB, H⟩ | ⟨c13, vS, zB, H⟩
     ·
      obtain rfl := s1 H
      obtain ⟨p5, q5, hx5⟩ := bx a0 eH
      go_wp2
      go_ret
      exact ⟨er, ul HB.out⟩
     ·
      have H' := ak H; clear H
      obtain ⟨p5, q5, hx5⟩ := bx a0 eH
      go_wp2
      go_roundg k1
      case measure => exact kl
      case rel => exact ⟨_, rs, H', ⟨kl⟩, ⟨ul HB.out⟩⟩
   ·
    obtain rfl := s1 H
    go_wp2
    go_ret
    exact ⟨er, ul HB.out⟩
def dL.l0 : Nat → ByteArray → Int → List ByteArray → Option (List ByteArray)
 | 0, _, _, _ => none
 | k + 1, x0, x1, x5 => (jT.f k x0 x1).bind fun LC => (if LC < 0 then (if x5.length < 8796093022208 then (some (x5 ++ [x0])) else (none)) else (if 0 ≤ LC then (if LC ≤ (x0.size : Int) then (if x5.length < 8796093022208 then (if 0 ≤ (wrap64 (LC + 1)) then (if (wrap64 (LC + 1)) ≤ (x0.size : Int) then (dL.l0 k (x0.extract ((wrap64 (LC + 1)) : Int).toNat x0.size) x1 (x5 ++ [x0.extract 0 (LC : Int).toNat])) else (none)) else (none)) else (none)) else (none)) else (none)))
def dL.f (k : Nat) (a0 : ByteArray) (a1 : Int) : Option (List ByteArray) := dL.l0 k a0 a1 (([] : List ByteArray))
def dL.T5 : Bool × List (List Nat × List Nat) := (true, [([], []), ([], []), ([], []), ([1, 2], [1, 2]), ([3], [3]), ([0, 4], [0, 4]), ([], []), ([], []), ([7], [7]), ([6, 8], [6, 8]), ([5, 5, 0, 1, 2, 3, 4, 5], [0, 5]), ([9, 10, 0, 1, 2, 3, 4, 5, 6, 7, 8, 9, 10], [1, 6, 9])])
def dL.B5 : List Nat := [0, 0, 0, 6, 14, 31, 0, 0, 128, 448, 63, 2047]
theorem dL.am_ : sJ .any (opsOf Tryz.f90 5) = dL.T5 := by kernel_rfl
theorem dL.ael : nV dL.T5.2 dL.B5 = true := by kernel_rfl
theorem dL.calls {k : Nat} {a0 : ByteArray} {a1 : Int} {r : List ByteArray} {w : World} (h : dL.f k a0 a1 = some r) :
  Calls Tryz.prog 90 #[.string a0, .int .u8 a1] w fun e w' => ∃ qj : Value, e = .returned (qj) ∧ Kd.R Kd.string 9 w' w.heap.size (fun _ => True) qj r ∧ Below w.heap.size w w' := by
 have HB := ak (Below.refl w.heap.size w)
 unfold dL.f at h; have H := h
 clear h
 obtain ⟨aHE, akK⟩ := nm ([] : List ByteArray)
 rw [← akK.out] at H
 have H' := ak H; clear H
 go_enter Tryz.func90, Tryz.ntmps90
 go_wp2_with (refine GN 7 Kd.string 9 akK ?_; intro v164 w3 Rl hb; have atP := ak (Kd.aA Rl (aj (ul HB.out))); replace HB := bs HB hb; clear hb Rl)
 go_loopg [0, 5] k (fun kq v0 v5 w' => ∃ (qP : ByteArray) (eH : List ByteArray), v0 = .string qP ∧ ah (dL.l0 kq qP a1 eH = some r) ∧ ah (kq ≤ k) ∧ ah (Kd.R Kd.string 9 w' w.heap.size (fun _ => True) v5 eH) ∧ ah (Below w.heap.size w w'))
 case atStart => exact ⟨_, _, rs, H', ⟨Nat.le_refl _⟩, ⟨ur atP.out⟩, ⟨ul HB.out⟩⟩
 case round =>
  clear H'
  obtain ⟨qP, eH, rfl, HA, xu, qp, HB⟩ := hrel
  cases gk with
  | zero => exact zz HA.out
  | succ k1 =>
   obtain ⟨H⟩ := HA
   simp only [dL.l0] at H
   replace H := bd H; obtain ⟨LC, A5, H⟩ := H; replace H := sd H
   rcases H with ⟨nT, H⟩ | ⟨nT, H⟩
   ·
    replace H := nl H; obtain ⟨anh, H⟩ := H
    obtain ⟨y167, akL⟩ := nm (eH ++ [qP])
    rw [← akL.out] at H
    obtain rfl := s1 H
    go_wp2_with (first | (refine gB Tryz.func125 (jT.calls A5.out) ?_; intro w8 hb; replace qp := rb qp hb; replace HB := bs HB hb; clear hb) | (at_builtin; refine aP 13 15 Kd.string 23 9 (.string ⟨#[]⟩) 16 Tryz.underlying23 info9 HB (ur qp.out) akL (by have := anh.out; omega) ?_; intro v168 w9 ho hb hg hat; have atQ := ak (ho); replace HB := ak (hb); clear ho hb hg hat qp))
    go_ret
    exact ⟨_, er, ur atQ.out, ul HB.out⟩
   ·
    replace H := zK H; obtain ⟨oC, sK, H⟩ := H; replace H := zK H; obtain ⟨uH, Ec, H⟩ := H; replace H := nl H; obtain ⟨VK, H⟩ := H
    obtain ⟨azI, akM⟩ := nm (eH ++ [qP.extract 0 (LC : Int).toNat])
    rw [← akM.out] at H
    obtain ⟨Tv, GU⟩ : ∃ j_ : Int, (wrap64 (LC + 1)) = j_ := ⟨_, rfl⟩
    replace H : (if 0 ≤ (Tv) then (if (Tv) ≤ (qP.size : Int) then (dL.l0 k1 (qP.extract ((Tv) : Int).toNat qP.size) a1 azI) else (none)) else (none)) = some r := by first | (rw [GU] at H; exact H) | (simp only [GU] at H ⊢; exact H)
    (try rw [GU] at A5)
    have alH : (IntKind.i64.wrap (LC + 1)) = Tv := (dU _).trans GU
    replace H := zK H; obtain ⟨tu, xA, H⟩ := H; replace H := zK H; obtain ⟨vT, ES, H⟩ := H
    have H' := ak H; clear H
    try go_wp2_with (refine gB Tryz.func125 (jT.calls A5.out) ?_; intro w16 hb; replace qp := rb qp hb; replace HB := bs HB hb; clear hb)
    replace qp := ak (Kd.mD qp.out)
    replace HB := ak (iH HB.out)
    refine ro [4, 5] [0, 1, 2, 3, 6, 7, 8, 9, 4, 5, 10, 11] (fun w' => True) trivial ?_
    generalize w16.drew = w17 at qp HB ⊢
    repeat refine y8 ?_
    refine ld (N := some 21) (gk.trans rfl) rfl rfl (fun K hK => ?_)
    refine Cj (w1 := ?_) (v := ?_) (by rfl) rfl ?_ ?_
    rotate_left 2
    ·
     go_simp
     constructor
     ·
      rfl
     ·
      rfl
    refine hK.out _ _ trivial ?_
    clear hK K
    refine no (a' := ?_) ?_ ?_
    rotate_left
    ·
     show Act.put _ (some 21) _ = _
     simp only [Act.put, qW, qX, l_c, dU, fU]
     rfl
    refine ld (N := some 22) (gk.trans rfl) rfl rfl (fun K hK => ?_)
    refine Kd.nU Kd.string (w0 := w) w.heap.size (by rfl) (.tmp 17) (.tmp 21) 23 9 (.string ⟨#[]⟩) 16 rfl Tryz.underlying23 info9 rfl (by decide) (by omega) u5 eH (qP.extract 0 (LC : Int).toNat) [.string (qP.extract 0 (LC : Int).toNat)] (fun _ => True) (fun _ => False) rfl rfl ?aP (fun _ hk => hk.elim) ?aF ?aO ?aB ?aS ?aL ?_
    (case aP => exact rfl)
    (case aB => exact (ul HB.out))
    (case aF => exact (fun _ _ => trivial))
    (case aO => exact (ur qp.out))
    (case aS => exact (aj (ul HB.out)))
    (case aL => have := VK.out; omega)
    intro v171 w18 ho hb hg hat
    rw [← akM.out] at ho
    have yP := ak (hb)
    have yQ := ak (ho)
    clear HB qp
    have HB := yP
    have atS := yQ
    clear yP yQ ho hb hg hat
    refine hK.out _ _ trivial ?_
    clear hK K
    refine no (a' := ?_) ?_ ?_
    rotate_left
    ·
     show Act.put _ (some 22) _ = _
     simp only [Act.put, qW, qX, l_c, dU, fU]
     rfl
    repeat refine y8 ?_
    refine on ?_
    try go_wp2
    go_roundg k1
    case measure => exact kl
    case rel => exact ⟨_, _, (by first | rfl | (simp; done) | (simp only [← GU] <;> (first | rfl | simp)) | (simp [*]; done)), H', ⟨kl⟩, ⟨ur atS.out⟩, ⟨ul HB.out⟩⟩
def strings_Cut.f (a0 : ByteArray) (a1 : ByteArray) : Option (ByteArray × ByteArray × Bool) := if a0.size < 4294967281 then some (⟨(Lib.cut a0.data.toList a1.data.toList).1.toArray⟩, ⟨(Lib.cut a0.data.toList a1.data.toList).2.1.toArray⟩, (Lib.cut a0.data.toList a1.data.toList).2.2) else none
theorem strings_Cut.calls {a0 a1 r1 r2 : ByteArray} {r3 : Bool} {w : World} (Bl : MaxOk w) (h : strings_Cut.f a0 a1 = some (r1, r2, r3)) :
  Calls Tryz.prog 91 #[.string a0, .string a1] w fun e w' => e = .returned (.tuple #[.string r1, .string r2, .bool r3]) ∧ dS w w' := by
 unfold strings_Cut.f at h
 split at h
 ·
  rename_i hs
  injection h with h
  injection h with h1 h
  injection h with h2 h3
  subst h1; subst h2; subst h3
  obtain ⟨m, hm⟩ := Bl
  exact (Tryz.strings_Cut a0 a1 m w hs hm).mono fun e w' ⟨he, n, hn⟩ => ⟨he, ⟨⟨n, hn⟩⟩⟩
 ·
  cases h
end Go.Proofs.YtncdadcmghglkaaGreatDoor.PFnCountParts
