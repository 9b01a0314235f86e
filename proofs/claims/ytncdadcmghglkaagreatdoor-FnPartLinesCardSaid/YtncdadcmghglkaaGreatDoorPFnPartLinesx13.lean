/- Printed walks; conditions: those in each statement. -/
import Derived.Test.YtncdadcmghglkaaGreatDoorVFnPartLinesQt
import Derived.Test.YtncdadcmghglkaaGreatDoorVFnPartLinesYt
import Derived.Test.YtncdadcmghglkaaGreatDoorPFnPartLinesx0
import Derived.Test.YtncdadcmghglkaaGreatDoorPFnPartLinesx12
import Derived.Test.YtncdadcmghglkaaGreatDoorPFnPartLinesx11
-- short
-- dense
-- sq
-- sq2
namespace Go.Proofs.YtncdadcmghglkaaGreatDoor.PFnPartLines
open Go.RowKit Go.Proofs.YtncdadcmghglkaaGreatDoor.X Go.Proofs.YtncdadcmghglkaaGreatDoorW.bI Go.Proofs.YtncdadcmghglkaaGreatDoorW.iy Go.Proofs.YtncdadcmghglkaaGreatDoorW.iZ
attribute [local go_sem] kZ lg nK nM jW jX lq lu   -- for this text's walks alone
set_option linter.unusedVariables false
set_option maxHeartbeats 8000000
set_option maxRecDepth 100000
set_option linter.unusedSimpArgs false
def nO.f (eG : ByteArray) (eU : ByteArray) (a1 : ByteArray) : Option (Bool) := (rH.f eG a1).bind fun apE => (some apE)
theorem nO.calls {eG eU a1 : ByteArray} {gq1 : Nat} {r : Bool} {w : World} (hq1 : w.heap[gq1]? = some (.cells #[.string a1] 9 (0, 0))) (h : nO.f eG eU a1 = some r) :
  Calls Tryz.prog 123 #[.agg #[.string eG, .string eU], .pointer (some ⟨gq1, 0, none⟩)] w fun e w' => e = .returned (.bool r) ∧ Below w.heap.size w w' := by
 have Dn := Tryz.underlying69
 have uI := ak hq1
 clear hq1
 have HB := ak (Below.refl w.heap.size w)
 unfold nO.f at h; have H := h
 clear h
 replace H := bd H; obtain ⟨apE, A3, H⟩ := H
 obtain rfl := s1 H
 go_enter Tryz.func123, Tryz.ntmps123
 go_wp2_with (first | (refine bY HB 2 #[.string eG, .string eU] 69 ?_; intro aA6 w4 ado aA7 hg hb; have adp := Ba uI hg; have adq := Bc uI hg; replace uI := kb uI hb; replace HB := bz HB hb; clear hb hg; have aD7 := adq.out; have aD8 := adp.out; have z6 := zC ado.out; have ayq : w4.cell? ⟨gq1, 0, none⟩ = some (.string a1) := (aA uI.out 0).trans rfl; have ayr := gY uI.out 0) | (refine gB Tryz.func124 (rH.calls A3.out) ?_; intro w8 hb; replace uI := kb uI hb; replace ado := kb ado hb; replace HB := bz HB hb; clear hb))
 go_ret
 exact ⟨er, bb⟩
def eX.l0 : Nat → List (gX) → Int → Int → ByteArray → Option (Int)
 | 0, _, _, _, _ => none
 | k + 1, x0, x7, x8, Pj => if x8 < x7 then (if 0 ≤ x8 then (if x8 < (x0.length : Int) then ((nO.f ((fC x0 x8).f0) ((fC x0 x8).f1) Pj).bind fun apF => (if apF = true then (some x8) else (eX.l0 k x0 x7 (wrap64 (x8 + 1)) Pj))) else (none)) else (none)) else (some (-1))
def eX.f (k : Nat) (l0 : List (gX)) (Ey : ByteArray) : Option (Int) := eX.l0 k l0 (l0.length : Int) 0 Ey
theorem eX.calls {k c0 G7 : Nat} {A0 : Option Addr} {l0 : List (gX)} {Ey : ByteArray} {r : Int} {w : World} (hr0 : Kd.C qI w A0 l0.length l0) (hc0 : l0.length ≤ c0) (MV : w.heap[G7]? = some (.cells #[.string Ey] 9 (0, 0))) (h : eX.f k l0 Ey = some r) :
  Calls Tryz.prog 122 #[.slice A0 l0.length c0, .func (.func 123) #[] #[.pointer (some ⟨G7, 0, none⟩)]] w fun e w' => e = .returned (.int .i64 r) ∧ Below w.heap.size w w' := by
 have Dn := Tryz.underlying69
 have HR0 := ak hr0
 have xE := ak hc0
 clear hr0 hc0
 have uI := ak MV
 clear MV
 have HB := ak (Below.refl w.heap.size w)
 unfold eX.f at h; have H := h
 clear h
 have H' := ak H; clear H
 go_enter Tryz.func122, Tryz.ntmps122
 go_wp2
 go_loopg [8] k (fun kq v8 w' => ∃ (kL : Int), v8 = .int .i64 kL ∧ ah (eX.l0 kq l0 (l0.length : Int) kL Ey = some r) ∧ ah (kq ≤ k) ∧ ah (w'.heap[G7]? = some (.cells #[.string Ey] 9 (0, 0))) ∧ ah (Below w.heap.size w w'))
 case atStart => exact ⟨_, rs, H', ⟨Nat.le_refl _⟩, ⟨ub uI.out⟩, ⟨bb⟩⟩
 case round =>
  clear H'
  obtain ⟨kL, rfl, HA, xI, uI, HB⟩ := hrel
  cases gk with
  | zero => exact zz HA.out
  | succ k1 =>
   obtain ⟨H⟩ := HA
   simp only [eX.l0] at H
   replace H := sd H
   rcases H with ⟨iO, H⟩ | ⟨iO, H⟩
   ·
    replace H := oq H; obtain ⟨qR, H⟩ := H; replace H := oq H; obtain ⟨mW, H⟩ := H; replace H := bd H; obtain ⟨apF, A6, H⟩ := H; replace H := sb H
    rcases H with ⟨rfl, H⟩ | ⟨rfl, H⟩
    ·
     obtain rfl := s1 H
     have Xn := zi kL
     have Xo := zj kL l0.length
     obtain ⟨apG, alL, Ja, Jb⟩ := qL HR0.out kL Xn Xo
     cases alL
     replace Ja := cl HB.out Ja
     replace Jb := cl HB.out Jb
     replace Xn := eq_true Xn
     replace Xo := eq_true Xo
     go_wp2_with (go_at_call 123; refine mB (nO.calls (ub uI.out) A6.out) ?_; intro w8 hb; replace uI := kb uI hb; replace HB := bz HB hb; clear hb)
     go_ret
     exact ⟨er, bb⟩
    ·
     have H' := ak H; clear H
     have Xn := zi kL
     have Xo := zj kL l0.length
     obtain ⟨apG, alL, Ja, Jb⟩ := qL HR0.out kL Xn Xo
     cases alL
     replace Ja := cl HB.out Ja
     replace Jb := cl HB.out Jb
     replace Xn := eq_true Xn
     replace Xo := eq_true Xo
     go_wp2_with (go_at_call 123; refine mB (nO.calls (ub uI.out) A6.out) ?_; intro w9 hb; replace uI := kb uI hb; replace HB := bz HB hb; clear hb)
     go_roundg k1
     case measure => exact kl
     case rel => exact ⟨_, rs, H', ⟨kl⟩, ⟨ub uI.out⟩, ⟨bb⟩⟩
   ·
    obtain rfl := s1 H
    go_wp2
    go_ret
    exact ⟨er, bb⟩
def kM.f (k : Nat) (l0 : List (gX)) (a1 : ByteArray) : Option (Int) := (eX.f k l0 a1).bind fun apH => (some apH)
theorem kM.calls {k c0 : Nat} {A0 : Option Addr} {l0 : List (gX)} {a1 : ByteArray} {r : Int} {w : World} (hr0 : Kd.C qI w A0 l0.length l0) (hc0 : l0.length ≤ c0) (h : kM.f k l0 a1 = some r) :
  Calls Tryz.prog 88 #[.slice A0 l0.length c0, .string a1] w fun e w' => e = .returned (.int .i64 r) ∧ Below w.heap.size w w' := by
 have HR0 := ak hr0
 have xE := ak hc0
 clear hr0 hc0
 have HB := ak (Below.refl w.heap.size w)
 unfold kM.f at h; have H := h
 clear h
 replace H := bd H; obtain ⟨apH, A3, H⟩ := H
 obtain rfl := s1 H
 go_enter Tryz.func88, Tryz.ntmps88
 go_wp2_with (first | (refine bX HB 3 #[.string a1] 9 ?_; intro aA8 w4 adr aA9 hb; replace HB := bs HB hb; clear hb) | (refine gB Tryz.func122 (eX.calls (cu (Kd.bf HR0.out HB.out)) xE.out (ub adr.out) A3.out) ?_; intro w5 hb; replace adr := kb adr hb; replace HB := bz HB hb; clear hb))
 go_ret
 exact ⟨er, bb⟩
def mF.f (k : Nat) (l0 : List (gX)) (a1 : ByteArray) : Option (ByteArray × Bool) := (kM.f k l0 a1).bind fun Vh => (if Vh < 0 then (some ((⟨#[]⟩ : ByteArray), false)) else (if 0 ≤ Vh then (if Vh < (l0.length : Int) then (some ((fC l0 Vh).f1, true)) else (none)) else (none)))
theorem mF.calls {k c0 : Nat} {A0 : Option Addr} {l0 : List (gX)} {a1 r1 : ByteArray} {r2 : Bool} {w : World} (hr0 : Kd.C qI w A0 l0.length l0) (hc0 : l0.length ≤ c0) (h : mF.f k l0 a1 = some (r1, r2)) :
  Calls Tryz.prog 47 #[.slice A0 l0.length c0, .string a1] w fun e w' => e = .returned (.tuple #[.string r1, .bool r2]) ∧ Below w.heap.size w w' := by
 have HR0 := ak hr0
 have xE := ak hc0
 clear hr0 hc0
 have HB := ak (Below.refl w.heap.size w)
 unfold mF.f at h; have H := h
 clear h
 replace H := bd H; obtain ⟨Vh, A3, H⟩ := H; replace H := sd H
 rcases H with ⟨qR, H⟩ | ⟨qR, H⟩
 ·
  obtain ⟨rfl, rfl⟩ := s2 H
  go_enter Tryz.func47, Tryz.ntmps47
  go_wp2_with (refine gB Tryz.func88 (kM.calls (cu HR0.out) xE.out A3.out) ?_; intro w5 hb; replace HB := bs HB hb; clear hb)
  go_ret2
  exact ⟨er, ul HB.out⟩
 ·
  replace H := oq H; obtain ⟨nN, H⟩ := H; replace H := oq H; obtain ⟨rF, H⟩ := H
  obtain ⟨rfl, rfl⟩ := s2 H
  go_enter Tryz.func47, Tryz.ntmps47
  go_wp2_with (refine gB Tryz.func88 (kM.calls (cu HR0.out) xE.out A3.out) ?_; intro w8 hb; replace HB := bs HB hb; clear hb; have alM : 0 ≤ (Vh : Int) := of_decide_eq_true (by assumption); have alN : Vh < (l0.length : Int) := of_decide_eq_true (by assumption); obtain ⟨aA_, ays, TK, TL⟩ := qL HR0.out Vh alM alN; cases ays; replace TK := (HB.out.cell (World.block_lt_of_cell? w _ TK)).trans TK; replace TL := (HB.out.cell (World.block_lt_of_cell? w _ TL)).trans TL; replace alM := eq_true alM; replace alN := eq_true alN)
  go_ret2
  exact ⟨er, ul HB.out⟩
def jl.l0 : Nat → ByteArray → List Int → Int → Option (ByteArray × Int × Bool)
 | 0, _, _, _ => none
 | k + 1, x0, x5, x6 => if x6 < (x0.size : Int) then (if 0 ≤ x6 then (if (bt x0 x6) = 34 then (some (strOfNums x5, wrap64 (x6 + 1), true)) else (if (bt x0 x6) = 92 then (if (wrap64 (x6 + 1)) = (x0.size : Int) then (some ((⟨#[]⟩ : ByteArray), 0, false)) else (if 0 ≤ (wrap64 (x6 + 1)) then (if (wrap64 (x6 + 1)) < (x0.size : Int) then (if x5.length < 140737488355328 then (jl.l0 k x0 (x5 ++ [bt x0 (wrap64 (x6 + 1))]) (wrap64 ((wrap64 (x6 + 1)) + 1))) else (none)) else (none)) else (none))) else (if x5.length < 140737488355328 then (jl.l0 k x0 (x5 ++ [bt x0 x6]) (wrap64 (x6 + 1))) else (none)))) else (none)) else (some ((⟨#[]⟩ : ByteArray), 0, false))
def jl.f (k : Nat) (a0 : ByteArray) : Option (ByteArray × Int × Bool) := jl.l0 k a0 (([] : List Int)) 1
theorem jl.calls {k : Nat} {a0 r1 : ByteArray} {r2 : Int} {r3 : Bool} {w : World} (h : jl.f k a0 = some (r1, r2, r3)) :
  Calls Tryz.prog 134 #[.string a0] w fun e w' => e = .returned (.tuple #[.string r1, .int .i64 r2, .bool r3]) ∧ Below w.heap.size w w' := by
 have HB := ak (Below.refl w.heap.size w)
 unfold jl.f at h; have H := h
 clear h
 obtain ⟨aD9, aiw⟩ := nm ([] : List Int)
 rw [← aiw.out] at H
 have H' := ak H; clear H
 go_enter Tryz.func134, Tryz.ntmps134
 go_wp2_with (refine Gu 7 (Kd.int .u8) 5 aiw ?_; intro aD_ w2 ho3 hb; have apI := ak (Kd.aC ho3 (aj (ul HB.out))); replace HB := bs HB hb; clear hb ho3)
 go_loopg [5, 6] k (fun kq v5 v6 w' => ∃ (dM : List Int) (jy : Int), v6 = .int .i64 jy ∧ ah (jl.l0 kq a0 dM jy = some (r1, r2, r3)) ∧ ah (kq ≤ k) ∧ ah (Kd.R (Kd.int .u8) 5 w' w.heap.size (fun _ => True) v5 dM) ∧ ah (Below w.heap.size w w'))
 case atStart => exact ⟨_, _, rs, H', ⟨Nat.le_refl _⟩, ⟨ur apI.out⟩, ⟨ul HB.out⟩⟩
 case round =>
  clear H'
  obtain ⟨dM, jy, rfl, HA, xI, qg, HB⟩ := hrel
  cases gk with
  | zero => exact zz HA.out
  | succ k1 =>
   obtain ⟨H⟩ := HA
   simp only [jl.l0] at H
   replace H := sd H
   rcases H with ⟨qR, H⟩ | ⟨qR, H⟩
   ·
    replace H := oq H; obtain ⟨mW, H⟩ := H; replace H := sq H
    rcases H with ⟨rF, HY, H⟩ | ⟨c7, rF, HY, H⟩
    ·
     obtain ⟨rfl, rfl, rfl⟩ := s3 H
     obtain ⟨p6, q6, hx6⟩ := bx a0 jy
     have aEa := qE (P := Tryz.prog) Tryz.underlying22 Tryz.underlying5 Tryz.underlying9 (Kd.uJ qg.out)
     go_wp2
     go_ret3
     exact ⟨er, ul HB.out⟩
    ·
     replace H := sq H
     rcases H with ⟨nY, rX, H⟩ | ⟨c10, nY, rX, H⟩
     ·
      replace H := sq H
      rcases H with ⟨t_, D7, H⟩ | ⟨c11, t_, D7, H⟩
      ·
       obtain ⟨rfl, rfl, rfl⟩ := s3 H
       obtain ⟨p6, q6, hx6⟩ := bx a0 jy
       obtain ⟨p9, q9, YO⟩ := bx a0 jy
       go_wp2
       go_ret3
       exact ⟨er, ul HB.out⟩
      ·
       obtain ⟨NQ, Ea⟩ : ∃ j_ : Int, (wrap64 (jy + 1)) = j_ := ⟨_, rfl⟩
       replace H : (if 0 ≤ (NQ) then (if (NQ) < (a0.size : Int) then (if dM.length < 140737488355328 then (jl.l0 k1 a0 (dM ++ [bt a0 (NQ)]) (wrap64 ((NQ) + 1))) else (none)) else (none)) else (none)) = some (r1, r2, r3) := by first | (rw [Ea] at H; exact H) | (simp only [Ea] at H ⊢; exact H)
       (try rw [Ea] at t_)
       (try rw [Ea] at D7)
       have alO : (IntKind.i64.wrap (jy + 1)) = NQ := (iK _).trans Ea
       replace H := oq H; obtain ⟨vw, H⟩ := H; replace H := oq H; obtain ⟨sH, H⟩ := H; replace H := nl H; obtain ⟨ads, H⟩ := H
       obtain ⟨aEb, aix⟩ := nm (dM ++ [bt a0 (NQ)])
       rw [← aix.out] at H
       have H' := ak H; clear H
       obtain ⟨p6, q6, hx6⟩ := bx a0 jy
       obtain ⟨p9, q9, YO⟩ := bx a0 jy
       obtain ⟨p15, q15, aEc⟩ := bx a0 (NQ)
       go_wp2_with (at_builtin; refine aP 34 38 (Kd.int .u8) 22 5 (.int .u8 0) 1 Tryz.underlying22 info5 HB (ur qg.out) aix (by have := ads.out; omega) ?_; intro aEd w17 ho hb hg hat; have apJ := ak (ho); replace HB := ak (hb); clear ho hb hg hat qg)
       go_roundg k1
       case measure => exact kl
       case rel => exact ⟨_, _, (by first | rfl | (simp; done) | (simp only [← Ea] <;> (first | rfl | simp)) | (simp [*]; done)), H', ⟨kl⟩, ⟨ur apJ.out⟩, ⟨ul HB.out⟩⟩
     ·
      replace H := nl H; obtain ⟨adt, H⟩ := H
      obtain ⟨aEe, aiy⟩ := nm (dM ++ [bt a0 jy])
      rw [← aiy.out] at H
      have H' := ak H; clear H
      obtain ⟨p6, q6, hx6⟩ := bx a0 jy
      obtain ⟨p9, q9, YO⟩ := bx a0 jy
      obtain ⟨p18, q18, apK⟩ := bx a0 jy
      go_wp2_with (at_builtin; refine aP 34 38 (Kd.int .u8) 22 5 (.int .u8 0) 1 Tryz.underlying22 info5 HB (ur qg.out) aiy (by have := adt.out; omega) ?_; intro aEf w20 ho hb hg hat; have apL := ak (ho); replace HB := ak (hb); clear ho hb hg hat qg)
      go_roundg k1
      case measure => exact kl
      case rel => exact ⟨_, _, rs, H', ⟨kl⟩, ⟨ur apL.out⟩, ⟨ul HB.out⟩⟩
   ·
    obtain ⟨rfl, rfl, rfl⟩ := s3 H
    go_wp2
    go_ret3
    exact ⟨er, ul HB.out⟩
def jE.l0 : Nat → ByteArray → Int → Int → Option (Int)
 | 0, _, _, _ => none
 | k + 1, x0, x1, x5 => if x5 < (x0.size : Int) then (if 0 ≤ x5 then (if (bt x0 x5) = 34 then (if x5 ≤ (x0.size : Int) then ((jl.f k (x0.extract (x5 : Int).toNat x0.size)).bind fun aiz => (if aiz.2.2 = true then (jE.l0 k x0 x1 (wrap64 ((wrap64 (x5 + (wrap64 (aiz.2.1 - 1)))) + 1))) else (some (-1)))) else (none)) else (if (bt x0 x5) = x1 then (some x5) else (jE.l0 k x0 x1 (wrap64 (x5 + 1))))) else (none)) else (some (-1))
def jE.f (k : Nat) (a0 : ByteArray) (a1 : Int) : Option (Int) := jE.l0 k a0 a1 0
theorem jE.calls {k : Nat} {a0 : ByteArray} {a1 r : Int} {w : World} (h : jE.f k a0 a1 = some r) :
  Calls Tryz.prog 125 #[.string a0, .int .u8 a1] w fun e w' => e = .returned (.int .i64 r) ∧ Below w.heap.size w w' := by
 have HB := ak (Below.refl w.heap.size w)
 unfold jE.f at h; have H := h
 clear h
 have H' := ak H; clear H
 go_enter Tryz.func125, Tryz.ntmps125
 go_wp2
 go_loopg [5] k (fun kq v5 w' => ∃ (dM : Int), v5 = .int .i64 dM ∧ ah (jE.l0 kq a0 a1 dM = some r) ∧ ah (kq ≤ k) ∧ ah (Below w.heap.size w w'))
 case atStart => exact ⟨_, rs, H', ⟨Nat.le_refl _⟩, ⟨ul HB.out⟩⟩
 case round =>
  clear H'
  obtain ⟨dM, rfl, HA, xI, HB⟩ := hrel
  cases gk with
  | zero => exact zz HA.out
  | succ k1 =>
   obtain ⟨H⟩ := HA
   simp only [jE.l0] at H
   replace H := sd H
   rcases H with ⟨iO, H⟩ | ⟨iO, H⟩
   ·
    replace H := oq H; obtain ⟨qR, H⟩ := H; replace H := sq H
    rcases H with ⟨nN, wR, H⟩ | ⟨c6, nN, wR, H⟩
    ·
     have rF := eq_true (of_decide_eq_true (by assumption) : 0 ≤ dM)
     replace H := yL H; obtain ⟨tX, Eu, H⟩ := H; replace H := bd H
     obtain ⟨⟨aEg, aEh, aEi⟩, A9, H⟩ := H
     (try dsimp only at H)
     replace H := sb H
     rcases H with ⟨rfl, H⟩ | ⟨rfl, H⟩
     ·
      have H' := ak H; clear H
      obtain ⟨p5, q5, hx5⟩ := bx a0 dM
      go_wp2_with (refine gB Tryz.func134 (jl.calls A9.out) ?_; intro U3 hb; replace HB := bs HB hb; clear hb)
      go_roundg k1
      case measure => exact kl
      case rel => exact ⟨_, rs, H', ⟨kl⟩, ⟨ul HB.out⟩⟩
     ·
      obtain rfl := s1 H
      obtain ⟨p5, q5, hx5⟩ := bx a0 dM
      go_wp2_with (refine gB Tryz.func134 (jl.calls A9.out) ?_; intro w12 hb; replace HB := bs HB hb; clear hb)
      go_ret
      exact ⟨er, ul HB.out⟩
    ·
     replace H := sq H
     rcases H with ⟨vw, zy, H⟩ | ⟨c13, vw, zy, H⟩
     ·
      obtain rfl := s1 H
      obtain ⟨p5, q5, hx5⟩ := bx a0 dM
      go_wp2
      go_ret
      exact ⟨er, ul HB.out⟩
     ·
      have H' := ak H; clear H
      obtain ⟨p5, q5, hx5⟩ := bx a0 dM
      go_wp2
      go_roundg k1
      case measure => exact kl
      case rel => exact ⟨_, rs, H', ⟨kl⟩, ⟨ul HB.out⟩⟩
   ·
    obtain rfl := s1 H
    go_wp2
    go_ret
    exact ⟨er, ul HB.out⟩
def dJ.l0 : Nat → ByteArray → Int → List ByteArray → Option (List ByteArray)
 | 0, _, _, _ => none
 | k + 1, x0, x1, x5 => (jE.f k x0 x1).bind fun Le => (if Le < 0 then (if x5.length < 8796093022208 then (some (x5 ++ [x0])) else (none)) else (if 0 ≤ Le then (if Le ≤ (x0.size : Int) then (if x5.length < 8796093022208 then (if 0 ≤ (wrap64 (Le + 1)) then (if (wrap64 (Le + 1)) ≤ (x0.size : Int) then (dJ.l0 k (x0.extract ((wrap64 (Le + 1)) : Int).toNat x0.size) x1 (x5 ++ [x0.extract 0 (Le : Int).toNat])) else (none)) else (none)) else (none)) else (none)) else (none)))
def dJ.f (k : Nat) (a0 : ByteArray) (a1 : Int) : Option (List ByteArray) := dJ.l0 k a0 a1 (([] : List ByteArray))
def dJ.T5 : Bool × List (List Nat × List Nat) := (true, [([], []), ([], []), ([], []), ([1, 2], [1, 2]), ([3], [3]), ([0, 4], [0, 4]), ([], []), ([], []), ([7], [7]), ([6, 8], [6, 8]), ([5, 5, 0, 1, 2, 3, 4, 5], [0, 5]), ([9, 10, 0, 1, 2, 3, 4, 5, 6, 7, 8, 9, 10], [1, 6, 9])])
def dJ.B5 : List Nat := [0, 0, 0, 6, 14, 31, 0, 0, 128, 448, 63, 2047]
theorem dJ.alP : rU .any (opsOf Tryz.f90 5) = dJ.T5 := by kernel_rfl
theorem dJ.adu : nD dJ.T5.2 dJ.B5 = true := by kernel_rfl
theorem dJ.calls {k : Nat} {a0 : ByteArray} {a1 : Int} {r : List ByteArray} {w : World} (h : dJ.f k a0 a1 = some r) :
  Calls Tryz.prog 90 #[.string a0, .int .u8 a1] w fun e w' => ∃ oV : Value, e = .returned (oV) ∧ Kd.R Kd.string 9 w' w.heap.size (fun _ => True) oV r ∧ Below w.heap.size w w' := by
 have HB := ak (Below.refl w.heap.size w)
 unfold dJ.f at h; have H := h
 clear h
 obtain ⟨aEj, aiA⟩ := nm ([] : List ByteArray)
 rw [← aiA.out] at H
 have H' := ak H; clear H
 go_enter Tryz.func90, Tryz.ntmps90
 go_wp2_with (refine Gu 7 Kd.string 9 aiA ?_; intro aEk w3 Ro hb; have apM := ak (Kd.aC Ro (aj (ul HB.out))); replace HB := bs HB hb; clear hb Ro)
 go_loopg [0, 5] k (fun kq v0 v5 w' => ∃ (qJ : ByteArray) (dM : List ByteArray), v0 = .string qJ ∧ ah (dJ.l0 kq qJ a1 dM = some r) ∧ ah (kq ≤ k) ∧ ah (Kd.R Kd.string 9 w' w.heap.size (fun _ => True) v5 dM) ∧ ah (Below w.heap.size w w'))
 case atStart => exact ⟨_, _, rs, H', ⟨Nat.le_refl _⟩, ⟨ur apM.out⟩, ⟨ul HB.out⟩⟩
 case round =>
  clear H'
  obtain ⟨qJ, dM, rfl, HA, xI, qg, HB⟩ := hrel
  cases gk with
  | zero => exact zz HA.out
  | succ k1 =>
   obtain ⟨H⟩ := HA
   simp only [dJ.l0] at H
   replace H := bd H; obtain ⟨Le, A5, H⟩ := H; replace H := sd H
   rcases H with ⟨nN, H⟩ | ⟨nN, H⟩
   ·
    replace H := nl H; obtain ⟨aly, H⟩ := H
    obtain ⟨aEl, aiB⟩ := nm (dM ++ [qJ])
    rw [← aiB.out] at H
    obtain rfl := s1 H
    go_wp2_with (first | (refine gB Tryz.func125 (jE.calls A5.out) ?_; intro w8 hb; replace qg := rb qg hb; replace HB := bs HB hb; clear hb) | (at_builtin; refine aP 13 15 Kd.string 23 9 (.string ⟨#[]⟩) 16 Tryz.underlying23 info9 HB (ur qg.out) aiB (by have := aly.out; omega) ?_; intro aEm w9 ho hb hg hat; have apN := ak (ho); replace HB := ak (hb); clear ho hb hg hat qg))
    go_ret
    exact ⟨_, er, ur apN.out, ul HB.out⟩
   ·
    replace H := yL H; obtain ⟨nY, rX, H⟩ := H; replace H := yL H; obtain ⟨t_, D7, H⟩ := H; replace H := nl H; obtain ⟨Vj, H⟩ := H
    obtain ⟨ayt, aiC⟩ := nm (dM ++ [qJ.extract 0 (Le : Int).toNat])
    rw [← aiC.out] at H
    obtain ⟨TM, G8⟩ : ∃ j_ : Int, (wrap64 (Le + 1)) = j_ := ⟨_, rfl⟩
    replace H : (if 0 ≤ (TM) then (if (TM) ≤ (qJ.size : Int) then (dJ.l0 k1 (qJ.extract ((TM) : Int).toNat qJ.size) a1 ayt) else (none)) else (none)) = some r := by first | (rw [G8] at H; exact H) | (simp only [G8] at H ⊢; exact H)
    (try rw [G8] at A5)
    have alQ : (IntKind.i64.wrap (Le + 1)) = TM := (iK _).trans G8
    replace H := yL H; obtain ⟨sH, wS, H⟩ := H; replace H := yL H; obtain ⟨vC, ER, H⟩ := H
    have H' := ak H; clear H
    try go_wp2_with (refine gB Tryz.func125 (jE.calls A5.out) ?_; intro w16 hb; replace qg := rb qg hb; replace HB := bs HB hb; clear hb)
    replace qg := ak (Kd.fV qg.out)
    replace HB := ak (fQ HB.out)
    refine ro [4, 5] [0, 1, 2, 3, 6, 7, 8, 9, 4, 5, 10, 11] (fun w' => True) trivial ?_
    generalize w16.drew = w17 at qg HB ⊢
    repeat refine wO ?_
    refine ld (N := some 21) (gk.trans rfl) rfl rfl (fun K hK => ?_)
    refine Ci (w1 := ?_) (v := ?_) (by rfl) rfl ?_ ?_
    rotate_left 2
    ·
     go_simp
     constructor
     ·
      rfl
     ·
      rfl
    refine hK.out _ _ trivial ?_
    clear hK K
    refine no (a' := ?_) ?_ ?_
    rotate_left
    ·
     show Act.put _ (some 21) _ = _
     simp only [Act.put, yT, yU, l_c, iK, jI]
     rfl
    refine ld (N := some 22) (gk.trans rfl) rfl rfl (fun K hK => ?_)
    refine Kd.nJ Kd.string (w0 := w) w.heap.size (by rfl) (.tmp 17) (.tmp 21) 23 9 (.string ⟨#[]⟩) 16 rfl Tryz.underlying23 info9 rfl (by decide) (by omega) u5 dM (qJ.extract 0 (Le : Int).toNat) [.string (qJ.extract 0 (Le : Int).toNat)] (fun _ => True) (fun _ => False) rfl rfl ?aP (fun _ hk => hk.elim) ?aF ?aO ?aB ?aS ?aL ?_
    (case aP => exact rfl)
    (case aB => exact (ul HB.out))
    (case aF => exact (fun _ _ => trivial))
    (case aO => exact (ur qg.out))
    (case aS => exact (aj (ul HB.out)))
    (case aL => have := Vj.out; omega)
    intro aEn w18 ho hb hg hat
    rw [← aiC.out] at ho
    have yQ := ak (hb)
    have yR := ak (ho)
    clear HB qg
    have HB := yQ
    have apO := yR
    clear yQ yR ho hb hg hat
    refine hK.out _ _ trivial ?_
    clear hK K
    refine no (a' := ?_) ?_ ?_
    rotate_left
    ·
     show Act.put _ (some 22) _ = _
     simp only [Act.put, yT, yU, l_c, iK, jI]
     rfl
    repeat refine wO ?_
    refine on ?_
    try go_wp2
    go_roundg k1
    case measure => exact kl
    case rel => exact ⟨_, _, (by first | rfl | (simp; done) | (simp only [← G8] <;> (first | rfl | simp)) | (simp [*]; done)), H', ⟨kl⟩, ⟨ur apO.out⟩, ⟨ul HB.out⟩⟩
def strings_Cut.f (a0 : ByteArray) (a1 : ByteArray) : Option (ByteArray × ByteArray × Bool) := if a0.size < 4294967281 then some (⟨(Lib.cut a0.data.toList a1.data.toList).1.toArray⟩, ⟨(Lib.cut a0.data.toList a1.data.toList).2.1.toArray⟩, (Lib.cut a0.data.toList a1.data.toList).2.2) else none
theorem strings_Cut.calls {a0 a1 r1 r2 : ByteArray} {r3 : Bool} {w : World} (CB : MaxOk w) (h : strings_Cut.f a0 a1 = some (r1, r2, r3)) :
  Calls Tryz.prog 91 #[.string a0, .string a1] w fun e w' => e = .returned (.tuple #[.string r1, .string r2, .bool r3]) ∧ dP w w' := by
 unfold strings_Cut.f at h
 split at h
 ·
  rename_i hs
  injection h with h
  injection h with h1 h
  injection h with h2 h3
  subst h1; subst h2; subst h3
  obtain ⟨m, hm⟩ := CB
  exact (Tryz.strings_Cut a0 a1 m w hs hm).mono fun e w' ⟨he, n, hn⟩ => ⟨he, ⟨⟨n, hn⟩⟩⟩
 ·
  cases h
def kN.f (a0 : Int) : Option (Bool) := (bC.f a0).bind fun apP => (if apP = true then (some true) else ((dF.f a0).bind fun apQ => (if apQ = true then (some true) else (if a0 = 33 then (some true) else (if a0 ≥ 35 then (if a0 ≤ 39 then (some true) else (if a0 = 42 then (some true) else (if a0 = 43 then (some true) else (if a0 = 45 then (some true) else (if a0 = 47 then (some true) else (if a0 = 61 then (some true) else (if a0 = 63 then (some true) else (if a0 ≥ 94 then (if a0 ≤ 96 then (some true) else (if a0 ≥ 123 then (some (decide (a0 ≤ 126))) else (some false))) else (if a0 ≥ 123 then (some (decide (a0 ≤ 126))) else (some false)))))))))) else (if a0 = 42 then (some true) else (if a0 = 43 then (some true) else (if a0 = 45 then (some true) else (if a0 = 47 then (some true) else (if a0 = 61 then (some true) else (if a0 = 63 then (some true) else (if a0 ≥ 94 then (if a0 ≤ 96 then (some true) else (if a0 ≥ 123 then (some (decide (a0 ≤ 126))) else (some false))) else (if a0 ≥ 123 then (some (decide (a0 ≤ 126))) else (some false))))))))))))))
theorem kN.calls {a0 : Int} {r : Bool} {w : World} (h : kN.f a0 = some r) :
  Calls Tryz.prog 135 #[.int .u8 a0] w fun e w' => e = .returned (.bool r) ∧ dP w w' := by
 unfold kN.f at h; have H := h
 clear h
 replace H := bd H; obtain ⟨apP, A2, H⟩ := H; replace H := sb H
 rcases H with ⟨rfl, H⟩ | ⟨rfl, H⟩
 ·
  obtain rfl := s1 H
  go_enter Tryz.func135, Tryz.ntmps135
  go_wp2_with (refine gA Tryz.func140 (bC.calls A2.out) ?_; intro nd)
  go_ret
  exact ⟨rs, dn⟩
 ·
  replace H := bd H; obtain ⟨apQ, A4, H⟩ := H; replace H := sb H
  rcases H with ⟨rfl, H⟩ | ⟨rfl, H⟩
  ·
   obtain rfl := s1 H
   go_enter Tryz.func135, Tryz.ntmps135
   go_wp2_with (first | (refine gA Tryz.func140 (bC.calls A2.out) ?_; intro nd) | (go_at_call 141; refine mA (dF.calls A4.out) ?_; intro nd))
   go_ret
   exact ⟨rs, dn⟩
  ·
   replace H := sq H
   rcases H with ⟨nN, wR, H⟩ | ⟨c6, nN, wR, H⟩
   ·
    obtain rfl := s1 H
    go_enter Tryz.func135, Tryz.ntmps135
    go_wp2_with (first | (refine gA Tryz.func140 (bC.calls A2.out) ?_; intro nd) | (go_at_call 141; refine mA (dF.calls A4.out) ?_; intro nd))
    go_ret
    exact ⟨rs, dn⟩
   ·
    replace H := sp H
    rcases H with ⟨c7, H⟩ | ⟨c7, H⟩
    ·
     have rF : decide (35 ≤ a0) = true := decide_eq_true c7
     clear c7
     replace H := sd H
     rcases H with ⟨tX, H⟩ | ⟨tX, H⟩
     ·
      obtain rfl := s1 H
      go_enter Tryz.func135, Tryz.ntmps135
      go_wp2_with (first | (refine gA Tryz.func140 (bC.calls A2.out) ?_; intro nd) | (go_at_call 141; refine mA (dF.calls A4.out) ?_; intro nd))
      go_ret
      exact ⟨rs, dn⟩
     ·
      replace H := sq H
      rcases H with ⟨xY, EN, H⟩ | ⟨c9, xY, EN, H⟩
      ·
       obtain rfl := s1 H
       go_enter Tryz.func135, Tryz.ntmps135
       go_wp2_with (first | (refine gA Tryz.func140 (bC.calls A2.out) ?_; intro nd) | (go_at_call 141; refine mA (dF.calls A4.out) ?_; intro nd))
       go_ret
       exact ⟨rs, dn⟩
      ·
       replace H := sq H
       rcases H with ⟨nY, rX, H⟩ | ⟨c10, nY, rX, H⟩
       ·
        obtain rfl := s1 H
        go_enter Tryz.func135, Tryz.ntmps135
        go_wp2_with (first | (refine gA Tryz.func140 (bC.calls A2.out) ?_; intro nd) | (go_at_call 141; refine mA (dF.calls A4.out) ?_; intro nd))
        go_ret
        exact ⟨rs, dn⟩
       ·
        replace H := sq H
        rcases H with ⟨t_, D7, H⟩ | ⟨c11, t_, D7, H⟩
        ·
         obtain rfl := s1 H
         go_enter Tryz.func135, Tryz.ntmps135
         go_wp2_with (first | (refine gA Tryz.func140 (bC.calls A2.out) ?_; intro nd) | (go_at_call 141; refine mA (dF.calls A4.out) ?_; intro nd))
         go_ret
         exact ⟨rs, dn⟩
        ·
         replace H := sq H
         rcases H with ⟨wU, CP, H⟩ | ⟨c12, wU, CP, H⟩
         ·
          obtain rfl := s1 H
          go_enter Tryz.func135, Tryz.ntmps135
          go_wp2_with (first | (refine gA Tryz.func140 (bC.calls A2.out) ?_; intro nd) | (go_at_call 141; refine mA (dF.calls A4.out) ?_; intro nd))
          go_ret
          exact ⟨rs, dn⟩
         ·
          replace H := sq H
          rcases H with ⟨vw, zy, H⟩ | ⟨c13, vw, zy, H⟩
          ·
           obtain rfl := s1 H
           go_enter Tryz.func135, Tryz.ntmps135
           go_wp2_with (first | (refine gA Tryz.func140 (bC.calls A2.out) ?_; intro nd) | (go_at_call 141; refine mA (dF.calls A4.out) ?_; intro nd))
           go_ret
           exact ⟨rs, dn⟩
          ·
           replace H := sq H
           rcases H with ⟨sH, wS, H⟩ | ⟨c14, sH, wS, H⟩
           ·
            obtain rfl := s1 H
            go_enter Tryz.func135, Tryz.ntmps135
            go_wp2_with (first | (refine gA Tryz.func140 (bC.calls A2.out) ?_; intro nd) | (go_at_call 141; refine mA (dF.calls A4.out) ?_; intro nd))
            go_ret
            exact ⟨rs, dn⟩
           ·
            replace H := sp H
            rcases H with ⟨c15, H⟩ | ⟨c15, H⟩
            ·
             have vC : decide (94 ≤ a0) = true := decide_eq_true c15
             clear c15
             replace H := sd H
             rcases H with ⟨zA, H⟩ | ⟨zA, H⟩
             ·
              obtain rfl := s1 H
              go_enter Tryz.func135, Tryz.ntmps135
              go_wp2_with (first | (refine gA Tryz.func140 (bC.calls A2.out) ?_; intro nd) | (go_at_call 141; refine mA (dF.calls A4.out) ?_; intro nd))
              go_ret
              exact ⟨rs, dn⟩
             ·
              replace H := sp H
              rcases H with ⟨c17, H⟩ | ⟨c17, H⟩
              ·
               have sJ : decide (123 ≤ a0) = true := decide_eq_true c17
               clear c17
               obtain rfl := s1 H
               go_enter Tryz.func135, Tryz.ntmps135
               go_wp2_with (first | (refine gA Tryz.func140 (bC.calls A2.out) ?_; intro nd) | (go_at_call 141; refine mA (dF.calls A4.out) ?_; intro nd))
               go_ret
               exact ⟨rs, dn⟩
              ·
               have sJ : decide (123 ≤ a0) = false := decide_eq_false c17
               clear c17
               obtain rfl := s1 H
               go_enter Tryz.func135, Tryz.ntmps135
               go_wp2_with (first | (refine gA Tryz.func140 (bC.calls A2.out) ?_; intro nd) | (go_at_call 141; refine mA (dF.calls A4.out) ?_; intro nd))
               go_ret
               exact ⟨rs, dn⟩
            ·
             have vC : decide (94 ≤ a0) = false := decide_eq_false c15
             clear c15
             replace H := sp H
             rcases H with ⟨c18, H⟩ | ⟨c18, H⟩
             ·
              have vF : decide (123 ≤ a0) = true := decide_eq_true c18
              clear c18
              obtain rfl := s1 H
              go_enter Tryz.func135, Tryz.ntmps135
              go_wp2_with (first | (refine gA Tryz.func140 (bC.calls A2.out) ?_; intro nd) | (go_at_call 141; refine mA (dF.calls A4.out) ?_; intro nd))
              go_ret
              exact ⟨rs, dn⟩
             ·
              have vF : decide (123 ≤ a0) = false := decide_eq_false c18
              clear c18
              obtain rfl := s1 H
              go_enter Tryz.func135, Tryz.ntmps135
              go_wp2_with (first | (refine gA Tryz.func140 (bC.calls A2.out) ?_; intro nd) | (go_at_call 141; refine mA (dF.calls A4.out) ?_; intro nd))
              go_ret
              exact ⟨rs, dn⟩
    ·
     have rF : decide (35 ≤ a0) = false := decide_eq_false c7
     clear c7
     replace H := sq H
     rcases H with ⟨z_, Eb, H⟩ | ⟨c19, z_, Eb, H⟩
     ·
      obtain rfl := s1 H
      go_enter Tryz.func135, Tryz.ntmps135
      go_wp2_with (first | (refine gA Tryz.func140 (bC.calls A2.out) ?_; intro nd) | (go_at_call 141; refine mA (dF.calls A4.out) ?_; intro nd))
      go_ret
      exact ⟨rs, dn⟩
     ·
      replace H := sq H
      rcases H with ⟨Q_, U7, H⟩ | ⟨c20, Q_, U7, H⟩
      ·
       obtain rfl := s1 H
       go_enter Tryz.func135, Tryz.ntmps135
       go_wp2_with (first | (refine gA Tryz.func140 (bC.calls A2.out) ?_; intro nd) | (go_at_call 141; refine mA (dF.calls A4.out) ?_; intro nd))
       go_ret
       exact ⟨rs, dn⟩
      ·
       replace H := sq H
       rcases H with ⟨D_, aiD, H⟩ | ⟨c21, D_, aiD, H⟩
       ·
        obtain rfl := s1 H
        go_enter Tryz.func135, Tryz.ntmps135
        go_wp2_with (first | (refine gA Tryz.func140 (bC.calls A2.out) ?_; intro nd) | (go_at_call 141; refine mA (dF.calls A4.out) ?_; intro nd))
        go_ret
        exact ⟨rs, dn⟩
       ·
        replace H := sq H
        rcases H with ⟨ES, Za, H⟩ | ⟨c22, ES, Za, H⟩
        ·
         obtain rfl := s1 H
         go_enter Tryz.func135, Tryz.ntmps135
         go_wp2_with (first | (refine gA Tryz.func140 (bC.calls A2.out) ?_; intro nd) | (go_at_call 141; refine mA (dF.calls A4.out) ?_; intro nd))
         go_ret
         exact ⟨rs, dn⟩
        ·
         replace H := sq H
         rcases H with ⟨Ad, MQ, H⟩ | ⟨c23, Ad, MQ, H⟩
         ·
          obtain rfl := s1 H
          go_enter Tryz.func135, Tryz.ntmps135
          go_wp2_with (first | (refine gA Tryz.func140 (bC.calls A2.out) ?_; intro nd) | (go_at_call 141; refine mA (dF.calls A4.out) ?_; intro nd))
          go_ret
          exact ⟨rs, dn⟩
         ·
          replace H := sq H
          rcases H with ⟨Pm, adv, H⟩ | ⟨c24, Pm, adv, H⟩
          ·
           obtain rfl := s1 H
           go_enter Tryz.func135, Tryz.ntmps135
           go_wp2_with (first | (refine gA Tryz.func140 (bC.calls A2.out) ?_; intro nd) | (go_at_call 141; refine mA (dF.calls A4.out) ?_; intro nd))
           go_ret
           exact ⟨rs, dn⟩
          ·
           replace H := sp H
           rcases H with ⟨c25, H⟩ | ⟨c25, H⟩
           ·
            have Pg : decide (94 ≤ a0) = true := decide_eq_true c25
            clear c25
            replace H := sd H
            rcases H with ⟨MW, H⟩ | ⟨MW, H⟩
            ·
             obtain rfl := s1 H
             go_enter Tryz.func135, Tryz.ntmps135
             go_wp2_with (first | (refine gA Tryz.func140 (bC.calls A2.out) ?_; intro nd) | (go_at_call 141; refine mA (dF.calls A4.out) ?_; intro nd))
             go_ret
             exact ⟨rs, dn⟩
            ·
             replace H := sp H
             rcases H with ⟨c27, H⟩ | ⟨c27, H⟩
             ·
              have EO : decide (123 ≤ a0) = true := decide_eq_true c27
              clear c27
              obtain rfl := s1 H
              go_enter Tryz.func135, Tryz.ntmps135
              go_wp2_with (first | (refine gA Tryz.func140 (bC.calls A2.out) ?_; intro nd) | (go_at_call 141; refine mA (dF.calls A4.out) ?_; intro nd))
              go_ret
              exact ⟨rs, dn⟩
             ·
              have EO : decide (123 ≤ a0) = false := decide_eq_false c27
              clear c27
              obtain rfl := s1 H
              go_enter Tryz.func135, Tryz.ntmps135
              go_wp2_with (first | (refine gA Tryz.func140 (bC.calls A2.out) ?_; intro nd) | (go_at_call 141; refine mA (dF.calls A4.out) ?_; intro nd))
              go_ret
              exact ⟨rs, dn⟩
           ·
            have Pg : decide (94 ≤ a0) = false := decide_eq_false c25
            clear c25
            replace H := sp H
            rcases H with ⟨c28, H⟩ | ⟨c28, H⟩
            ·
             have EP : decide (123 ≤ a0) = true := decide_eq_true c28
             clear c28
             obtain rfl := s1 H
             go_enter Tryz.func135, Tryz.ntmps135
             go_wp2_with (first | (refine gA Tryz.func140 (bC.calls A2.out) ?_; intro nd) | (go_at_call 141; refine mA (dF.calls A4.out) ?_; intro nd))
             go_ret
             exact ⟨rs, dn⟩
            ·
             have EP : decide (123 ≤ a0) = false := decide_eq_false c28
             clear c28
             obtain rfl := s1 H
             go_enter Tryz.func135, Tryz.ntmps135
             go_wp2_with (first | (refine gA Tryz.func140 (bC.calls A2.out) ?_; intro nd) | (go_at_call 141; refine mA (dF.calls A4.out) ?_; intro nd))
             go_ret
             exact ⟨rs, dn⟩
mutual
def dH.l0 : Nat → ByteArray → List ByteArray → Int → Bool → Option (List ByteArray × Bool)
 | 0, _, _, _, _ => none
 | k + 1, x0, x4, x5, x6 => if x5 < (x0.size : Int) then (if 0 ≤ x5 then (if (bt x0 x5) = 32 then (dH.l0 k x0 x4 (wrap64 (x5 + 1)) true) else (if x6 = true then (if (bt x0 x5) = 34 then (if x5 ≤ (x0.size : Int) then ((jl.f k (x0.extract (x5 : Int).toNat x0.size)).bind fun adw => (if adw.2.2 = true then (if x4.length < 8796093022208 then (dH.l0 k x0 (x4 ++ [adw.1]) (wrap64 (x5 + adw.2.1)) false) else (none)) else (some (([] : List ByteArray), false)))) else (none)) else (dH.l1 k x0 x4 x5 x5)) else (some (([] : List ByteArray), false)))) else (none)) else (some (x4, true))
def dH.l1 : Nat → ByteArray → List ByteArray → Int → Int → Option (List ByteArray × Bool)
 | 0, _, _, _, _ => none
 | k + 1, x0, x4, x5, x10 => if x10 < (x0.size : Int) then (if 0 ≤ x10 then ((kN.f (bt x0 x10)).bind fun apR => (if apR = true then (dH.l1 k x0 x4 x5 (wrap64 (x10 + 1))) else (if x10 = x5 then (some (([] : List ByteArray), false)) else (if 0 ≤ x5 then (if x5 ≤ x10 then (if x10 ≤ (x0.size : Int) then (if x4.length < 8796093022208 then (dH.l0 k x0 (x4 ++ [x0.extract (x5 : Int).toNat (x10 : Int).toNat]) x10 false) else (none)) else (none)) else (none)) else (none))))) else (none)) else (if x10 = x5 then (some (([] : List ByteArray), false)) else (if 0 ≤ x5 then (if x5 ≤ x10 then (if x10 ≤ (x0.size : Int) then (if x4.length < 8796093022208 then (dH.l0 k x0 (x4 ++ [x0.extract (x5 : Int).toNat (x10 : Int).toNat]) x10 false) else (none)) else (none)) else (none)) else (none)))
end
def dH.f (k : Nat) (a0 : ByteArray) : Option (List ByteArray × Bool) := (bg.f k a0).bind fun apS => (if apS = true then (dH.l0 k a0 (([] : List ByteArray)) 0 true) else (some (([] : List ByteArray), false)))
theorem dH.calls {k : Nat} {a0 : ByteArray} {r1 : List ByteArray} {r2 : Bool} {w : World} (h : dH.f k a0 = some (r1, r2)) :
  Calls Tryz.prog 94 #[.string a0] w fun e w' => ∃ oV : Value, e = .returned (.tuple #[oV, .bool r2]) ∧ Kd.R Kd.string 9 w' w.heap.size (fun _ => True) oV r1 ∧ Below w.heap.size w w' := by
 have HB := ak (Below.refl w.heap.size w)
 unfold dH.f at h; have H := h
 clear h
 replace H := bd H; obtain ⟨apS, A2, H⟩ := H; replace H := sb H
 rcases H with ⟨rfl, H⟩ | ⟨rfl, H⟩
 ·
  obtain ⟨aEo, aiE⟩ := nm ([] : List ByteArray)
  rw [← aiE.out] at H
  have H' := ak H; clear H
  go_enter Tryz.func94, Tryz.ntmps94
  go_wp2_with (first | (refine gA Tryz.func89 (bg.calls A2.out) ?_; intro nd) | (refine Gu 14 Kd.string 9 aiE ?_; intro aEp w4 ho5 hb; have apT := ak (Kd.aC ho5 (aj (ul HB.out))); replace HB := bs HB hb; clear hb ho5))
  go_loopg [4, 5, 6] k (fun kq v4 v5 v6 w' => ∃ (eP : List ByteArray) (dM : Int) (jy : Bool), v5 = .int .i64 dM ∧ v6 = .bool jy ∧ ah (dH.l0 kq a0 eP dM jy = some (r1, r2)) ∧ ah (kq ≤ k) ∧ ah (Kd.R Kd.string 9 w' w.heap.size (fun _ => True) v4 eP) ∧ ah (Below w.heap.size w w'))
  case atStart => exact ⟨_, _, _, rs, rs, H', ⟨Nat.le_refl _⟩, ⟨ur apT.out⟩, ⟨ul HB.out⟩⟩
  case round =>
   clear H'
   obtain ⟨eP, dM, jy, rfl, rfl, HA, xI, dO, HB⟩ := hrel
   cases gk with
   | zero => exact zz HA.out
   | succ k1 =>
    obtain ⟨H⟩ := HA
    simp only [dH.l0] at H
    replace H := sd H
    rcases H with ⟨nN, H⟩ | ⟨nN, H⟩
    ·
     replace H := oq H; obtain ⟨rF, H⟩ := H; replace H := sq H
     rcases H with ⟨xY, EN, H⟩ | ⟨c9, xY, EN, H⟩
     ·
      have H' := ak H; clear H
      obtain ⟨p8, q8, hx8⟩ := bx a0 dM
      go_wp2
      go_roundg k1
      case measure => exact kl
      case rel => exact ⟨_, _, _, rs, rs, H', ⟨kl⟩, ⟨ur dO.out⟩, ⟨ul HB.out⟩⟩
     ·
      replace H := sb H
      rcases H with ⟨rfl, H⟩ | ⟨rfl, H⟩
      ·
       replace H := sq H
       rcases H with ⟨wU, CP, H⟩ | ⟨c12, wU, CP, H⟩
       ·
        have vw := eq_true (of_decide_eq_true (by assumption) : 0 ≤ dM)
        replace H := yL H; obtain ⟨sH, wS, H⟩ := H; replace H := bd H
        obtain ⟨⟨ayu, aEq, aEr⟩, A15, H⟩ := H
        (try dsimp only at H)
        replace H := sb H
        rcases H with ⟨rfl, H⟩ | ⟨rfl, H⟩
        ·
         replace H := nl H; obtain ⟨adx, H⟩ := H
         obtain ⟨aEs, aiF⟩ := nm (eP ++ [ayu])
         rw [← aiF.out] at H
         have H' := ak H; clear H
         obtain ⟨p8, q8, hx8⟩ := bx a0 dM
         obtain ⟨p11, q11, Vk⟩ := bx a0 dM
         go_wp2_with (first | (refine gB Tryz.func134 (jl.calls A15.out) ?_; intro w18 hb; replace dO := rb dO hb; replace HB := bs HB hb; clear hb) | (at_builtin; refine aP 68 70 Kd.string 23 9 (.string ⟨#[]⟩) 16 Tryz.underlying23 info9 HB (ur dO.out) aiF (by have := adx.out; omega) ?_; intro aEt Zb ho hb hg hat; have apU := ak (ho); replace HB := ak (hb); clear ho hb hg hat dO))
         go_roundg k1
         case measure => exact kl
         case rel => exact ⟨_, _, _, rs, rs, H', ⟨kl⟩, ⟨ur apU.out⟩, ⟨ul HB.out⟩⟩
        ·
         obtain ⟨rfl, rfl⟩ := s2 H
         obtain ⟨p8, q8, hx8⟩ := bx a0 dM
         obtain ⟨p11, q11, Vk⟩ := bx a0 dM
         go_wp2_with (refine gB Tryz.func134 (jl.calls A15.out) ?_; intro w20 hb; replace dO := rb dO hb; replace HB := bs HB hb; clear hb)
         go_ret2
         exact ⟨_, er, nx, ul HB.out⟩
       ·
        have H' := ak H; clear H
        obtain ⟨p8, q8, hx8⟩ := bx a0 dM
        obtain ⟨p11, q11, Vk⟩ := bx a0 dM
        go_wp2
        go_loopg [10] k1 (fun kq v10 w' => ∃ (MX : Int), v10 = .int .i64 MX ∧ ah (dH.l1 kq a0 eP dM MX = some (r1, r2)) ∧ ah (kq ≤ k1) ∧ ah (Kd.R Kd.string 9 w' w.heap.size (fun _ => True) u4 eP) ∧ ah (Below w.heap.size w w'))
        case atStart => exact ⟨_, rs, H', ⟨Nat.le_refl _⟩, ⟨ur dO.out⟩, ⟨ul HB.out⟩⟩
        case round =>
         clear H'
         try clear nN
         try clear rF
         try clear p8
         try clear q8
         try clear hx8
         try clear c9
         try clear xY
         try clear EN
         try clear p11
         try clear q11
         try clear Vk
         try clear c12
         try clear wU
         try clear CP
         try clear p11
         try clear p8
         try clear q11
         try clear q8
         obtain ⟨MX, rfl, HA, MJ, dO, HB⟩ := hrel
         cases gk with
         | zero => exact zz HA.out
         | succ k2 =>
          obtain ⟨H⟩ := HA
          simp only [dH.l1] at H
          replace H := sd H
          rcases H with ⟨D_, H⟩ | ⟨D_, H⟩
          ·
           replace H := oq H; obtain ⟨ES, H⟩ := H; replace H := bd H; obtain ⟨apR, Xp, H⟩ := H; replace H := sb H
           rcases H with ⟨rfl, H⟩ | ⟨rfl, H⟩
           ·
            have H' := ak H; clear H
            obtain ⟨p23, q23, apV⟩ := bx a0 MX
            go_wp2_with (go_at_call 135; refine mA (kN.calls Xp.out) ?_; intro nd)
            go_roundg k2
            case measure => exact kl
            case rel => exact ⟨_, rs, H', ⟨kl⟩, ⟨ur dO.out⟩, ⟨ul HB.out⟩⟩
           ·
            replace H := sq H
            rcases H with ⟨MW, Zc, H⟩ | ⟨c26, MW, Zc, H⟩
            ·
             obtain ⟨rfl, rfl⟩ := s2 H
             obtain ⟨p23, q23, apV⟩ := bx a0 MX
             go_wp2_with (go_at_call 135; refine mA (kN.calls Xp.out) ?_; intro nd)
             go_ret2
             exact ⟨_, er, nx, ul HB.out⟩
            ·
             replace H := yL H; obtain ⟨EO, Y5, H⟩ := H; replace H := yL H; obtain ⟨EP, Zd, H⟩ := H; replace H := yL H; obtain ⟨Y6, aBa, H⟩ := H; replace H := nl H; obtain ⟨apW, H⟩ := H
             obtain ⟨aEu, aiG⟩ := nm (eP ++ [a0.extract (dM : Int).toNat (MX : Int).toNat])
             rw [← aiG.out] at H
             have H' := ak H; clear H
             obtain ⟨p23, q23, apV⟩ := bx a0 MX
             go_wp2_with (first | (go_at_call 135; refine mA (kN.calls Xp.out) ?_; intro nd) | (at_builtin; refine aP 35 40 Kd.string 23 9 (.string ⟨#[]⟩) 16 Tryz.underlying23 info9 HB (ur dO.out) aiG (by have := apW.out; omega) ?_; intro aEv w31 ho hb hg hat; have apX := ak (ho); replace HB := ak (hb); clear ho hb hg hat dO))
             go_roundg k2
             case measure => exact kl
             case rel => exact ⟨_, _, _, rs, rs, H', ⟨kl⟩, ⟨ur apX.out⟩, ⟨ul HB.out⟩⟩
          ·
           replace H := sq H
           rcases H with ⟨Vl, ady, H⟩ | ⟨c32, Vl, ady, H⟩
           ·
            obtain ⟨rfl, rfl⟩ := s2 H
            go_wp2
            go_ret2
            exact ⟨_, er, nx, ul HB.out⟩
           ·
            replace H := yL H; obtain ⟨Rk, adk, H⟩ := H; replace H := yL H; obtain ⟨OY, OZ, H⟩ := H; replace H := yL H; obtain ⟨Ze, adz, H⟩ := H; replace H := nl H; obtain ⟨apY, H⟩ := H
            obtain ⟨aEw, aiH⟩ := nm (eP ++ [a0.extract (dM : Int).toNat (MX : Int).toNat])
            rw [← aiH.out] at H
            have H' := ak H; clear H
            go_wp2_with (at_builtin; refine aP 35 40 Kd.string 23 9 (.string ⟨#[]⟩) 16 Tryz.underlying23 info9 HB (ur dO.out) aiH (by have := apY.out; omega) ?_; intro aEx w37 ho hb hg hat; have apZ := ak (ho); replace HB := ak (hb); clear ho hb hg hat dO)
            go_roundg k2
            case measure => exact kl
            case rel => exact ⟨_, _, _, rs, rs, H', ⟨kl⟩, ⟨ur apZ.out⟩, ⟨ul HB.out⟩⟩
      ·
       obtain ⟨rfl, rfl⟩ := s2 H
       obtain ⟨p8, q8, hx8⟩ := bx a0 dM
       go_wp2
       go_ret2
       exact ⟨_, er, nx, ul HB.out⟩
    ·
     obtain ⟨rfl, rfl⟩ := s2 H
     go_wp2
     go_ret2
     exact ⟨_, er, ur dO.out, ul HB.out⟩
 ·
  obtain ⟨rfl, rfl⟩ := s2 H
  go_enter Tryz.func94, Tryz.ntmps94
  go_wp2_with (refine gA Tryz.func89 (bg.calls A2.out) ?_; intro nd)
  go_ret2
  exact ⟨_, er, nx, ul HB.out⟩
def gI.f (k : Nat) (a0 : ByteArray) : Option (Bool) := (jk.f k a0).bind fun ap0 => (if ap0 = true then ((iW.f a0).bind fun ap1 => (some (ap1.toList == a0.toList))) else (some false))
theorem gI.calls {k : Nat} {a0 : ByteArray} {r : Bool} {w : World} (h : gI.f k a0 = some r) :
  Calls Tryz.prog 136 #[.string a0] w fun e w' => e = .returned (.bool r) ∧ Below w.heap.size w w' := by
 have HB := ak (Below.refl w.heap.size w)
 unfold gI.f at h; have H := h
 clear h
 replace H := bd H; obtain ⟨ap0, A2, H⟩ := H; replace H := sb H
 rcases H with ⟨rfl, H⟩ | ⟨rfl, H⟩
 ·
  replace H := bd H; obtain ⟨ap1, A4, H⟩ := H
  obtain rfl := s1 H
  go_enter Tryz.func136, Tryz.ntmps136
  go_wp2_with (first | (refine gA Tryz.func160 (jk.calls A2.out) ?_; intro nd) | (go_at_call 93; refine mB (iW.calls A4.out) ?_; intro w5 hb; replace HB := bs HB hb; clear hb))
  go_ret
  exact ⟨er, ul HB.out⟩
 ·
  obtain rfl := s1 H
  go_enter Tryz.func136, Tryz.ntmps136
  go_wp2_with (refine gA Tryz.func160 (jk.calls A2.out) ?_; intro nd)
  go_ret
  exact ⟨er, ul HB.out⟩
def dL.l0 : Nat → ByteArray → Int → Int → Option (Bool)
 | 0, _, _, _ => none
 | k + 1, x0, x7, x8 => if x8 < x7 then (if 0 ≤ x8 then (if x8 < (x0.size : Int) then ((kN.f (bt x0 x8)).bind fun ap2 => (if ap2 = true then (dL.l0 k x0 x7 (wrap64 (x8 + 1))) else (some false))) else (none)) else (none)) else (some true)
def dL.f (k : Nat) (a0 : ByteArray)  : Option (Bool) := dL.l0 k a0 (a0.size : Int) 0
theorem dL.calls {k : Nat} {a0 : ByteArray} {r : Bool} {w : World} (h : dL.f k a0 = some r) :
  Calls Tryz.prog 138 #[.string a0, .func (.func 135) #[] #[]] w fun e w' => e = .returned (.bool r) ∧ dP w w' := by
 unfold dL.f at h; have H := h
 clear h
 have H' := ak H; clear H
 go_enter Tryz.func138, Tryz.ntmps138
 go_wp2
 go_loopg [8] k (fun kq v8 w' => ∃ (kL : Int), v8 = .int .i64 kL ∧ ah (dL.l0 kq a0 (a0.size : Int) kL = some r) ∧ ah (kq ≤ k) ∧ dP w w')
 case atStart => exact ⟨_, rs, H', ⟨Nat.le_refl _⟩, dn⟩
 case round =>
  clear H'
  obtain ⟨kL, rfl, HA, xI, ⟨m1, rfl⟩⟩ := hrel
  cases gk with
  | zero => exact zz HA.out
  | succ k1 =>
   obtain ⟨H⟩ := HA
   simp only [dL.l0] at H
   replace H := sd H
   rcases H with ⟨iO, H⟩ | ⟨iO, H⟩
   ·
    replace H := oq H; obtain ⟨qR, H⟩ := H; replace H := oq H; obtain ⟨mW, H⟩ := H; replace H := bd H; obtain ⟨ap2, A7, H⟩ := H; replace H := sb H
    rcases H with ⟨rfl, H⟩ | ⟨rfl, H⟩
    ·
     have H' := ak H; clear H
     obtain ⟨p6, q6, hx6⟩ := bx a0 kL
     go_wp2_with (go_at_call 135; refine mA (kN.calls A7.out) ?_; intro nd)
     go_roundg k1
     case measure => exact kl
     case rel => exact ⟨_, rs, H', ⟨kl⟩, dn⟩
    ·
     obtain rfl := s1 H
     obtain ⟨p6, q6, hx6⟩ := bx a0 kL
     go_wp2_with (go_at_call 135; refine mA (kN.calls A7.out) ?_; intro nd)
     go_ret
     exact ⟨rs, dn⟩
   ·
    obtain rfl := s1 H
    go_wp2
    go_ret
    exact ⟨rs, dn⟩
end Go.Proofs.YtncdadcmghglkaaGreatDoor.PFnPartLines
