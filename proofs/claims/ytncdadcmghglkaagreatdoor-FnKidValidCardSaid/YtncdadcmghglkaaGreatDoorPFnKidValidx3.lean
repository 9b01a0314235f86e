/- Printed walks; conditions: those in each statement. -/
import Derived.Test.YtncdadcmghglkaaGreatDoorVFnKidValidQt
import Derived.Test.YtncdadcmghglkaaGreatDoorVFnKidValidYt
import Derived.Test.YtncdadcmghglkaaGreatDoorPFnKidValidx0
import Derived.Test.YtncdadcmghglkaaGreatDoorPFnKidValidx2
-- short
-- dense
-- sq
-- sq2
namespace Go.Proofs.YtncdadcmghglkaaGreatDoor.PFnKidValid
open Go.RowKit Go.Proofs.YtncdadcmghglkaaGreatDoor.X Go.Proofs.YtncdadcmghglkaaGreatDoorW.bI Go.Proofs.YtncdadcmghglkaaGreatDoorW.gq Go.Proofs.YtncdadcmghglkaaGreatDoorW.iJ
attribute [local go_sem] kJ kK mD mF jv jw kL kM   -- for this text's walks alone
set_option linter.unusedVariables false
set_option maxHeartbeats 8000000
set_option maxRecDepth 100000
set_option linter.unusedSimpArgs false
def nY.f (eG : ByteArray) (eU : ByteArray) (a1 : ByteArray) : Option (Bool) := (sF.f eG a1).bind fun avc => (some avc)
theorem nY.calls {eG eU a1 : ByteArray} {gq1 : Nat} {r : Bool} {w : World} (hq1 : w.heap[gq1]? = some (.cells #[.string a1] 9 (0, 0))) (h : nY.f eG eU a1 = some r) :
  Calls Tryz.prog 123 #[.agg #[.string eG, .string eU], .pointer (some ⟨gq1, 0, none⟩)] w fun e w' => e = .returned (.bool r) ∧ Below w.heap.size w w' := by
 have DU := Tryz.underlying69
 have vK := ak hq1
 clear hq1
 have HB := ak (Below.refl w.heap.size w)
 unfold nY.f at h; have H := h
 clear h
 replace H := bd H; obtain ⟨avc, A3, H⟩ := H
 obtain rfl := s1 H
 go_enter Tryz.func123, Tryz.ntmps123
 go_wp2_with (first | (refine bY HB 2 #[.string eG, .string eU] 69 ?_; intro aDX w4 afO aDY hg hb; have afP := BL vK hg; have afQ := BM vK hg; replace vK := kb vK hb; replace HB := bz HB hb; clear hb hg; have aI2 := afQ.out; have aI3 := afP.out; have z6 := zQ afO.out; have aA6 : w4.cell? ⟨gq1, 0, none⟩ = some (.string a1) := (aA vK.out 0).trans rfl; have aA7 := gX vK.out 0) | (refine gB Tryz.func124 (sF.calls A3.out) ?_; intro w8 hb; replace vK := kb vK hb; replace afO := kb afO hb; replace HB := bz HB hb; clear hb))
 go_ret
 exact ⟨er, bb⟩
def eX.l0 : Nat → List (gU) → Int → Int → ByteArray → Option (Int)
 | 0, _, _, _, _ => none
 | k + 1, x0, x7, x8, QJ => if x8 < x7 then (if 0 ≤ x8 then (if x8 < (x0.length : Int) then ((nY.f ((fB x0 x8).f0) ((fB x0 x8).f1) QJ).bind fun t146 => (if t146 = true then (some x8) else (eX.l0 k x0 x7 (wrap64 (x8 + 1)) QJ))) else (none)) else (none)) else (some (-1))
def eX.f (k : Nat) (l0 : List (gU)) (EX : ByteArray) : Option (Int) := eX.l0 k l0 (l0.length : Int) 0 EX
theorem eX.calls {k c0 Il : Nat} {A0 : Option Addr} {l0 : List (gU)} {EX : ByteArray} {r : Int} {w : World} (hr0 : Kd.C qj w A0 l0.length l0) (hc0 : l0.length ≤ c0) (Ob : w.heap[Il]? = some (.cells #[.string EX] 9 (0, 0))) (h : eX.f k l0 EX = some r) :
  Calls Tryz.prog 122 #[.slice A0 l0.length c0, .func (.func 123) #[] #[.pointer (some ⟨Il, 0, none⟩)]] w fun e w' => e = .returned (.int .i64 r) ∧ Below w.heap.size w w' := by
 have DU := Tryz.underlying69
 have HR0 := ak hr0
 have yu := ak hc0
 clear hr0 hc0
 have vK := ak Ob
 clear Ob
 have HB := ak (Below.refl w.heap.size w)
 unfold eX.f at h; have H := h
 clear h
 have H' := ak H; clear H
 go_enter Tryz.func122, Tryz.ntmps122
 go_wp2
 go_loopg [8] k (fun kq v8 w' => ∃ (kV : Int), v8 = .int .i64 kV ∧ ah (eX.l0 kq l0 (l0.length : Int) kV EX = some r) ∧ ah (kq ≤ k) ∧ ah (w'.heap[Il]? = some (.cells #[.string EX] 9 (0, 0))) ∧ ah (Below w.heap.size w w'))
 case atStart => exact ⟨_, rs, H', ⟨Nat.le_refl _⟩, ⟨ub vK.out⟩, ⟨bb⟩⟩
 case round =>
  clear H'
  obtain ⟨kV, rfl, HA, xG, vK, HB⟩ := hrel
  cases gk with
  | zero => exact zz HA.out
  | succ k1 =>
   obtain ⟨H⟩ := HA
   simp only [eX.l0] at H
   replace H := sd H
   rcases H with ⟨iO, H⟩ | ⟨iO, H⟩
   ·
    replace H := oL H; obtain ⟨su, H⟩ := H; replace H := oL H; obtain ⟨nO, H⟩ := H; replace H := bd H; obtain ⟨t146, A6, H⟩ := H; replace H := sb H
    rcases H with ⟨rfl, H⟩ | ⟨rfl, H⟩
    ·
     obtain rfl := s1 H
     have YA := zi kV
     have YB := zj kV l0.length
     obtain ⟨avd, aou, KH, KI⟩ := qX HR0.out kV YA YB
     cases aou
     replace KH := cl HB.out KH
     replace KI := cl HB.out KI
     replace YA := eq_true YA
     replace YB := eq_true YB
     go_wp2_with (go_at_call 123; refine mB (nY.calls (ub vK.out) A6.out) ?_; intro w8 hb; replace vK := kb vK hb; replace HB := bz HB hb; clear hb)
     go_ret
     exact ⟨er, bb⟩
    ·
     have H' := ak H; clear H
     have YA := zi kV
     have YB := zj kV l0.length
     obtain ⟨avd, aou, KH, KI⟩ := qX HR0.out kV YA YB
     cases aou
     replace KH := cl HB.out KH
     replace KI := cl HB.out KI
     replace YA := eq_true YA
     replace YB := eq_true YB
     go_wp2_with (go_at_call 123; refine mB (nY.calls (ub vK.out) A6.out) ?_; intro w9 hb; replace vK := kb vK hb; replace HB := bz HB hb; clear hb)
     go_roundg k1
     case measure => exact kl
     case rel => exact ⟨_, rs, H', ⟨kl⟩, ⟨ub vK.out⟩, ⟨bb⟩⟩
   ·
    obtain rfl := s1 H
    go_wp2
    go_ret
    exact ⟨er, bb⟩
def kW.f (k : Nat) (l0 : List (gU)) (a1 : ByteArray) : Option (Int) := (eX.f k l0 a1).bind fun t148 => (some t148)
theorem kW.calls {k c0 : Nat} {A0 : Option Addr} {l0 : List (gU)} {a1 : ByteArray} {r : Int} {w : World} (hr0 : Kd.C qj w A0 l0.length l0) (hc0 : l0.length ≤ c0) (h : kW.f k l0 a1 = some r) :
  Calls Tryz.prog 88 #[.slice A0 l0.length c0, .string a1] w fun e w' => e = .returned (.int .i64 r) ∧ Below w.heap.size w w' := by
 have HR0 := ak hr0
 have yu := ak hc0
 clear hr0 hc0
 have HB := ak (Below.refl w.heap.size w)
 unfold kW.f at h; have H := h
 clear h
 replace H := bd H; obtain ⟨t148, A3, H⟩ := H
 obtain rfl := s1 H
 go_enter Tryz.func88, Tryz.ntmps88
 go_wp2_with (first | (refine bX HB 3 #[.string a1] 9 ?_; intro aDZ w4 afR aD0 hb; replace HB := bs HB hb; clear hb) | (refine gB Tryz.func122 (eX.calls (cu (Kd.aN HR0.out HB.out)) yu.out (ub afR.out) A3.out) ?_; intro w5 hb; replace afR := kb afR hb; replace HB := bz HB hb; clear hb))
 go_ret
 exact ⟨er, bb⟩
def ni.f (k : Nat) (l0 : List (gU)) (a1 : ByteArray) : Option (ByteArray × Bool) := (kW.f k l0 a1).bind fun Xg => (if Xg < 0 then (some ((⟨#[]⟩ : ByteArray), false)) else (if 0 ≤ Xg then (if Xg < (l0.length : Int) then (some ((fB l0 Xg).f1, true)) else (none)) else (none)))
theorem ni.calls {k c0 : Nat} {A0 : Option Addr} {l0 : List (gU)} {a1 r1 : ByteArray} {r2 : Bool} {w : World} (hr0 : Kd.C qj w A0 l0.length l0) (hc0 : l0.length ≤ c0) (h : ni.f k l0 a1 = some (r1, r2)) :
  Calls Tryz.prog 47 #[.slice A0 l0.length c0, .string a1] w fun e w' => e = .returned (.tuple #[.string r1, .bool r2]) ∧ Below w.heap.size w w' := by
 have HR0 := ak hr0
 have yu := ak hc0
 clear hr0 hc0
 have HB := ak (Below.refl w.heap.size w)
 unfold ni.f at h; have H := h
 clear h
 replace H := bd H; obtain ⟨Xg, A3, H⟩ := H; replace H := sd H
 rcases H with ⟨su, H⟩ | ⟨su, H⟩
 ·
  obtain ⟨rfl, rfl⟩ := s2 H
  go_enter Tryz.func47, Tryz.ntmps47
  go_wp2_with (refine gB Tryz.func88 (kW.calls (cu HR0.out) yu.out A3.out) ?_; intro w5 hb; replace HB := bs HB hb; clear hb)
  go_ret2
  exact ⟨er, ul HB.out⟩
 ·
  replace H := oL H; obtain ⟨oz, H⟩ := H; replace H := oL H; obtain ⟨sD, H⟩ := H
  obtain ⟨rfl, rfl⟩ := s2 H
  go_enter Tryz.func47, Tryz.ntmps47
  go_wp2_with (refine gB Tryz.func88 (kW.calls (cu HR0.out) yu.out A3.out) ?_; intro w8 hb; replace HB := bs HB hb; clear hb; have aov : 0 ≤ (Xg : Int) := of_decide_eq_true (by assumption); have aow : Xg < (l0.length : Int) := of_decide_eq_true (by assumption); obtain ⟨aD1, aA8, Vh, Vj⟩ := qX HR0.out Xg aov aow; cases aA8; replace Vh := (HB.out.cell (World.block_lt_of_cell? w _ Vh)).trans Vh; replace Vj := (HB.out.cell (World.block_lt_of_cell? w _ Vj)).trans Vj; replace aov := eq_true aov; replace aow := eq_true aow)
  go_ret2
  exact ⟨er, ul HB.out⟩
def jo.l0 : Nat → ByteArray → List Int → Int → Option (ByteArray × Int × Bool)
 | 0, _, _, _ => none
 | k + 1, x0, x5, x6 => if x6 < (x0.size : Int) then (if 0 ≤ x6 then (if (bt x0 x6) = 34 then (some (strOfNums x5, wrap64 (x6 + 1), true)) else (if (bt x0 x6) = 92 then (if (wrap64 (x6 + 1)) = (x0.size : Int) then (some ((⟨#[]⟩ : ByteArray), 0, false)) else (if 0 ≤ (wrap64 (x6 + 1)) then (if (wrap64 (x6 + 1)) < (x0.size : Int) then (if x5.length < 140737488355328 then (jo.l0 k x0 (x5 ++ [bt x0 (wrap64 (x6 + 1))]) (wrap64 ((wrap64 (x6 + 1)) + 1))) else (none)) else (none)) else (none))) else (if x5.length < 140737488355328 then (jo.l0 k x0 (x5 ++ [bt x0 x6]) (wrap64 (x6 + 1))) else (none)))) else (none)) else (some ((⟨#[]⟩ : ByteArray), 0, false))
def jo.f (k : Nat) (a0 : ByteArray) : Option (ByteArray × Int × Bool) := jo.l0 k a0 (([] : List Int)) 1
theorem jo.calls {k : Nat} {a0 r1 : ByteArray} {r2 : Int} {r3 : Bool} {w : World} (h : jo.f k a0 = some (r1, r2, r3)) :
  Calls Tryz.prog 134 #[.string a0] w fun e w' => e = .returned (.tuple #[.string r1, .int .i64 r2, .bool r3]) ∧ Below w.heap.size w w' := by
 have HB := ak (Below.refl w.heap.size w)
 unfold jo.f at h; have H := h
 clear h
 obtain ⟨y151, alG⟩ := nm ([] : List Int)
 rw [← alG.out] at H
 have H' := ak H; clear H
 go_enter Tryz.func134, Tryz.ntmps134
 go_wp2_with (refine H7 7 (Kd.int .u8) 5 alG ?_; intro v152 w2 ho3 hb; have ave := ak (Kd.aC ho3 (aj (ul HB.out))); replace HB := bs HB hb; clear hb ho3)
 go_loopg [5, 6] k (fun kq v5 v6 w' => ∃ (eP : List Int) (jD : Int), v6 = .int .i64 jD ∧ ah (jo.l0 kq a0 eP jD = some (r1, r2, r3)) ∧ ah (kq ≤ k) ∧ ah (Kd.R (Kd.int .u8) 5 w' w.heap.size (fun _ => True) v5 eP) ∧ ah (Below w.heap.size w w'))
 case atStart => exact ⟨_, _, rs, H', ⟨Nat.le_refl _⟩, ⟨ur ave.out⟩, ⟨ul HB.out⟩⟩
 case round =>
  clear H'
  obtain ⟨eP, jD, rfl, HA, xG, qo, HB⟩ := hrel
  cases gk with
  | zero => exact zz HA.out
  | succ k1 =>
   obtain ⟨H⟩ := HA
   simp only [jo.l0] at H
   replace H := sd H
   rcases H with ⟨su, H⟩ | ⟨su, H⟩
   ·
    replace H := oL H; obtain ⟨nO, H⟩ := H; replace H := sq H
    rcases H with ⟨sD, Mc, H⟩ | ⟨c7, sD, Mc, H⟩
    ·
     obtain ⟨rfl, rfl, rfl⟩ := s3 H
     obtain ⟨p6, q6, hx6⟩ := bx a0 jD
     have aI4 := qJ (P := Tryz.prog) Tryz.underlying22 Tryz.underlying5 Tryz.underlying9 (Kd.uX qo.out)
     go_wp2
     go_ret3
     exact ⟨er, ul HB.out⟩
    ·
     replace H := sq H
     rcases H with ⟨oC, sS, H⟩ | ⟨c10, oC, sS, H⟩
     ·
      replace H := sq H
      rcases H with ⟨uH, EC, H⟩ | ⟨c11, uH, EC, H⟩
      ·
       obtain ⟨rfl, rfl, rfl⟩ := s3 H
       obtain ⟨p6, q6, hx6⟩ := bx a0 jD
       obtain ⟨p9, q9, Zv⟩ := bx a0 jD
       go_wp2
       go_ret3
       exact ⟨er, ul HB.out⟩
      ·
       obtain ⟨OC, EG⟩ : ∃ j_ : Int, (wrap64 (jD + 1)) = j_ := ⟨_, rfl⟩
       replace H : (if 0 ≤ (OC) then (if (OC) < (a0.size : Int) then (if eP.length < 140737488355328 then (jo.l0 k1 a0 (eP ++ [bt a0 (OC)]) (wrap64 ((OC) + 1))) else (none)) else (none)) else (none)) = some (r1, r2, r3) := by first | (rw [EG] at H; exact H) | (simp only [EG] at H ⊢; exact H)
       (try rw [EG] at uH)
       (try rw [EG] at EC)
       have an3 : (IntKind.i64.wrap (jD + 1)) = OC := (dP _).trans EG
       replace H := oL H; obtain ⟨wo, H⟩ := H; replace H := oL H; obtain ⟨qC, H⟩ := H; replace H := nl H; obtain ⟨aem, H⟩ := H
       obtain ⟨aI5, alH⟩ := nm (eP ++ [bt a0 (OC)])
       rw [← alH.out] at H
       have H' := ak H; clear H
       obtain ⟨p6, q6, hx6⟩ := bx a0 jD
       obtain ⟨p9, q9, Zv⟩ := bx a0 jD
       obtain ⟨p15, q15, aI6⟩ := bx a0 (OC)
       go_wp2_with (at_builtin; refine aP 34 38 (Kd.int .u8) 22 5 (.int .u8 0) 1 Tryz.underlying22 info5 HB (ur qo.out) alH (by have := aem.out; omega) ?_; intro aI7 w17 ho hb hg hat; have avf := ak (ho); replace HB := ak (hb); clear ho hb hg hat qo)
       go_roundg k1
       case measure => exact kl
       case rel => exact ⟨_, _, (by first | rfl | (simp; done) | (simp only [← EG] <;> (first | rfl | simp)) | (simp [*]; done)), H', ⟨kl⟩, ⟨ur avf.out⟩, ⟨ul HB.out⟩⟩
     ·
      replace H := nl H; obtain ⟨adK, H⟩ := H
      obtain ⟨y157, alI⟩ := nm (eP ++ [bt a0 jD])
      rw [← alI.out] at H
      have H' := ak H; clear H
      obtain ⟨p6, q6, hx6⟩ := bx a0 jD
      obtain ⟨p9, q9, Zv⟩ := bx a0 jD
      obtain ⟨p18, q18, avg⟩ := bx a0 jD
      go_wp2_with (at_builtin; refine aP 34 38 (Kd.int .u8) 22 5 (.int .u8 0) 1 Tryz.underlying22 info5 HB (ur qo.out) alI (by have := adK.out; omega) ?_; intro aI8 w20 ho hb hg hat; have avh := ak (ho); replace HB := ak (hb); clear ho hb hg hat qo)
      go_roundg k1
      case measure => exact kl
      case rel => exact ⟨_, _, rs, H', ⟨kl⟩, ⟨ur avh.out⟩, ⟨ul HB.out⟩⟩
   ·
    obtain ⟨rfl, rfl, rfl⟩ := s3 H
    go_wp2
    go_ret3
    exact ⟨er, ul HB.out⟩
def jO.l0 : Nat → ByteArray → Int → Int → Option (Int)
 | 0, _, _, _ => none
 | k + 1, x0, x1, x5 => if x5 < (x0.size : Int) then (if 0 ≤ x5 then (if (bt x0 x5) = 34 then (if x5 ≤ (x0.size : Int) then ((jo.f k (x0.extract (x5 : Int).toNat x0.size)).bind fun alJ => (if alJ.2.2 = true then (jO.l0 k x0 x1 (wrap64 ((wrap64 (x5 + (wrap64 (alJ.2.1 - 1)))) + 1))) else (some (-1)))) else (none)) else (if (bt x0 x5) = x1 then (some x5) else (jO.l0 k x0 x1 (wrap64 (x5 + 1))))) else (none)) else (some (-1))
def jO.f (k : Nat) (a0 : ByteArray) (a1 : Int) : Option (Int) := jO.l0 k a0 a1 0
theorem jO.calls {k : Nat} {a0 : ByteArray} {a1 r : Int} {w : World} (h : jO.f k a0 a1 = some r) :
  Calls Tryz.prog 125 #[.string a0, .int .u8 a1] w fun e w' => e = .returned (.int .i64 r) ∧ Below w.heap.size w w' := by
 have HB := ak (Below.refl w.heap.size w)
 unfold jO.f at h; have H := h
 clear h
 have H' := ak H; clear H
 go_enter Tryz.func125, Tryz.ntmps125
 go_wp2
 go_loopg [5] k (fun kq v5 w' => ∃ (eP : Int), v5 = .int .i64 eP ∧ ah (jO.l0 kq a0 a1 eP = some r) ∧ ah (kq ≤ k) ∧ ah (Below w.heap.size w w'))
 case atStart => exact ⟨_, rs, H', ⟨Nat.le_refl _⟩, ⟨ul HB.out⟩⟩
 case round =>
  clear H'
  obtain ⟨eP, rfl, HA, xG, HB⟩ := hrel
  cases gk with
  | zero => exact zz HA.out
  | succ k1 =>
   obtain ⟨H⟩ := HA
   simp only [jO.l0] at H
   replace H := sd H
   rcases H with ⟨iO, H⟩ | ⟨iO, H⟩
   ·
    replace H := oL H; obtain ⟨su, H⟩ := H; replace H := sq H
    rcases H with ⟨oz, xH, H⟩ | ⟨c6, oz, xH, H⟩
    ·
     have sD := eq_true (of_decide_eq_true (by assumption) : 0 ≤ eP)
     replace H := Ac H; obtain ⟨tu, Dl, H⟩ := H; replace H := bd H
     obtain ⟨⟨t160, aI9, t162⟩, A9, H⟩ := H
     (try dsimp only at H)
     replace H := sb H
     rcases H with ⟨rfl, H⟩ | ⟨rfl, H⟩
     ·
      have H' := ak H; clear H
      obtain ⟨p5, q5, hx5⟩ := bx a0 eP
      go_wp2_with (refine gB Tryz.func134 (jo.calls A9.out) ?_; intro Ub hb; replace HB := bs HB hb; clear hb)
      go_roundg k1
      case measure => exact kl
      case rel => exact ⟨_, rs, H', ⟨kl⟩, ⟨ul HB.out⟩⟩
     ·
      obtain rfl := s1 H
      obtain ⟨p5, q5, hx5⟩ := bx a0 eP
      go_wp2_with (refine gB Tryz.func134 (jo.calls A9.out) ?_; intro w12 hb; replace HB := bs HB hb; clear hb)
      go_ret
      exact ⟨er, ul HB.out⟩
    ·
     replace H := sq H
     rcases H with ⟨wo, zU, H⟩ | ⟨c13, wo, zU, H⟩
     ·
      obtain rfl := s1 H
      obtain ⟨p5, q5, hx5⟩ := bx a0 eP
      go_wp2
      go_ret
      exact ⟨er, ul HB.out⟩
     ·
      have H' := ak H; clear H
      obtain ⟨p5, q5, hx5⟩ := bx a0 eP
      go_wp2
      go_roundg k1
      case measure => exact kl
      case rel => exact ⟨_, rs, H', ⟨kl⟩, ⟨ul HB.out⟩⟩
   ·
    obtain rfl := s1 H
    go_wp2
    go_ret
    exact ⟨er, ul HB.out⟩
def dL.l0 : Nat → ByteArray → Int → List ByteArray → Option (List ByteArray)
 | 0, _, _, _ => none
 | k + 1, x0, x1, x5 => (jO.f k x0 x1).bind fun MP => (if MP < 0 then (if x5.length < 8796093022208 then (some (x5 ++ [x0])) else (none)) else (if 0 ≤ MP then (if MP ≤ (x0.size : Int) then (if x5.length < 8796093022208 then (if 0 ≤ (wrap64 (MP + 1)) then (if (wrap64 (MP + 1)) ≤ (x0.size : Int) then (dL.l0 k (x0.extract ((wrap64 (MP + 1)) : Int).toNat x0.size) x1 (x5 ++ [x0.extract 0 (MP : Int).toNat])) else (none)) else (none)) else (none)) else (none)) else (none)))
def dL.f (k : Nat) (a0 : ByteArray) (a1 : Int) : Option (List ByteArray) := dL.l0 k a0 a1 (([] : List ByteArray))
def dL.T5 : Bool × List (List Nat × List Nat) := (true, [([], []), ([], []), ([], []), ([1, 2], [1, 2]), ([3], [3]), ([0, 4], [0, 4]), ([], []), ([], []), ([7], [7]), ([6, 8], [6, 8]), ([5, 5, 0, 1, 2, 3, 4, 5], [0, 5]), ([9, 10, 0, 1, 2, 3, 4, 5, 6, 7, 8, 9, 10], [1, 6, 9])])
def dL.B5 : List Nat := [0, 0, 0, 6, 14, 31, 0, 0, 128, 448, 63, 2047]
theorem dL.aod : sQ .any (opsOf Tryz.f90 5) = dL.T5 := by kernel_rfl
theorem dL.aeY : nU dL.T5.2 dL.B5 = true := by kernel_rfl
theorem dL.calls {k : Nat} {a0 : ByteArray} {a1 : Int} {r : List ByteArray} {w : World} (h : dL.f k a0 a1 = some r) :
  Calls Tryz.prog 90 #[.string a0, .int .u8 a1] w fun e w' => ∃ ql : Value, e = .returned (ql) ∧ Kd.R Kd.string 9 w' w.heap.size (fun _ => True) ql r ∧ Below w.heap.size w w' := by
 have HB := ak (Below.refl w.heap.size w)
 unfold dL.f at h; have H := h
 clear h
 obtain ⟨aI_, alK⟩ := nm ([] : List ByteArray)
 rw [← alK.out] at H
 have H' := ak H; clear H
 go_enter Tryz.func90, Tryz.ntmps90
 go_wp2_with (refine H7 7 Kd.string 9 alK ?_; intro v164 w3 SN hb; have avi := ak (Kd.aC SN (aj (ul HB.out))); replace HB := bs HB hb; clear hb SN)
 go_loopg [0, 5] k (fun kq v0 v5 w' => ∃ (qP : ByteArray) (eP : List ByteArray), v0 = .string qP ∧ ah (dL.l0 kq qP a1 eP = some r) ∧ ah (kq ≤ k) ∧ ah (Kd.R Kd.string 9 w' w.heap.size (fun _ => True) v5 eP) ∧ ah (Below w.heap.size w w'))
 case atStart => exact ⟨_, _, rs, H', ⟨Nat.le_refl _⟩, ⟨ur avi.out⟩, ⟨ul HB.out⟩⟩
 case round =>
  clear H'
  obtain ⟨qP, eP, rfl, HA, xG, qo, HB⟩ := hrel
  cases gk with
  | zero => exact zz HA.out
  | succ k1 =>
   obtain ⟨H⟩ := HA
   simp only [dL.l0] at H
   replace H := bd H; obtain ⟨MP, A5, H⟩ := H; replace H := sd H
   rcases H with ⟨oz, H⟩ | ⟨oz, H⟩
   ·
    replace H := nl H; obtain ⟨aok, H⟩ := H
    obtain ⟨y167, alL⟩ := nm (eP ++ [qP])
    rw [← alL.out] at H
    obtain rfl := s1 H
    go_wp2_with (first | (refine gB Tryz.func125 (jO.calls A5.out) ?_; intro w8 hb; replace qo := rb qo hb; replace HB := bs HB hb; clear hb) | (at_builtin; refine aP 13 15 Kd.string 23 9 (.string ⟨#[]⟩) 16 Tryz.underlying23 info9 HB (ur qo.out) alL (by have := aok.out; omega) ?_; intro v168 w9 ho hb hg hat; have avj := ak (ho); replace HB := ak (hb); clear ho hb hg hat qo))
    go_ret
    exact ⟨_, er, ur avj.out, ul HB.out⟩
   ·
    replace H := Ac H; obtain ⟨oC, sS, H⟩ := H; replace H := Ac H; obtain ⟨uH, EC, H⟩ := H; replace H := nl H; obtain ⟨WG, H⟩ := H
    obtain ⟨aA9, alM⟩ := nm (eP ++ [qP.extract 0 (MP : Int).toNat])
    rw [← alM.out] at H
    obtain ⟨Ut, H9⟩ : ∃ j_ : Int, (wrap64 (MP + 1)) = j_ := ⟨_, rfl⟩
    replace H : (if 0 ≤ (Ut) then (if (Ut) ≤ (qP.size : Int) then (dL.l0 k1 (qP.extract ((Ut) : Int).toNat qP.size) a1 aA9) else (none)) else (none)) = some r := by first | (rw [H9] at H; exact H) | (simp only [H9] at H ⊢; exact H)
    (try rw [H9] at A5)
    have amI : (IntKind.i64.wrap (MP + 1)) = Ut := (dP _).trans H9
    replace H := Ac H; obtain ⟨qC, wI, H⟩ := H; replace H := Ac H; obtain ⟨wu, Fj, H⟩ := H
    have H' := ak H; clear H
    try go_wp2_with (refine gB Tryz.func125 (jO.calls A5.out) ?_; intro w16 hb; replace qo := rb qo hb; replace HB := bs HB hb; clear hb)
    replace qo := ak (Kd.l9 qo.out)
    replace HB := ak (iF HB.out)
    refine ro [4, 5] [0, 1, 2, 3, 6, 7, 8, 9, 4, 5, 10, 11] (fun w' => True) trivial ?_
    generalize w16.drew = w17 at qo HB ⊢
    repeat refine zF ?_
    refine ld (N := some 21) (gk.trans rfl) rfl rfl (fun K hK => ?_)
    refine Dh (w1 := ?_) (v := ?_) (by rfl) rfl ?_ ?_
    rotate_left 2
    ·
     go_simp
     constructor
     ·
      rfl
     ·
      rfl
    refine hK.out _ _ trivial ?_
    clear hK K
    refine no (a' := ?_) ?_ ?_
    rotate_left
    ·
     show Act.put _ (some 21) _ = _
     simp only [Act.put, qQ, qR, l_c, dP, fG]
     rfl
    refine ld (N := some 22) (gk.trans rfl) rfl rfl (fun K hK => ?_)
    refine Kd.nS Kd.string (w0 := w) w.heap.size (by rfl) (.tmp 17) (.tmp 21) 23 9 (.string ⟨#[]⟩) 16 rfl Tryz.underlying23 info9 rfl (by decide) (by omega) u5 eP (qP.extract 0 (MP : Int).toNat) [.string (qP.extract 0 (MP : Int).toNat)] (fun _ => True) (fun _ => False) rfl rfl ?aP (fun _ hk => hk.elim) ?aF ?aO ?aB ?aS ?aL ?_
    (case aP => exact rfl)
    (case aB => exact (ul HB.out))
    (case aF => exact (fun _ _ => trivial))
    (case aO => exact (ur qo.out))
    (case aS => exact (aj (ul HB.out)))
    (case aL => have := WG.out; omega)
    intro v171 w18 ho hb hg hat
    rw [← alM.out] at ho
    have y5 := ak (hb)
    have y7 := ak (ho)
    clear HB qo
    have HB := y5
    have avk := y7
    clear y5 y7 ho hb hg hat
    refine hK.out _ _ trivial ?_
    clear hK K
    refine no (a' := ?_) ?_ ?_
    rotate_left
    ·
     show Act.put _ (some 22) _ = _
     simp only [Act.put, qQ, qR, l_c, dP, fG]
     rfl
    repeat refine zF ?_
    refine on ?_
    try go_wp2
    go_roundg k1
    case measure => exact kl
    case rel => exact ⟨_, _, (by first | rfl | (simp; done) | (simp only [← H9] <;> (first | rfl | simp)) | (simp [*]; done)), H', ⟨kl⟩, ⟨ur avk.out⟩, ⟨ul HB.out⟩⟩
def strings_Cut.f (a0 : ByteArray) (a1 : ByteArray) : Option (ByteArray × ByteArray × Bool) := if a0.size < 4294967281 then some (⟨(Lib.cut a0.data.toList a1.data.toList).1.toArray⟩, ⟨(Lib.cut a0.data.toList a1.data.toList).2.1.toArray⟩, (Lib.cut a0.data.toList a1.data.toList).2.2) else none
theorem strings_Cut.calls {a0 a1 r1 r2 : ByteArray} {r3 : Bool} {w : World} (BX : MaxOk w) (h : strings_Cut.f a0 a1 = some (r1, r2, r3)) :
  Calls Tryz.prog 91 #[.string a0, .string a1] w fun e w' => e = .returned (.tuple #[.string r1, .string r2, .bool r3]) ∧ dS w w' := by
 unfold strings_Cut.f at h
 split at h
 ·
  rename_i hs
  injection h with h
  injection h with h1 h
  injection h with h2 h3
  subst h1; subst h2; subst h3
  obtain ⟨m, hm⟩ := BX
  exact (Tryz.strings_Cut a0 a1 m w hs hm).mono fun e w' ⟨he, n, hn⟩ => ⟨he, ⟨⟨n, hn⟩⟩⟩
 ·
  cases h
end Go.Proofs.YtncdadcmghglkaaGreatDoor.PFnKidValid
