/- Printed walks; conditions: those in each statement. -/
import Derived.Test.YtncdadcmghglkaaGreatDoorVFnCountPartsQt
import Derived.Test.YtncdadcmghglkaaGreatDoorVFnCountPartsYt
import Derived.Test.YtncdadcmghglkaaGreatDoorPFnCountPartsx0
import Derived.Test.YtncdadcmghglkaaGreatDoorPFnCountPartsx11
import Derived.Test.YtncdadcmghglkaaGreatDoorPFnCountPartsx12
import Derived.Test.YtncdadcmghglkaaGreatDoorPFnCountPartsx17
-- short
-- dense
-- sq
-- sq2
namespace Go.Proofs.YtncdadcmghglkaaGreatDoor.PFnCountParts
open Go.RowKit Go.Proofs.YtncdadcmghglkaaGreatDoor.X Go.Proofs.YtncdadcmghglkaaGreatDoorW.bI Go.Proofs.YtncdadcmghglkaaGreatDoorW.gI Go.Proofs.YtncdadcmghglkaaGreatDoorW.iL
attribute [local go_sem] kN kP mF mG jB jC kQ kR   -- for this text's walks alone
set_option linter.unusedVariables false
set_option maxHeartbeats 8000000
set_option maxRecDepth 100000
set_option linter.unusedSimpArgs false
def nX.f (a0 : ByteArray) (a1 : ByteArray) : Option (Bool) := if 2 + a1.size ≤ 9223372036854775807 then (if a0.toList = ((⟨#[45, 45]⟩ : ByteArray) ++ a1).toList then (some true) else (if ((⟨#[45, 45]⟩ : ByteArray) ++ a1).size + 2 ≤ 9223372036854775807 then (some (a0.toList == (((⟨#[45, 45]⟩ : ByteArray) ++ a1) ++ (⟨#[45, 45]⟩ : ByteArray)).toList)) else (none))) else (none)
theorem nX.calls {a0 a1 : ByteArray} {r : Bool} {w : World} (h : nX.f a0 a1 = some r) :
  Calls Tryz.prog 115 #[.string a0, .string a1] w fun e w' => e = .returned (.bool r) ∧ dS w w' := by
 unfold nX.f at h; have H := h
 clear h
 replace H := nn H; obtain ⟨c3, H⟩ := H
 have iQ := eq_true c3
 have zZ := decide_eq_true c3
 try have al0 : (9223372036854775807 < 2 + a1.size) = False := eq_false (Nat.not_lt.2 c3)
 replace H := sq H
 rcases H with ⟨rX, Xb, H⟩ | ⟨c4, rX, Xb, H⟩
 ·
  obtain rfl := s1 H
  go_enter Tryz.func115, Tryz.ntmps115
  go_wp2
  go_ret
  exact ⟨rs, dn⟩
 ·
  replace H := nn H; obtain ⟨c5, H⟩ := H
  have nR := eq_true c5
  have Ji := decide_eq_true c5
  try have aD_ : (9223372036854775807 < 2 + a1.size + 2) = False := by have h_ := (eq_false (Nat.not_lt.2 c5) : (9223372036854775807 < ((⟨#[45, 45]⟩ : ByteArray) ++ a1).size + 2) = False); simp only [ByteArray.size_append] at h_; exact h_
  try have aEa : (9223372036854775807 < ((⟨#[45, 45]⟩ : ByteArray) ++ a1).size + 2) = False := eq_false (Nat.not_lt.2 c5)
  obtain rfl := s1 H
  go_enter Tryz.func115, Tryz.ntmps115
  go_wp2
  go_ret
  exact ⟨rs, dn⟩
mutual
def cO.j0 : Nat → List (List ByteArray) → ByteArray → List ByteArray → Bool → Option (List ByteArray × Bool)
 | 0, _, _, _, _ => none
 | k + 1, x0, x1, x6, x17 => if x17 = true then (some (x6, false)) else (cO.l0 k x0 x1 x6 0)
def cO.l0 : Nat → List (List ByteArray) → ByteArray → List ByteArray → Int → Option (List ByteArray × Bool)
 | 0, _, _, _, _ => none
 | k + 1, x0, x1, x6, x7 => if x7 < (x0.length : Int) then (if 2 + x1.size ≤ 9223372036854775807 then (if x6.length < 8796093022208 then (cO.l1 k x0 x1 (x6 ++ [(⟨#[45, 45]⟩ : ByteArray) ++ x1]) x7 0) else (none)) else (none)) else (if 2 + x1.size ≤ 9223372036854775807 then (if ((⟨#[45, 45]⟩ : ByteArray) ++ x1).size + 2 ≤ 9223372036854775807 then (if x6.length < 8796093022208 then (some ((x6 ++ [((⟨#[45, 45]⟩ : ByteArray) ++ x1) ++ (⟨#[45, 45]⟩ : ByteArray)]), true)) else (none)) else (none)) else (none))
def cO.l1 : Nat → List (List ByteArray) → ByteArray → List ByteArray → Int → Int → Option (List ByteArray × Bool)
 | 0, _, _, _, _, _ => none
 | k + 1, x0, x1, x6, x7, x8 => if 0 ≤ x7 then (if x7 < (x0.length : Int) then (if x8 < ((xX x0 x7).length : Int) then (if 0 ≤ x8 then ((nX.f (o8 ByteArray.empty (xX x0 x7) x8) x1).bind fun ap2 => (if ap2 = true then (some ((([] : List ByteArray)), false)) else (if x6.length < 8796093022208 then (cO.l1 k x0 x1 (x6 ++ [o8 ByteArray.empty (xX x0 x7) x8]) x7 (wrap64 (x8 + 1))) else (none)))) else (none)) else (cO.l0 k x0 x1 x6 (wrap64 (x7 + 1)))) else (none)) else (none)
end
def cO.f (k : Nat) (l0 : List (List ByteArray)) (a1 : ByteArray) : Option (List ByteArray × Bool) := (some (([] : List ByteArray) : List ByteArray)).bind fun ado => ((bZ.f k a1).bind fun ap3 => (if ap3 = true then (cO.j0 k l0 a1 ado ((l0.length : Int) == 0)) else (cO.j0 k l0 a1 ado true)))
theorem cO.calls {k c0 : Nat} {A0 : Option Addr} {l0 : List (List ByteArray)} {a1 : ByteArray} {r1 : List ByteArray} {r2 : Bool} {w : World} (hr0 : Kd.C (Kd.slice 9 Kd.string) w A0 l0.length l0) (hc0 : l0.length ≤ c0) (h : cO.f k l0 a1 = some (r1, r2)) :
  Calls Tryz.prog 109 #[.slice A0 l0.length c0, .string a1] w fun e w' => ∃ qj : Value, e = .returned (.tuple #[qj, .bool r2]) ∧ Kd.R Kd.string 9 w' w.heap.size (fun _ => True) qj r1 ∧ Below w.heap.size w w' := by
 have HR0 := ak hr0
 have xq := ak hc0
 clear hr0 hc0
 have HB := ak (Below.refl w.heap.size w)
 unfold cO.f at h; have H := h
 clear h
 replace H := ny H
 obtain ⟨ado, ap4, H⟩ := H
 have O7 := ak H
 clear H
 go_enter Tryz.func109, Tryz.ntmps109
 go_upto_region 2 with (refine gG 9 ?_; refine GN 9 Kd.string 9 ap4 ?_; intro axg w4 ho5 hb; have ai2 := ak (Kd.aA ho5 (aj (ul HB.out))); replace HB := bs HB hb; clear hb ho5)
 (try simp only [Act.put, qW, qX, l_c])
 go_cut [17] (fun v17 wc => ∃ (kq : Nat) (O8 : Bool), v17 = .bool O8 ∧ ah (cO.j0 kq l0 a1 ado O8 = some (r1, r2)) ∧ ah (kq ≤ k) ∧ ah (Kd.R Kd.string 9 wc w.heap.size (fun _ => True) axg ado) ∧ ah (Below w.heap.size w wc))
 case first =>
  have H := O7.out
  clear O7
  replace H := bd H; obtain ⟨ap3, A6, H⟩ := H; replace H := sb H
  rcases H with ⟨rfl, H⟩ | ⟨rfl, H⟩
  ·
   have H' := ak H; clear H
   go_wp2_with (refine gA Tryz.func157 (bZ.calls A6.out) ?_; intro nd)
   go_meet
   case rel => exact ⟨_, _, rs, H', ⟨KR⟩, ⟨ur ai2.out⟩, ⟨ul HB.out⟩⟩
  ·
   have H' := ak H; clear H
   go_wp2_with (refine gA Tryz.func157 (bZ.calls A6.out) ?_; intro nd)
   go_meet
   case rel => exact ⟨_, _, rs, H', ⟨KR⟩, ⟨ur ai2.out⟩, ⟨ul HB.out⟩⟩
 case rest =>
  clear O7
  obtain ⟨kq, O8, rfl, HA, HJ2, oJ, HB⟩ := hcut
  cases kq with
  | zero => exact zz HA.out
  | succ Y9 =>
   obtain ⟨H⟩ := HA
   simp only [cO.j0] at H
   replace H := sb H
   rcases H with ⟨rfl, H⟩ | ⟨rfl, H⟩
   ·
    obtain ⟨rfl, rfl⟩ := s2 H
    go_wp2
    go_ret2
    exact ⟨_, er, ur oJ.out, ul HB.out⟩
   ·
    have H' := ak H; clear H
    go_wp2
    go_loopg [6, 7] Y9 (fun kq v6 v7 w' => ∃ (Bc : List ByteArray) (yS : Int), v7 = .int .i64 yS ∧ ah (cO.l0 kq l0 a1 Bc yS = some (r1, r2)) ∧ ah (kq ≤ Y9) ∧ ah (Kd.R Kd.string 9 w' w.heap.size (fun _ => True) v6 Bc) ∧ ah (Below w.heap.size w w'))
    case atStart => exact ⟨_, _, rs, H', ⟨Nat.le_refl _⟩, ⟨ur oJ.out⟩, ⟨ul HB.out⟩⟩
    case round =>
     clear H'
     obtain ⟨Bc, yS, rfl, HA, HK2, oJ, HB⟩ := hrel
     cases gk with
     | zero => exact zz HA.out
     | succ k2 =>
      obtain ⟨H⟩ := HA
      simp only [cO.l0] at H
      replace H := sd H
      rcases H with ⟨xU, H⟩ | ⟨xU, H⟩
      ·
       replace H := nn H; obtain ⟨c10, H⟩ := H
       have oC := eq_true c10
       have sK := decide_eq_true c10
       try have YV : (9223372036854775807 < 2 + a1.size) = False := eq_false (Nat.not_lt.2 c10)
       replace H := nl H; obtain ⟨O9, H⟩ := H
       obtain ⟨aEb, ai3⟩ := nm (Bc ++ [(⟨#[45, 45]⟩ : ByteArray) ++ a1])
       rw [← ai3.out] at H
       have H' := ak H; clear H
       go_wp2_with ((with_reducible refine dZ (b := .append) (xs := #[.tmp 25, .tmp 28]) rfl ?_); (try (refine lK (by rfl) ?_; dsimp only)); at_builtin; refine aP 25 28 Kd.string 23 9 (.string ⟨#[]⟩) 16 Tryz.underlying23 info9 HB (ur oJ.out) ai3 (by have := O9.out; omega) ?_; intro aEc w12 ho hb hg hat; have ap5 := ak (ho); replace HB := ak (hb); clear ho hb hg hat oJ)
       go_loopg [6, 8] k2 (fun kq v6 v8 w' => ∃ (CV : List ByteArray) (Lh : Int), v8 = .int .i64 Lh ∧ ah (cO.l1 kq l0 a1 CV yS Lh = some (r1, r2)) ∧ ah (kq ≤ k2) ∧ ah (Kd.R Kd.string 9 w' w.heap.size (fun _ => True) v6 CV) ∧ ah (Below w.heap.size w w'))
       case atStart => exact ⟨_, _, rs, H', ⟨Nat.le_refl _⟩, ⟨ur ap5.out⟩, ⟨ul HB.out⟩⟩
       case round =>
        clear H'
        try clear xU
        try clear c10
        try clear oC
        try clear sK
        try clear YV
        obtain ⟨CV, Lh, rfl, HA, YL, oJ, HB⟩ := hrel
        cases gk with
        | zero => exact zz HA.out
        | succ k3 =>
         obtain ⟨H⟩ := HA
         simp only [cO.l1] at H
         replace H := oM H; obtain ⟨vS, H⟩ := H; replace H := oM H; obtain ⟨tu, H⟩ := H; replace H := sd H
         rcases H with ⟨vT, H⟩ | ⟨vT, H⟩
         ·
          replace H := oM H; obtain ⟨zD, H⟩ := H; replace H := bd H; obtain ⟨ap2, A17, H⟩ := H; replace H := sb H
          rcases H with ⟨rfl, H⟩ | ⟨rfl, H⟩
          ·
           obtain ⟨aEd, ai4⟩ := nm ([] : List ByteArray)
           rw [← ai4.out] at H
           obtain ⟨rfl, rfl⟩ := s2 H
           have O_ := zi yS
           have Pg := zj yS l0.length
           obtain ⟨VA, adp, adq, adr, xG, Bv, Bz⟩ := II HR0.out yS O_ Pg
           cases adr
           replace xG := cl HB.out xG
           have Y_ := ak Bz
           have Za := ak Bv
           clear Bz Bv
           replace O_ := eq_true O_
           replace Pg := eq_true Pg
           have Xr := zi yS
           have Xt := zj yS l0.length
           obtain ⟨ads, al1, al2, al3, Dx, Jm, Jo⟩ := II HR0.out yS Xr Xt
           obtain rfl : VA = ads := (by injection al3)
           replace Dx := cl HB.out Dx
           have TK := ak Jo
           have agq := ak Jm
           clear Jo Jm
           replace Xr := eq_true Xr
           replace Xt := eq_true Xt
           have ea_ := Option.some.inj (xG.symm.trans Dx)
           injection ea_ with ea_ en_ ec_
           subst ea_
           subst ec_
           clear en_
           have Xu := zi Lh
           have Xv := zj Lh ((xX l0 yS).length)
           obtain ⟨ap6, al4, Jp⟩ := Kd.kF TK.out Lh Xu Xv
           cases al4
           replace Jp := cl HB.out Jp
           replace Xu := eq_true Xu
           replace Xv := eq_true Xv
           go_wp2_with (first | (refine gA Tryz.func115 (nX.calls A17.out) ?_; intro nd) | (refine gG 48 ?_; refine GN 48 Kd.string 9 ai4 ?_; intro aEe Xq abG hb; have ap7 := ak (Kd.aA (Kd.gU abG (Kd.kX (ur oJ.out))) (aj (ul HB.out))); replace oJ := ak (Kd.fV (ur oJ.out) (Kd.fQ abG) hb); replace HB := bs HB hb; clear hb abG))
           go_ret2
           exact ⟨_, er, ur (Kd.aZ ap7.out (fun _ hk => trivial)), ul HB.out⟩
          ·
           replace H := nl H; obtain ⟨Vo, H⟩ := H
           obtain ⟨aEf, ai5⟩ := nm (CV ++ [o8 ByteArray.empty (xX l0 yS) Lh])
           rw [← ai5.out] at H
           have H' := ak H; clear H
           have O_ := zi yS
           have Pg := zj yS l0.length
           obtain ⟨VA, adp, adq, adr, xG, Bv, Bz⟩ := II HR0.out yS O_ Pg
           cases adr
           replace xG := cl HB.out xG
           have Y_ := ak Bz
           have Za := ak Bv
           clear Bz Bv
           replace O_ := eq_true O_
           replace Pg := eq_true Pg
           have Xr := zi yS
           have Xt := zj yS l0.length
           obtain ⟨ads, al1, al2, al3, Dx, Jm, Jo⟩ := II HR0.out yS Xr Xt
           obtain rfl : VA = ads := (by injection al3)
           replace Dx := cl HB.out Dx
           have TK := ak Jo
           have agq := ak Jm
           clear Jo Jm
           replace Xr := eq_true Xr
           replace Xt := eq_true Xt
           have ea_ := Option.some.inj (xG.symm.trans Dx)
           injection ea_ with ea_ en_ ec_
           subst ea_
           subst ec_
           clear en_
           have Xu := zi Lh
           have Xv := zj Lh ((xX l0 yS).length)
           obtain ⟨ap6, al4, Jp⟩ := Kd.kF TK.out Lh Xu Xv
           cases al4
           replace Jp := cl HB.out Jp
           replace Xu := eq_true Xu
           replace Xv := eq_true Xv
           go_wp2_with (first | (refine gA Tryz.func115 (nX.calls A17.out) ?_; intro nd; have al5 : 0 ≤ (yS : Int) := of_decide_eq_true (by assumption); have al6 : yS < (l0.length : Int) := of_decide_eq_true (by assumption); obtain ⟨ap8, axh, axi, axj, Oj, Zb, Zc⟩ := II HR0.out yS al5 al6; obtain rfl : VA = ap8 := (by injection axj); replace Oj := (HB.out.cell (World.block_lt_of_cell? w _ Oj)).trans Oj; have agr := ak Zc; have avM := ak Zb; clear Zc Zb; replace al5 := eq_true al5; replace al6 := eq_true al6; have ea_ := Option.some.inj (xG.symm.trans Oj); injection ea_ with ea_ en_ ec_; subst ea_; subst ec_; clear en_; have al7 : 0 ≤ (Lh : Int) := of_decide_eq_true (by assumption); have al8 : Lh < ((xX l0 yS).length : Int) := of_decide_eq_true (by assumption); obtain ⟨aAT, axk, TL⟩ := Kd.kF agr.out Lh al7 al8; cases axk; replace TL := (HB.out.cell (World.block_lt_of_cell? w _ TL)).trans TL; replace al7 := eq_true al7; replace al8 := eq_true al8) | ((with_reducible refine dZ (b := .append) (xs := #[.tmp 49, .tmp 57]) rfl ?_); (try (refine lK (by rfl) ?_; dsimp only)); at_builtin; refine aP 49 57 Kd.string 23 9 (.string ⟨#[]⟩) 16 Tryz.underlying23 info9 HB (ur oJ.out) ai5 (by have := Vo.out; omega) ?_; intro aEg Xm ho hb hg hat; have ap9 := ak (ho); replace HB := ak (hb); clear ho hb hg hat oJ))
           go_roundg k3
           case measure => exact kl
           case rel => exact ⟨_, _, rs, H', ⟨kl⟩, ⟨ur ap9.out⟩, ⟨ul HB.out⟩⟩
         ·
          have H' := ak H; clear H
          have O_ := zi yS
          have Pg := zj yS l0.length
          obtain ⟨VA, adp, adq, adr, xG, Bv, Bz⟩ := II HR0.out yS O_ Pg
          cases adr
          replace xG := cl HB.out xG
          have Y_ := ak Bz
          have Za := ak Bv
          clear Bz Bv
          replace O_ := eq_true O_
          replace Pg := eq_true Pg
          go_wp2
          go_roundg k3
          case measure => exact kl
          case rel => exact ⟨_, _, rs, H', ⟨kl⟩, ⟨ur oJ.out⟩, ⟨ul HB.out⟩⟩
      ·
       replace H := nn H; obtain ⟨c23, H⟩ := H
       have Ae := eq_true c23
       have MR := decide_eq_true c23
       try have ap_ : (9223372036854775807 < 2 + a1.size) = False := eq_false (Nat.not_lt.2 c23)
       replace H := nn H; obtain ⟨c24, H⟩ := H
       have OV := eq_true c24
       have adt := decide_eq_true c24
       try have aAU : (9223372036854775807 < 2 + a1.size + 2) = False := by have h_ := (eq_false (Nat.not_lt.2 c24) : (9223372036854775807 < ((⟨#[45, 45]⟩ : ByteArray) ++ a1).size + 2) = False); simp only [ByteArray.size_append] at h_; exact h_
       try have aAV : (9223372036854775807 < ((⟨#[45, 45]⟩ : ByteArray) ++ a1).size + 2) = False := eq_false (Nat.not_lt.2 c24)
       replace H := nl H; obtain ⟨Vp, H⟩ := H
       obtain ⟨aEh, ai6⟩ := nm (Bc ++ [((⟨#[45, 45]⟩ : ByteArray) ++ a1) ++ (⟨#[45, 45]⟩ : ByteArray)])
       rw [← ai6.out] at H
       obtain ⟨rfl, rfl⟩ := s2 H
       go_wp2_with ((with_reducible refine dZ (b := .append) (xs := #[.tmp 59, .tmp 63]) rfl ?_); (try (refine lK (by rfl) ?_; dsimp only)); at_builtin; refine aP 59 63 Kd.string 23 9 (.string ⟨#[]⟩) 16 Tryz.underlying23 info9 HB (ur oJ.out) ai6 (by have := Vp.out; omega) ?_; intro aEi w26 ho hb hg hat; have aqa := ak (ho); replace HB := ak (hb); clear ho hb hg hat oJ)
       go_ret2
       exact ⟨_, er, ur aqa.out, ul HB.out⟩
mutual
def je.l0 : Nat → List ByteArray → ByteArray → List (List ByteArray) → Int → List (gY) → List ByteArray → List (nG) → Option (List ByteArray)
 | 0, _, _, _, _, _, _, _ => none
 | k + 1, x3, x5, x7, x8, ags, agt, Jq => if x8 < (Jq.length : Int) then (if 0 ≤ x8 then ((je.f k ((bK Jq x8).f0) ((bK Jq x8).f1) ((bK Jq x8).f2)).bind fun Xw => (if x7.length < 5864062014805 then (je.l0 k x3 x5 (x7 ++ [Xw]) (wrap64 (x8 + 1)) ags agt Jq) else (none))) else (none)) else ((cO.f k x7 x5).bind fun ai7 => (if x3.length + ai7.1.length < 8796093022208 then (some (x3 ++ ai7.1)) else (none)))
def je.f : Nat → List (gY) → List ByteArray → List (nG) → Option (List ByteArray)
 | 0, _, _, _ => none
 | k + 1, dh, bU, aC => (iR.f k dh).bind fun ai8 => (if ai8.1.length < 8796093022208 then ((some (ai8.1 ++ [(⟨#[]⟩ : ByteArray)] : List ByteArray)).bind fun QJ => ((kC.f k dh).bind fun ai9 => (if ai9.2 = true then (je.l0 k QJ ai9.1 (([] : List (List ByteArray))) 0 dh bU aC) else (if QJ.length + bU.length < 8796093022208 then (some (QJ ++ bU)) else (none))))) else (none))
end
theorem je.calls (k : Nat) : ∀ (jf : Option Addr) (jg : Nat) (dh : List (gY)) (iY : Option Addr) (iZ : Nat) (bU : List ByteArray) (gX : Option Addr) (eY : Nat) (aC : List (nG)) (r : List ByteArray) (w : World) (lZ : Kd.C qJ w jf dh.length dh) (l7 : dh.length ≤ jg) (l9 : Kd.C Kd.string w iY bU.length bU) (mg : bU.length ≤ iZ) (jJ : Kd.C k28 w gX aC.length aC) (jK : aC.length ≤ eY) (h : je.f k dh bU aC = some r),
  Calls Tryz.prog 67 #[.agg #[.slice jf dh.length jg, .slice iY bU.length iZ, .slice gX aC.length eY]] w fun e w' => ∃ qj : Value, e = .returned (qj) ∧ Kd.R Kd.string 9 w' w.heap.size (fun _ => True) qj r ∧ Below w.heap.size w w' := by
 induction k using Nat.strongRecOn with
 | _ k ih =>
 intro jf jg dh iY iZ bU gX eY aC r w lZ l7 l9 mg jJ jK h
 cases k with
 | zero => exact absurd h (by simp [je.f])
 | succ k =>
 simp only [je.f] at h
 have CG := Tryz.underlying28
 have oO := ak lZ
 have pG := ak l7
 clear lZ l7
 have rE := ak l9
 have uG := ak mg
 clear l9 mg
 have jm := ak jJ
 have lJ := ak jK
 clear jJ jK
 have HB := ak (Below.refl w.heap.size w)
 have H := h
 clear h
 replace H := bd H
 obtain ⟨⟨aqb, aEj⟩, A2, H⟩ := H
 (try dsimp only at H)
 replace H := nl H; obtain ⟨abq, H⟩ := H
 replace H := ny H
 obtain ⟨QJ, ai_, H⟩ := H
 replace H := bd H
 obtain ⟨⟨axl, aEk⟩, A4, H⟩ := H
 (try dsimp only at H)
 replace H := sb H
 rcases H with ⟨rfl, H⟩ | ⟨rfl, H⟩
 ·
  obtain ⟨aEl, adu⟩ := nm ([] : List (List ByteArray))
  rw [← adu.out] at H
  have H' := ak H; clear H
  go_enter Tryz.func67, Tryz.ntmps67
  go_wp2_with (first | (refine bX HB 1 #[.slice jf dh.length jg, .slice iY bU.length iZ, .slice gX aC.length eY] 28 ?_; intro Ph w6 nS aqc hb; replace HB := bs HB hb; clear hb; have z7 := jW nS.out) | (refine gV Tryz.func107 (iR.calls (cu (Kd.aW oO.out HB.out)) pG.out A2.out) ?_; rintro al9 w8 ⟨ho0, hb⟩; have Pj := ak (Kd.aA ho0 (aj bb)); replace nS := kb nS hb; replace HB := bz HB hb; clear hb; (try clear ho0)) | ((with_reducible refine dZ (b := .append) (xs := #[.tmp 17, .tmp 18]) rfl ?_); at_builtin; refine Kd.pY Kd.string (w0 := w) w.heap.size rfl (.tmp 17) (.tmp 18) 23 9 (.string ⟨#[]⟩) 16 rfl Tryz.underlying23 info9 rfl (by decide) (by omega) al9 aqb (⟨#[]⟩ : ByteArray) [.string (⟨#[]⟩ : ByteArray)] (fun _ => True) (fun _ => False) rfl rfl ?aP (fun _ hk => hk.elim) ?aF ?aO ?aB ?aS ?aL ?_; (case aP => exact rfl); (case aB => exact bb); (case aF => exact (fun _ _ => trivial)); (case aO => exact (ur Pj.out)); (case aS => exact (aj bb)); (case aL => have := abq.out; omega); intro VB w9 ho hb hg hat; rw [← ai_.out] at ho; have Ed := ak (ho); replace nS := ak (dw (g := Ph) (o := .cells #[.slice jf dh.length jg, .slice iY bU.length iZ, .slice gX aC.length eY] 28 (0, 0)) (ub nS.out) hg (Kd.oQ Pj.out nS.out (by decide))); replace HB := ak (hb); clear ho hb hg hat Pj; have z10 := jW nS.out) | (refine gB Tryz.func108 (kC.calls (cu (Kd.aW oO.out HB.out)) pG.out A4.out) ?_; intro SN hb; replace Ed := rb Ed hb; replace nS := kb nS hb; replace HB := bz HB hb; clear hb) | ((with_reducible refine U_ (N := 32) rfl ?_); refine Kd.ain (Kd.slice 9 Kd.string) _ 23 ?hg (N := 32) ?hd (xs := ([] : List (List ByteArray))) (inner := []) (ok := fun _ => True) (vX := fun _ => True) ?hr ?hp (fun _ hk => hk) trivial (Below.refl _ _) (Nat.le_refl _) (by simp) ?_; (case hd => rfl); (case hg => rfl); (case hr => first | (go_simp; done) | (go_simp; rfl)); (case hp => exact (dD.none _ _)); intro aEm w12 Tz hb Bl wo; clear Bl wo; (first | rw [← adu.out] at Tz | (simp only [Int.reduceToNat] at Tz; rw [← adu.out] at Tz)); have aqd := ak (Kd.YK (Kd.acW Tz (Kd.kX (ur Ed.out))) (aj bb)); replace Ed := rb Ed hb; replace nS := kb nS hb; replace HB := bz HB hb; clear hb Tz))
  go_loopg [7, 8] k (fun kq v7 v8 w' => ∃ (rH : List (List ByteArray)) (kY : Int), v8 = .int .i64 kY ∧ ah (je.l0 kq QJ axl rH kY dh bU aC = some r) ∧ ah (kq ≤ k) ∧ ah (Kd.R Kd.string 9 w' w.heap.size (fun _ => True) VB QJ) ∧ ah (Kd.S (Kd.slice 9 Kd.string) 23 w' w.heap.size (fun k_ => some k_ ≠ (VB : Value).ownBlock) v7 rH) ∧ ah (w'.heap[Ph]? = some (.cells #[(.slice jf dh.length jg), (.slice iY bU.length iZ), (.slice gX aC.length eY)] 28 (0, 0))) ∧ ah (Below w.heap.size w w'))
  case atStart => exact ⟨_, _, rs, H', ⟨Nat.le_refl _⟩, ⟨ur Ed.out⟩, ⟨by (with_reducible repeat (first | apply Kd.rF | apply Kd.rG | apply Kd.uT)); exact Kd.Du aqd.out (fun _ hk => hk.2)⟩, ⟨ub nS.out⟩, ⟨bb⟩⟩
  case round =>
   clear H'
   obtain ⟨rH, kY, rfl, HA, xu, oU, H8, nS, HB⟩ := hrel
   cases gk with
   | zero => exact zz HA.out
   | succ k1 =>
    obtain ⟨H⟩ := HA
    simp only [je.l0] at H
    replace H := sd H
    rcases H with ⟨tu, H⟩ | ⟨tu, H⟩
    ·
     replace H := oM H; obtain ⟨vT, H⟩ := H; replace H := bd H; obtain ⟨Xw, A16, H⟩ := H; replace H := nl H; obtain ⟨adv, H⟩ := H
     obtain ⟨aEn, aja⟩ := nm (rH ++ [Xw])
     rw [← aja.out] at H
     have H' := ak H; clear H
     have z18 := jW nS.out
     have al_ := zi kY
     have ama := zj kY aC.length
     obtain ⟨aqe, axn, axo, axp, axq, axr, axt, axu, Zd, Ze, Zf, Zg, Zh, Zi, Zj, Zk, Zl⟩ := Ce jm.out kY al_ ama
     cases axu
     replace Zd := cl HB.out Zd
     replace Ze := cl HB.out Ze
     replace Zf := cl HB.out Zf
     have agu := ak Zh
     have agv := ak Zg
     clear Zh Zg
     have agw := ak Zj
     have agx := ak Zi
     clear Zj Zi
     have agy := ak Zl
     have agz := ak Zk
     clear Zl Zk
     replace al_ := eq_true al_
     replace ama := eq_true ama
     go_wp2_with (first | (refine gV Tryz.func67 (ih k1 (by have := xu.out; omega) _ _ ((bK aC kY).f0) _ _ ((bK aC kY).f1) _ _ ((bK aC kY).f2) Xw _ (cu (Kd.aW agu.out HB.out)) agv.out (cu (Kd.aW agw.out HB.out)) agx.out (cu (Kd.aW agy.out HB.out)) agz.out A16.out) ?_; rintro aEo Xq ⟨ho0, hb⟩; have Zm := ak (Kd.aA (Kd.gU ho0 (Kd.kX (ur oU.out))) (aj bb)); replace oU := ak (Kd.fV (ur oU.out) (Kd.fQ ho0) hb); replace H8 := ak (Kd.ER (by (with_reducible repeat (first | apply Kd.rF | apply Kd.rG | apply Kd.uT)); exact H8.out) (Kd.fQ ho0) hb); replace nS := kb nS hb; replace HB := bz HB hb; clear hb; (try clear ho0); obtain ⟨ND, NG, Xa⟩ := Kd.aN Zm.out; subst Xa) | ((with_reducible refine dZ (b := .append) (xs := #[.tmp 40, .tmp 47]) rfl ?_); at_builtin; refine Kd.Vd (Kd.slice 9 Kd.string) (w0 := w) w.heap.size rfl (.tmp 40) (.tmp 47) 65 23 (.slice none 0 0) 24 rfl Tryz.underlying65 info23 rfl (by decide) (by omega) u7 rH Xw [.slice ND Xw.length NG] (fun k_ => some k_ ≠ (VB : Value).ownBlock) (fun k_ => some k_ = (.slice ND Xw.length NG : Value).ownBlock) rfl rfl ?aP (fun k_ hk_ => ((Kd.aZ (ok' := fun k_ => ((fun k_ => some k_ ≠ (VB : Value).ownBlock)) k_ ∧ some k_ ≠ (u7 : Value).ownBlock) (Kd.o7 (Zm.out) (Kd.FW H8.out) (by decide)) (fun k_ hk => ⟨hk.1.2, hk.2⟩))).1 k_ hk_.symm) ?aF ?aO ?aB ?aS ?aL ?_; (case aP => exact Kd.aip (Kd.aZ (Kd.YN rfl (Kd.aZ (ok' := fun k_ => ((fun k_ => some k_ ≠ (VB : Value).ownBlock)) k_ ∧ some k_ ≠ (u7 : Value).ownBlock) (Kd.o7 (Zm.out) (Kd.FW H8.out) (by decide)) (fun k_ hk => ⟨hk.1.2, hk.2⟩))) (fun _ h_ => h_))); (case aB => exact bb); (case aF => exact (fun k_ hk => Kd.fresh' (Kd.kX (ur oU.out)) k_ hk)); (case aO => exact (by (with_reducible repeat (first | apply Kd.rF | apply Kd.rG | apply Kd.uT)); exact Kd.Du H8.out (fun k_ hk => ⟨hk.1, fun e_ => hk.2 e_⟩))); (case aS => exact (aj bb)); (case aL => have := adv.out; omega); intro aEp w20 ho hb hg hat; rw [← aja.out] at ho; have aqf := ak (ho); replace oU := ak (Kd.qo (ur oU.out) (Kd.FW (by (with_reducible repeat (first | apply Kd.rF | apply Kd.rG | apply Kd.uT)); exact H8.out)) (by decide) hg); replace nS := ak (dw (g := Ph) (o := .cells #[.slice jf dh.length jg, .slice iY bU.length iZ, .slice (some aqe) aC.length eY] 28 (0, 0)) (ub nS.out) hg (Kd.agk H8.out nS.out (by decide))); replace HB := ak (hb); clear ho hb hg hat H8 Zm))
     go_roundg k1
     case measure => exact kl
     case rel => exact ⟨_, _, rs, H', ⟨kl⟩, ⟨ur (Kd.aZ oU.out (fun _ hk => trivial))⟩, ⟨by (with_reducible repeat (first | apply Kd.rF | apply Kd.rG | apply Kd.uT)); exact aqf.out⟩, ⟨ub nS.out⟩, ⟨bb⟩⟩
    ·
     replace H := bd H
     obtain ⟨⟨agA, aEq⟩, A22, H⟩ := H
     (try dsimp only at H)
     replace H := nl H; obtain ⟨ac4, H⟩ := H
     obtain ⟨aEr, ajb⟩ := nm (QJ ++ agA)
     rw [← ajb.out] at H
     obtain rfl := s1 H
     have z24 := jW nS.out
     obtain ⟨axc, axd, alT⟩ := Kd.YO H8.out
     subst alT
     go_wp2_with (first | (refine gV Tryz.func109 (cO.calls (cu ((Kd.I9 H8.out).2.2)) ((Kd.I9 H8.out).2.1) A22.out) ?_; rintro aEs w26 ⟨ho0, hb⟩; have VD := ak (Kd.aA (Kd.gU ho0 (Kd.kX (ur oU.out))) (aj bb)); replace oU := ak (Kd.fV (ur oU.out) (Kd.fQ ho0) hb); replace H8 := ak (Kd.ER (by (with_reducible repeat (first | apply Kd.rF | apply Kd.rG | apply Kd.uT)); exact H8.out) (Kd.fQ ho0) hb); replace nS := kb nS hb; replace HB := bz HB hb; clear hb; (try clear ho0); obtain ⟨aqg, aqh, axv⟩ := Kd.aN VD.out; subst axv) | ((with_reducible refine dZ (b := .append) (xs := #[.tmp 55, .tmp 56]) rfl ?_); at_builtin; refine Kd.qA Kd.string (w0 := w) w.heap.size rfl (.tmp 55) (.tmp 56) 23 9 (.string ⟨#[]⟩) 16 rfl Tryz.underlying23 info9 rfl (by decide) (by omega) VB QJ agA _ _ _ (fun k_ => some k_ ≠ (.slice aqg agA.length aqh : Value).ownBlock) (fun _ => False) rfl rfl ?aO ?aR (fun _ _ h => h) (fun _ h => h.elim) ?aF ?aB ?aS ?aL ?_; (case aR => repeat (first | exact (Kd.au VD.out).2.2 | (with_reducible refine Kd.ql ?_ _) | (with_reducible refine Kd.qm ?_ _) | (with_reducible refine Kd.tJ ?_))); (case aB => exact bb); (case aF => exact (fun k_ hk => Kd.fresh' (Kd.kX (ur VD.out)) k_ hk)); (case aO => exact (ur (Kd.aZ oU.out (fun _ hk => hk.2)))); (case aS => exact (aj bb)); (case aL => have := ac4.out; omega); intro aEt w27 ho hb hg hat; rw [← ajb.out] at ho; have aqi := ak (ho); replace H8 := ak (Kd.YP (ok := (fun k_ => some k_ ≠ (.slice aqg agA.length aqh : Value).ownBlock)) (by (with_reducible repeat (first | apply Kd.rF | apply Kd.rG | apply Kd.uT)); exact Kd.Du H8.out (fun _ hk => ⟨hk.2, hk.1⟩)) hg hat); replace nS := ak (dw (g := Ph) (o := .cells #[.slice jf dh.length jg, .slice iY bU.length iZ, .slice gX aC.length eY] 28 (0, 0)) (ub nS.out) hg (Kd.oQ oU.out nS.out (by decide))); replace VD := ak (Kd.zJ (ok := (fun _ => True)) (ur VD.out) hg hat); replace HB := ak (hb); clear ho hb hg hat oU))
     go_ret
     exact ⟨_, er, ur (Kd.aZ aqi.out (fun _ hk => trivial)), bb⟩
 ·
  replace H := nl H; obtain ⟨aqj, H⟩ := H
  obtain ⟨aEu, ajc⟩ := nm (QJ ++ bU)
  rw [← ajc.out] at H
  obtain rfl := s1 H
  go_enter Tryz.func67, Tryz.ntmps67
  go_wp2_with (first | (refine bX HB 1 #[.slice jf dh.length jg, .slice iY bU.length iZ, .slice gX aC.length eY] 28 ?_; intro Ph w30 nS aqc hb; replace HB := bs HB hb; clear hb; have z31 := jW nS.out) | (refine gV Tryz.func107 (iR.calls (cu (Kd.aW oO.out HB.out)) pG.out A2.out) ?_; rintro al9 w32 ⟨ho0, hb⟩; have Pj := ak (Kd.aA ho0 (aj bb)); replace nS := kb nS hb; replace HB := bz HB hb; clear hb; (try clear ho0)) | ((with_reducible refine dZ (b := .append) (xs := #[.tmp 17, .tmp 18]) rfl ?_); at_builtin; refine Kd.pY Kd.string (w0 := w) w.heap.size rfl (.tmp 17) (.tmp 18) 23 9 (.string ⟨#[]⟩) 16 rfl Tryz.underlying23 info9 rfl (by decide) (by omega) al9 aqb (⟨#[]⟩ : ByteArray) [.string (⟨#[]⟩ : ByteArray)] (fun _ => True) (fun _ => False) rfl rfl ?aP (fun _ hk => hk.elim) ?aF ?aO ?aB ?aS ?aL ?_; (case aP => exact rfl); (case aB => exact bb); (case aF => exact (fun _ _ => trivial)); (case aO => exact (ur Pj.out)); (case aS => exact (aj bb)); (case aL => have := abq.out; omega); intro VB w33 ho hb hg hat; rw [← ai_.out] at ho; have Ed := ak (ho); replace nS := ak (dw (g := Ph) (o := .cells #[.slice jf dh.length jg, .slice iY bU.length iZ, .slice gX aC.length eY] 28 (0, 0)) (ub nS.out) hg (Kd.oQ Pj.out nS.out (by decide))); replace HB := ak (hb); clear ho hb hg hat Pj; have z34 := jW nS.out) | (refine gB Tryz.func108 (kC.calls (cu (Kd.aW oO.out HB.out)) pG.out A4.out) ?_; intro w35 hb; replace Ed := rb Ed hb; replace nS := kb nS hb; replace HB := bz HB hb; clear hb; have z36 := jW nS.out) | ((with_reducible refine dZ (b := .append) (xs := #[.tmp 28, .tmp 30]) rfl ?_); at_builtin; refine Kd.qA Kd.string (w0 := w) w.heap.size rfl (.tmp 28) (.tmp 30) 23 9 (.string ⟨#[]⟩) 16 rfl Tryz.underlying23 info9 rfl (by decide) (by omega) VB QJ bU _ _ _ (fun _ => True) (fun _ => False) rfl rfl ?aO ?aR (fun _ _ h => h) (fun _ h => h.elim) ?aF ?aB ?aS ?aL ?_; (case aR => repeat (first | exact (Kd.aW rE.out HB.out) | (with_reducible refine Kd.ql ?_ _) | (with_reducible refine Kd.qm ?_ _) | (with_reducible refine Kd.tJ ?_))); (case aB => exact bb); (case aF => exact (fun _ _ => trivial)); (case aO => exact (ur Ed.out)); (case aS => exact (aj bb)); (case aL => have := aqj.out; omega); intro aEv w37 ho hb hg hat; rw [← ajc.out] at ho; have aqk := ak (ho); replace nS := ak (dw (g := Ph) (o := .cells #[.slice jf dh.length jg, .slice iY bU.length iZ, .slice gX aC.length eY] 28 (0, 0)) (ub nS.out) hg (Kd.oQ Ed.out nS.out (by decide))); replace HB := ak (hb); clear ho hb hg hat Ed))
  go_ret
  exact ⟨_, er, ur aqk.out, bb⟩
mutual
def iJ.l0 : Nat → List ByteArray → Int → Option (Bool)
 | 0, _, _ => none
 | k + 1, x0, x3 => if x3 < (x0.length : Int) then (iJ.j1 k x0 x3 (decide (x3 ≤ 30))) else (iJ.j1 k x0 x3 false)
def iJ.j1 : Nat → List ByteArray → Int → Bool → Option (Bool)
 | 0, _, _, _ => none
 | k + 1, x0, x3, x11 => if x11 = true then (if 0 ≤ x3 then (if x3 < (x0.length : Int) then ((aQ.f k (o8 ByteArray.empty x0 x3)).bind fun aql => (if aql = true then (iJ.l0 k x0 (wrap64 (x3 + 1))) else (some false))) else (none)) else (none)) else (some (decide ((x0.length : Int) ≤ 30)))
end
def iJ.f (k : Nat) (l0 : List ByteArray) : Option (Bool) := iJ.l0 k l0 0
theorem iJ.calls {k c0 : Nat} {A0 : Option Addr} {l0 : List ByteArray} {r : Bool} {w : World} (hr0 : Kd.C Kd.string w A0 l0.length l0) (hc0 : l0.length ≤ c0) (h : iJ.f k l0 = some r) :
  Calls Tryz.prog 114 #[.slice A0 l0.length c0] w fun e w' => e = .returned (.bool r) ∧ dS w w' := by
 have HR0 := ak hr0
 have xq := ak hc0
 clear hr0 hc0
 unfold iJ.f at h; have H := h
 clear h
 have H' := ak H; clear H
 go_enter Tryz.func114, Tryz.ntmps114
 go_wp2
 go_loopg [3] k (fun kq v3 w' => ∃ (dM : Int), v3 = .int .i64 dM ∧ ah (iJ.l0 kq l0 dM = some r) ∧ ah (kq ≤ k) ∧ dS w w')
 case atStart => exact ⟨_, rs, H', ⟨Nat.le_refl _⟩, dn⟩
 case round =>
  clear H'
  obtain ⟨dM, rfl, HA, xu, ⟨m1, rfl⟩⟩ := hrel
  cases gk with
  | zero => exact zz HA.out
  | succ k1 =>
   obtain ⟨H⟩ := HA
   simp only [iJ.l0] at H
   have HC2 := ak H
   clear H
   go_upto_region 2 with (fail)
   go_cut [11] (fun v11 wc => ∃ (kq : Nat) (uU : Bool), v11 = .bool uU ∧ ah (iJ.j1 kq l0 dM uU = some r) ∧ ah (kq ≤ k1) ∧ dS w wc)
   case first =>
    have H := HC2.out
    clear HC2
    replace H := sd H
    rcases H with ⟨iQ, H⟩ | ⟨iQ, H⟩
    ·
     (first | rw [iQ] | (simp only [dU, fU]; rw [iQ]) | skip)
     have H' := ak H; clear H
     go_wp2
     go_meet
     case rel => exact ⟨_, _, rs, H', ⟨kl⟩, dn⟩
    ·
     (first | rw [iQ] | (simp only [dU, fU]; rw [iQ]) | skip)
     have H' := ak H; clear H
     go_wp2
     go_meet
     case rel => exact ⟨_, _, rs, H', ⟨kl⟩, dn⟩
   case rest =>
    clear HC2
    obtain ⟨kq, uU, rfl, HA, HJ1, ⟨mc1, rfl⟩⟩ := hcut
    cases kq with
    | zero => exact zz HA.out
    | succ NI =>
     obtain ⟨H⟩ := HA
     simp only [iJ.j1] at H
     replace H := sb H
     rcases H with ⟨rfl, H⟩ | ⟨rfl, H⟩
     ·
      replace H := oM H; obtain ⟨nR, H⟩ := H; replace H := oM H; obtain ⟨nT, H⟩ := H; replace H := bd H; obtain ⟨aql, A7, H⟩ := H; replace H := sb H
      rcases H with ⟨rfl, H⟩ | ⟨rfl, H⟩
      ·
       have H' := ak H; clear H
       have Xx := zi dM
       have Xy := zj dM l0.length
       obtain ⟨aqm, amb, agB⟩ := Kd.kF HR0.out dM Xx Xy
       cases amb
       replace Xx := eq_true Xx
       replace Xy := eq_true Xy
       go_wp2_with (refine gA Tryz.func159 (aQ.calls A7.out) ?_; intro nd)
       go_roundg NI
       case measure => exact kl
       case rel => exact ⟨_, rs, H', ⟨kl⟩, dn⟩
      ·
       obtain rfl := s1 H
       have Xx := zi dM
       have Xy := zj dM l0.length
       obtain ⟨aqm, amb, agB⟩ := Kd.kF HR0.out dM Xx Xy
       cases amb
       replace Xx := eq_true Xx
       replace Xy := eq_true Xy
       go_wp2_with (refine gA Tryz.func159 (aQ.calls A7.out) ?_; intro nd)
       go_ret
       exact ⟨rs, dn⟩
     ·
      obtain rfl := s1 H
      go_wp2
      go_ret
      exact ⟨rs, dn⟩
end Go.Proofs.YtncdadcmghglkaaGreatDoor.PFnCountParts
