/- Printed walks; conditions: those in each statement. -/
import Derived.Test.YtncdadcmghglkaaGreatDoorVFnPartValidQt
import Derived.Test.YtncdadcmghglkaaGreatDoorVFnPartValidYt
import Derived.Test.YtncdadcmghglkaaGreatDoorPFnPartValidx0
import Derived.Test.YtncdadcmghglkaaGreatDoorPFnPartValidx14
import Derived.Test.YtncdadcmghglkaaGreatDoorPFnPartValidx17
-- short
-- dense
-- sq
-- sq2
namespace Go.Proofs.YtncdadcmghglkaaGreatDoor.PFnPartValid
open Go.RowKit Go.Proofs.YtncdadcmghglkaaGreatDoor.X Go.Proofs.YtncdadcmghglkaaGreatDoorW.bK Go.Proofs.YtncdadcmghglkaaGreatDoorW.gY Go.Proofs.YtncdadcmghglkaaGreatDoorW.iU
attribute [local go_sem] lu lC ng ni jO jP lD lF   -- for this text's walks alone
set_option linter.unusedVariables false
set_option maxHeartbeats 8000000
set_option maxRecDepth 100000
set_option linter.unusedSimpArgs false
def oQ.f (a0 : ByteArray) (a1 : ByteArray) : Option (Bool) := if 2 + a1.size ≤ 9223372036854775807 then (if a0.toList = ((⟨#[45, 45]⟩ : ByteArray) ++ a1).toList then (some true) else (if ((⟨#[45, 45]⟩ : ByteArray) ++ a1).size + 2 ≤ 9223372036854775807 then (some (a0.toList == (((⟨#[45, 45]⟩ : ByteArray) ++ a1) ++ (⟨#[45, 45]⟩ : ByteArray)).toList)) else (none))) else (none)
theorem oQ.calls {a0 a1 : ByteArray} {r : Bool} {w : World} (h : oQ.f a0 a1 = some r) :
  Calls Tryz.prog 115 #[.string a0, .string a1] w fun e w' => e = .returned (.bool r) ∧ dW w w' := by
 unfold oQ.f at h; have H := h
 clear h
 replace H := nn H; obtain ⟨c3, H⟩ := H
 have iP := eq_true c3
 have yU := decide_eq_true c3
 try have U7 : (9223372036854775807 < 2 + a1.size) = False := eq_false (Nat.not_lt.2 c3)
 replace H := sq H
 rcases H with ⟨rC, Td, H⟩ | ⟨c4, rC, Td, H⟩
 ·
  obtain rfl := s1 H
  go_enter Tryz.func115, Tryz.ntmps115
  go_wp2
  go_ret
  exact ⟨rs, dn⟩
 ·
  replace H := nn H; obtain ⟨c5, H⟩ := H
  have nR := eq_true c5
  have Kv := decide_eq_true c5
  try have aFO : (9223372036854775807 < 2 + a1.size + 2) = False := by have h_ := (eq_false (Nat.not_lt.2 c5) : (9223372036854775807 < ((⟨#[45, 45]⟩ : ByteArray) ++ a1).size + 2) = False); simp only [ByteArray.size_append] at h_; exact h_
  try have aFP : (9223372036854775807 < ((⟨#[45, 45]⟩ : ByteArray) ++ a1).size + 2) = False := eq_false (Nat.not_lt.2 c5)
  obtain rfl := s1 H
  go_enter Tryz.func115, Tryz.ntmps115
  go_wp2
  go_ret
  exact ⟨rs, dn⟩
mutual
def dD.j0 : Nat → List (List ByteArray) → ByteArray → List ByteArray → Bool → Option (List ByteArray × Bool)
 | 0, _, _, _, _ => none
 | k + 1, x0, x1, x6, x17 => if x17 = true then (some (x6, false)) else (dD.l0 k x0 x1 x6 0)
def dD.l0 : Nat → List (List ByteArray) → ByteArray → List ByteArray → Int → Option (List ByteArray × Bool)
 | 0, _, _, _, _ => none
 | k + 1, x0, x1, x6, x7 => if x7 < (x0.length : Int) then (if 2 + x1.size ≤ 9223372036854775807 then (if x6.length < 8796093022208 then (dD.l1 k x0 x1 (x6 ++ [(⟨#[45, 45]⟩ : ByteArray) ++ x1]) x7 0) else (none)) else (none)) else (if 2 + x1.size ≤ 9223372036854775807 then (if ((⟨#[45, 45]⟩ : ByteArray) ++ x1).size + 2 ≤ 9223372036854775807 then (if x6.length < 8796093022208 then (some ((x6 ++ [((⟨#[45, 45]⟩ : ByteArray) ++ x1) ++ (⟨#[45, 45]⟩ : ByteArray)]), true)) else (none)) else (none)) else (none))
def dD.l1 : Nat → List (List ByteArray) → ByteArray → List ByteArray → Int → Int → Option (List ByteArray × Bool)
 | 0, _, _, _, _, _ => none
 | k + 1, x0, x1, x6, x7, x8 => if 0 ≤ x7 then (if x7 < (x0.length : Int) then (if x8 < ((zy x0 x7).length : Int) then (if 0 ≤ x8 then ((oQ.f (qg ByteArray.empty (zy x0 x7) x8) x1).bind fun asb => (if asb = true then (some ((([] : List ByteArray)), false)) else (if x6.length < 8796093022208 then (dD.l1 k x0 x1 (x6 ++ [qg ByteArray.empty (zy x0 x7) x8]) x7 (wrap64 (x8 + 1))) else (none)))) else (none)) else (dD.l0 k x0 x1 x6 (wrap64 (x7 + 1)))) else (none)) else (none)
end
def dD.f (k : Nat) (l0 : List (List ByteArray)) (a1 : ByteArray) : Option (List ByteArray × Bool) := (some (([] : List ByteArray) : List ByteArray)).bind fun aeU => ((dh.f k a1).bind fun asc => (if asc = true then (dD.j0 k l0 a1 aeU ((l0.length : Int) == 0)) else (dD.j0 k l0 a1 aeU true)))
theorem dD.calls {k c0 : Nat} {A0 : Option Addr} {l0 : List (List ByteArray)} {a1 : ByteArray} {r1 : List ByteArray} {r2 : Bool} {w : World} (hr0 : Kd.C (Kd.slice 9 Kd.string) w A0 l0.length l0) (hc0 : l0.length ≤ c0) (h : dD.f k l0 a1 = some (r1, r2)) :
  Calls Tryz.prog 109 #[.slice A0 l0.length c0, .string a1] w fun e w' => ∃ rY : Value, e = .returned (.tuple #[rY, .bool r2]) ∧ Kd.R Kd.string 9 w' w.heap.size (fun _ => True) rY r1 ∧ Below w.heap.size w w' := by
 have HR0 := ak hr0
 have zq := ak hc0
 clear hr0 hc0
 have HB := ak (Below.refl w.heap.size w)
 unfold dD.f at h; have H := h
 clear h
 replace H := ny H
 obtain ⟨aeU, ase, H⟩ := H
 have QD := ak H
 clear H
 go_enter Tryz.func109, Tryz.ntmps109
 go_upto_region 2 with (refine gG 9 ?_; refine F8 9 Kd.string 9 ase ?_; intro ay1 w4 ho5 hb; have aky := ak (Kd.aG ho5 (aj (ul HB.out))); replace HB := bs HB hb; clear hb ho5)
 (try simp only [Act.put, sK, sN, l_c])
 go_cut [17] (fun v17 wc => ∃ (kq : Nat) (QU : Bool), v17 = .bool QU ∧ ah (dD.j0 kq l0 a1 aeU QU = some (r1, r2)) ∧ ah (kq ≤ k) ∧ ah (Kd.R Kd.string 9 wc w.heap.size (fun _ => True) ay1 aeU) ∧ ah (Below w.heap.size w wc))
 case first =>
  have H := QD.out
  clear QD
  replace H := bd H; obtain ⟨asc, A6, H⟩ := H; replace H := sb H
  rcases H with ⟨rfl, H⟩ | ⟨rfl, H⟩
  ·
   have H' := ak H; clear H
   go_wp2_with (refine gA Tryz.func157 (dh.calls A6.out) ?_; intro nd)
   go_meet
   case rel => exact ⟨_, _, rs, H', ⟨JF⟩, ⟨ur aky.out⟩, ⟨ul HB.out⟩⟩
  ·
   have H' := ak H; clear H
   go_wp2_with (refine gA Tryz.func157 (dh.calls A6.out) ?_; intro nd)
   go_meet
   case rel => exact ⟨_, _, rs, H', ⟨JF⟩, ⟨ur aky.out⟩, ⟨ul HB.out⟩⟩
 case rest =>
  clear QD
  obtain ⟨kq, QU, rfl, HA, HJ2, pK, HB⟩ := hcut
  cases kq with
  | zero => exact zz HA.out
  | succ WX =>
   obtain ⟨H⟩ := HA
   simp only [dD.j0] at H
   replace H := sb H
   rcases H with ⟨rfl, H⟩ | ⟨rfl, H⟩
   ·
    obtain ⟨rfl, rfl⟩ := s2 H
    go_wp2
    go_ret2
    exact ⟨_, er, ur pK.out, ul HB.out⟩
   ·
    have H' := ak H; clear H
    go_wp2
    go_loopg [6, 7] WX (fun kq v6 v7 w' => ∃ (CP : List ByteArray) (Ae : Int), v7 = .int .i64 Ae ∧ ah (dD.l0 kq l0 a1 CP Ae = some (r1, r2)) ∧ ah (kq ≤ WX) ∧ ah (Kd.R Kd.string 9 w' w.heap.size (fun _ => True) v6 CP) ∧ ah (Below w.heap.size w w'))
    case atStart => exact ⟨_, _, rs, H', ⟨Nat.le_refl _⟩, ⟨ur pK.out⟩, ⟨ul HB.out⟩⟩
    case round =>
     clear H'
     obtain ⟨CP, Ae, rfl, HA, HK2, pK, HB⟩ := hrel
     cases gk with
     | zero => exact zz HA.out
     | succ k2 =>
      obtain ⟨H⟩ := HA
      simp only [dD.l0] at H
      replace H := sd H
      rcases H with ⟨zu, H⟩ | ⟨zu, H⟩
      ·
       replace H := nn H; obtain ⟨c10, H⟩ := H
       have pF := eq_true c10
       have uI := decide_eq_true c10
       try have aaS : (9223372036854775807 < 2 + a1.size) = False := eq_false (Nat.not_lt.2 c10)
       replace H := nl H; obtain ⟨QV, H⟩ := H
       obtain ⟨aFQ, akz⟩ := nm (CP ++ [(⟨#[45, 45]⟩ : ByteArray) ++ a1])
       rw [← akz.out] at H
       have H' := ak H; clear H
       go_wp2_with ((with_reducible refine dN (b := .append) (xs := #[.tmp 25, .tmp 28]) rfl ?_); (try (refine jJ (by rfl) ?_; dsimp only)); at_builtin; refine aP 25 28 Kd.string 23 9 (.string ⟨#[]⟩) 16 Tryz.underlying23 info9 HB (ur pK.out) akz (by have := QV.out; omega) ?_; intro aFR w12 ho hb hg hat; have asf := ak (ho); replace HB := ak (hb); clear ho hb hg hat pK)
       go_loopg [6, 8] k2 (fun kq v6 v8 w' => ∃ (DX : List ByteArray) (NR : Int), v8 = .int .i64 NR ∧ ah (dD.l1 kq l0 a1 DX Ae NR = some (r1, r2)) ∧ ah (kq ≤ k2) ∧ ah (Kd.R Kd.string 9 w' w.heap.size (fun _ => True) v6 DX) ∧ ah (Below w.heap.size w w'))
       case atStart => exact ⟨_, _, rs, H', ⟨Nat.le_refl _⟩, ⟨ur asf.out⟩, ⟨ul HB.out⟩⟩
       case round =>
        clear H'
        try clear zu
        try clear c10
        try clear pF
        try clear uI
        try clear aaS
        obtain ⟨DX, NR, rfl, HA, HK3, pK, HB⟩ := hrel
        cases gk with
        | zero => exact zz HA.out
        | succ k3 =>
         obtain ⟨H⟩ := HA
         simp only [dD.l1] at H
         replace H := oN H; obtain ⟨xk, H⟩ := H; replace H := oN H; obtain ⟨rQ, H⟩ := H; replace H := sd H
         rcases H with ⟨xq, H⟩ | ⟨xq, H⟩
         ·
          replace H := oN H; obtain ⟨AP, H⟩ := H; replace H := bd H; obtain ⟨asb, A17, H⟩ := H; replace H := sb H
          rcases H with ⟨rfl, H⟩ | ⟨rfl, H⟩
          ·
           obtain ⟨aFS, akA⟩ := nm ([] : List ByteArray)
           rw [← akA.out] at H
           obtain ⟨rfl, rfl⟩ := s2 H
           have QW := zi Ae
           have QX := zj Ae l0.length
           obtain ⟨XH, aeV, aeW, aeX, y5, C_, Dc⟩ := JG HR0.out Ae QW QX
           cases aeX
           replace y5 := cl HB.out y5
           have aa4 := ak Dc
           have aa5 := ak C_
           clear Dc C_
           replace QW := eq_true QW
           replace QX := eq_true QX
           have Zh := zi Ae
           have Zi := zj Ae l0.length
           obtain ⟨aeY, anD, anE, anF, EF, KA, KC⟩ := JG HR0.out Ae Zh Zi
           obtain rfl : XH = aeY := (by injection anF)
           replace EF := cl HB.out EF
           have Vx := ak KC
           have ah1 := ak KA
           clear KC KA
           replace Zh := eq_true Zh
           replace Zi := eq_true Zi
           have ea_ := Option.some.inj (y5.symm.trans EF)
           injection ea_ with ea_ en_ ec_
           subst ea_
           subst ec_
           clear en_
           have Zj := zi NR
           have Zk := zj NR ((zy l0 Ae).length)
           obtain ⟨asg, anG, KD⟩ := Kd.jI Vx.out NR Zj Zk
           cases anG
           replace KD := cl HB.out KD
           replace Zj := eq_true Zj
           replace Zk := eq_true Zk
           go_wp2_with (first | (refine gA Tryz.func115 (oQ.calls A17.out) ?_; intro nd) | (refine gG 48 ?_; refine F8 48 Kd.string 9 akA ?_; intro aFT YM adf hb; have ash := ak (Kd.aG (Kd.fK adf (Kd.jH (ur pK.out))) (aj (ul HB.out))); replace pK := ak (Kd.fA (ur pK.out) (Kd.eH adf) hb); replace HB := bs HB hb; clear hb adf))
           go_ret2
           exact ⟨_, er, ur (Kd.aY ash.out (fun _ hk => trivial)), ul HB.out⟩
          ·
           replace H := nl H; obtain ⟨Xj, H⟩ := H
           obtain ⟨aFU, akB⟩ := nm (DX ++ [qg ByteArray.empty (zy l0 Ae) NR])
           rw [← akB.out] at H
           have H' := ak H; clear H
           have QW := zi Ae
           have QX := zj Ae l0.length
           obtain ⟨XH, aeV, aeW, aeX, y5, C_, Dc⟩ := JG HR0.out Ae QW QX
           cases aeX
           replace y5 := cl HB.out y5
           have aa4 := ak Dc
           have aa5 := ak C_
           clear Dc C_
           replace QW := eq_true QW
           replace QX := eq_true QX
           have Zh := zi Ae
           have Zi := zj Ae l0.length
           obtain ⟨aeY, anD, anE, anF, EF, KA, KC⟩ := JG HR0.out Ae Zh Zi
           obtain rfl : XH = aeY := (by injection anF)
           replace EF := cl HB.out EF
           have Vx := ak KC
           have ah1 := ak KA
           clear KC KA
           replace Zh := eq_true Zh
           replace Zi := eq_true Zi
           have ea_ := Option.some.inj (y5.symm.trans EF)
           injection ea_ with ea_ en_ ec_
           subst ea_
           subst ec_
           clear en_
           have Zj := zi NR
           have Zk := zj NR ((zy l0 Ae).length)
           obtain ⟨asg, anG, KD⟩ := Kd.jI Vx.out NR Zj Zk
           cases anG
           replace KD := cl HB.out KD
           replace Zj := eq_true Zj
           replace Zk := eq_true Zk
           go_wp2_with (first | (refine gA Tryz.func115 (oQ.calls A17.out) ?_; intro nd; have anH : 0 ≤ (Ae : Int) := of_decide_eq_true (by assumption); have anI : Ae < (l0.length : Int) := of_decide_eq_true (by assumption); obtain ⟨asi, ay2, ay3, ay4, Qd, aa6, aa7⟩ := JG HR0.out Ae anH anI; obtain rfl : XH = asi := (by injection ay4); replace Qd := (HB.out.cell (World.block_lt_of_cell? w _ Qd)).trans Qd; have ah2 := ak aa7; have axC := ak aa6; clear aa7 aa6; replace anH := eq_true anH; replace anI := eq_true anI; have ea_ := Option.some.inj (y5.symm.trans Qd); injection ea_ with ea_ en_ ec_; subst ea_; subst ec_; clear en_; have anJ : 0 ≤ (NR : Int) := of_decide_eq_true (by assumption); have anK : NR < ((zy l0 Ae).length : Int) := of_decide_eq_true (by assumption); obtain ⟨aCg, ay5, Vy⟩ := Kd.jI ah2.out NR anJ anK; cases ay5; replace Vy := (HB.out.cell (World.block_lt_of_cell? w _ Vy)).trans Vy; replace anJ := eq_true anJ; replace anK := eq_true anK) | ((with_reducible refine dN (b := .append) (xs := #[.tmp 49, .tmp 57]) rfl ?_); (try (refine jJ (by rfl) ?_; dsimp only)); at_builtin; refine aP 49 57 Kd.string 23 9 (.string ⟨#[]⟩) 16 Tryz.underlying23 info9 HB (ur pK.out) akB (by have := Xj.out; omega) ?_; intro aFV Y8 ho hb hg hat; have asj := ak (ho); replace HB := ak (hb); clear ho hb hg hat pK))
           go_roundg k3
           case measure => exact kl
           case rel => exact ⟨_, _, rs, H', ⟨kl⟩, ⟨ur asj.out⟩, ⟨ul HB.out⟩⟩
         ·
          have H' := ak H; clear H
          have QW := zi Ae
          have QX := zj Ae l0.length
          obtain ⟨XH, aeV, aeW, aeX, y5, C_, Dc⟩ := JG HR0.out Ae QW QX
          cases aeX
          replace y5 := cl HB.out y5
          have aa4 := ak Dc
          have aa5 := ak C_
          clear Dc C_
          replace QW := eq_true QW
          replace QX := eq_true QX
          go_wp2
          go_roundg k3
          case measure => exact kl
          case rel => exact ⟨_, _, rs, H', ⟨kl⟩, ⟨ur pK.out⟩, ⟨ul HB.out⟩⟩
      ·
       replace H := nn H; obtain ⟨c23, H⟩ := H
       have BI := eq_true c23
       have OY := decide_eq_true c23
       try have asl : (9223372036854775807 < 2 + a1.size) = False := eq_false (Nat.not_lt.2 c23)
       replace H := nn H; obtain ⟨c24, H⟩ := H
       have QK := eq_true c24
       have aeZ := decide_eq_true c24
       try have aCh : (9223372036854775807 < 2 + a1.size + 2) = False := by have h_ := (eq_false (Nat.not_lt.2 c24) : (9223372036854775807 < ((⟨#[45, 45]⟩ : ByteArray) ++ a1).size + 2) = False); simp only [ByteArray.size_append] at h_; exact h_
       try have aCi : (9223372036854775807 < ((⟨#[45, 45]⟩ : ByteArray) ++ a1).size + 2) = False := eq_false (Nat.not_lt.2 c24)
       replace H := nl H; obtain ⟨Xy, H⟩ := H
       obtain ⟨aFW, akC⟩ := nm (CP ++ [((⟨#[45, 45]⟩ : ByteArray) ++ a1) ++ (⟨#[45, 45]⟩ : ByteArray)])
       rw [← akC.out] at H
       obtain ⟨rfl, rfl⟩ := s2 H
       go_wp2_with ((with_reducible refine dN (b := .append) (xs := #[.tmp 59, .tmp 63]) rfl ?_); (try (refine jJ (by rfl) ?_; dsimp only)); at_builtin; refine aP 59 63 Kd.string 23 9 (.string ⟨#[]⟩) 16 Tryz.underlying23 info9 HB (ur pK.out) akC (by have := Xy.out; omega) ?_; intro aFX w26 ho hb hg hat; have asn := ak (ho); replace HB := ak (hb); clear ho hb hg hat pK)
       go_ret2
       exact ⟨_, er, ur asn.out, ul HB.out⟩
mutual
def jF.l0 : Nat → List ByteArray → ByteArray → List (List ByteArray) → Int → List (gK) → List ByteArray → List (mV) → Option (List ByteArray)
 | 0, _, _, _, _, _, _, _ => none
 | k + 1, x3, x5, x7, x8, ah3, ah4, KE => if x8 < (KE.length : Int) then (if 0 ≤ x8 then ((jF.f k ((aN KE x8).f0) ((aN KE x8).f1) ((aN KE x8).f2)).bind fun Zl => (if x7.length < 5864062014805 then (jF.l0 k x3 x5 (x7 ++ [Zl]) (wrap64 (x8 + 1)) ah3 ah4 KE) else (none))) else (none)) else ((dD.f k x7 x5).bind fun akD => (if x3.length + akD.1.length < 8796093022208 then (some (x3 ++ akD.1)) else (none)))
def jF.f : Nat → List (gK) → List ByteArray → List (mV) → Option (List ByteArray)
 | 0, _, _, _ => none
 | k + 1, dG, cO, aC => (jd.f k dG).bind fun akE => (if akE.1.length < 8796093022208 then ((some (akE.1 ++ [(⟨#[]⟩ : ByteArray)] : List ByteArray)).bind fun Tn => ((kV.f k dG).bind fun akF => (if akF.2 = true then (jF.l0 k Tn akF.1 (([] : List (List ByteArray))) 0 dG cO aC) else (if Tn.length + cO.length < 8796093022208 then (some (Tn ++ cO)) else (none))))) else (none))
end
theorem jF.calls (k : Nat) : ∀ (jl : Option Addr) (jm : Nat) (dG : List (gK)) (ji : Option Addr) (jk : Nat) (cO : List ByteArray) (iC : Option Addr) (fM : Nat) (aC : List (mV)) (r : List ByteArray) (w : World) (mW : Kd.C pU w jl dG.length dG) (mX : dG.length ≤ jm) (mY : Kd.C Kd.string w ji cO.length cO) (mZ : cO.length ≤ jk) (jY : Kd.C k28 w iC aC.length aC) (jZ : aC.length ≤ fM) (h : jF.f k dG cO aC = some r),
  Calls Tryz.prog 67 #[.agg #[.slice jl dG.length jm, .slice ji cO.length jk, .slice iC aC.length fM]] w fun e w' => ∃ rY : Value, e = .returned (rY) ∧ Kd.R Kd.string 9 w' w.heap.size (fun _ => True) rY r ∧ Below w.heap.size w w' := by
 induction k using Nat.strongRecOn with
 | _ k ih =>
 intro jl jm dG ji jk cO iC fM aC r w mW mX mY mZ jY jZ h
 cases k with
 | zero => exact absurd h (by simp [jF.f])
 | succ k =>
 simp only [jF.f] at h
 have Et := Tryz.underlying28
 have qE := ak mW
 have qX := ak mX
 clear mW mX
 have uH := ak mY
 have wY := ak mZ
 clear mY mZ
 have jQ := ak jY
 have nC := ak jZ
 clear jY jZ
 have HB := ak (Below.refl w.heap.size w)
 have H := h
 clear h
 replace H := bd H
 obtain ⟨⟨aso, aFY⟩, A2, H⟩ := H
 (try dsimp only at H)
 replace H := nl H; obtain ⟨ac2, H⟩ := H
 replace H := ny H
 obtain ⟨Tn, akG, H⟩ := H
 replace H := bd H
 obtain ⟨⟨ay6, aFZ⟩, A4, H⟩ := H
 (try dsimp only at H)
 replace H := sb H
 rcases H with ⟨rfl, H⟩ | ⟨rfl, H⟩
 ·
  obtain ⟨aF0, ae0⟩ := nm ([] : List (List ByteArray))
  rw [← ae0.out] at H
  have H' := ak H; clear H
  go_enter Tryz.func67, Tryz.ntmps67
  go_wp2_with (first | (refine bX HB 1 #[.slice jl dG.length jm, .slice ji cO.length jk, .slice iC aC.length fM] 28 ?_; intro QY w6 oL asq hb; replace HB := bs HB hb; clear hb; have z7 := ku oL.out) | (refine gV Tryz.func107 (jd.calls (cu (Kd.aW qE.out HB.out)) qX.out A2.out) ?_; rintro anL w8 ⟨ho0, hb⟩; have QZ := ak (Kd.aG ho0 (aj bb)); replace oL := kb oL hb; replace HB := bz HB hb; clear hb; (try clear ho0)) | ((with_reducible refine dN (b := .append) (xs := #[.tmp 17, .tmp 18]) rfl ?_); at_builtin; refine Kd.oP Kd.string (w0 := w) w.heap.size rfl (.tmp 17) (.tmp 18) 23 9 (.string ⟨#[]⟩) 16 rfl Tryz.underlying23 info9 rfl (by decide) (by omega) anL aso (⟨#[]⟩ : ByteArray) [.string (⟨#[]⟩ : ByteArray)] (fun _ => True) (fun _ => False) rfl rfl ?aP (fun _ hk => hk.elim) ?aF ?aO ?aB ?aS ?aL ?_; (case aP => exact rfl); (case aB => exact bb); (case aF => exact (fun _ _ => trivial)); (case aO => exact (ur QZ.out)); (case aS => exact (aj bb)); (case aL => have := ac2.out; omega); intro XI w9 ho hb hg hat; rw [← akG.out] at ho; have Fj := ak (ho); replace oL := ak (bM (g := QY) (o := .cells #[.slice jl dG.length jm, .slice ji cO.length jk, .slice iC aC.length fM] 28 (0, 0)) (ub oL.out) hg (Kd.nO QZ.out oL.out (by decide))); replace HB := ak (hb); clear ho hb hg hat QZ; have z10 := ku oL.out) | (refine gB Tryz.func108 (kV.calls (cu (Kd.aW qE.out HB.out)) qX.out A4.out) ?_; intro U2 hb; replace Fj := rb Fj hb; replace oL := kb oL hb; replace HB := bz HB hb; clear hb) | ((with_reducible refine Xl (N := 32) rfl ?_); refine Kd.ajS (Kd.slice 9 Kd.string) _ 23 ?hg (N := 32) ?hd (xs := ([] : List (List ByteArray))) (inner := []) (ok := fun _ => True) (xC := fun _ => True) ?hr ?hp (fun _ hk => hk) trivial (Below.refl _ _) (Nat.le_refl _) (by simp) ?_; (case hd => rfl); (case hg => rfl); (case hr => first | (go_simp; done) | (go_simp; rfl)); (case hp => exact (dK.none _ _)); intro aF1 w12 Vo hb CX xJ; clear CX xJ; (first | rw [← ae0.out] at Vo | (simp only [Int.reduceToNat] at Vo; rw [← ae0.out] at Vo)); have asr := ak (Kd.aaK (Kd.aez Vo (Kd.jH (ur Fj.out))) (aj bb)); replace Fj := rb Fj hb; replace oL := kb oL hb; replace HB := bz HB hb; clear hb Vo))
  go_loopg [7, 8] k (fun kq v7 v8 w' => ∃ (tV : List (List ByteArray)) (lK : Int), v8 = .int .i64 lK ∧ ah (jF.l0 kq Tn ay6 tV lK dG cO aC = some r) ∧ ah (kq ≤ k) ∧ ah (Kd.R Kd.string 9 w' w.heap.size (fun _ => True) XI Tn) ∧ ah (Kd.S (Kd.slice 9 Kd.string) 23 w' w.heap.size (fun k_ => some k_ ≠ (XI : Value).ownBlock) v7 tV) ∧ ah (w'.heap[QY]? = some (.cells #[(.slice jl dG.length jm), (.slice ji cO.length jk), (.slice iC aC.length fM)] 28 (0, 0))) ∧ ah (Below w.heap.size w w'))
  case atStart => exact ⟨_, _, rs, H', ⟨Nat.le_refl _⟩, ⟨ur Fj.out⟩, ⟨by (with_reducible repeat (first | apply Kd.tK | apply Kd.tN | apply Kd.wF)); exact Kd.Eu asr.out (fun _ hk => hk.2)⟩, ⟨ub oL.out⟩, ⟨bb⟩⟩
  case round =>
   clear H'
   obtain ⟨tV, lK, rfl, HA, yB, qm, Je, oL, HB⟩ := hrel
   cases gk with
   | zero => exact zz HA.out
   | succ k1 =>
    obtain ⟨H⟩ := HA
    simp only [jF.l0] at H
    replace H := sd H
    rcases H with ⟨rQ, H⟩ | ⟨rQ, H⟩
    ·
     replace H := oN H; obtain ⟨xq, H⟩ := H; replace H := bd H; obtain ⟨Zl, A16, H⟩ := H; replace H := nl H; obtain ⟨ae1, H⟩ := H
     obtain ⟨aF2, akH⟩ := nm (tV ++ [Zl])
     rw [← akH.out] at H
     have H' := ak H; clear H
     have z18 := ku oL.out
     have anM := zi lK
     have anN := zj lK aC.length
     obtain ⟨asu, ay7, ay8, ay9, ay_, aza, azb, azc, aa8, aa9, aa_, abb, abd, abe, abf, abg, abh⟩ := zD jQ.out lK anM anN
     cases azc
     replace aa8 := cl HB.out aa8
     replace aa9 := cl HB.out aa9
     replace aa_ := cl HB.out aa_
     have ah5 := ak abd
     have ah6 := ak abb
     clear abd abb
     have ah7 := ak abf
     have ah8 := ak abe
     clear abf abe
     have ah9 := ak abh
     have ah_ := ak abg
     clear abh abg
     replace anM := eq_true anM
     replace anN := eq_true anN
     go_wp2_with (first | (refine gV Tryz.func67 (ih k1 (by have := yB.out; omega) _ _ ((aN aC lK).f0) _ _ ((aN aC lK).f1) _ _ ((aN aC lK).f2) Zl _ (cu (Kd.aW ah5.out HB.out)) ah6.out (cu (Kd.aW ah7.out HB.out)) ah8.out (cu (Kd.aW ah9.out HB.out)) ah_.out A16.out) ?_; rintro aF3 YM ⟨ho0, hb⟩; have abj := ak (Kd.aG (Kd.fK ho0 (Kd.jH (ur qm.out))) (aj bb)); replace qm := ak (Kd.fA (ur qm.out) (Kd.eH ho0) hb); replace Je := ak (Kd.Gh (by (with_reducible repeat (first | apply Kd.tK | apply Kd.tN | apply Kd.wF)); exact Je.out) (Kd.eH ho0) hb); replace oL := kb oL hb; replace HB := bz HB hb; clear hb; (try clear ho0); obtain ⟨JH, JI, U3⟩ := Kd.aX abj.out; subst U3) | ((with_reducible refine dN (b := .append) (xs := #[.tmp 40, .tmp 47]) rfl ?_); at_builtin; refine Kd.Xo (Kd.slice 9 Kd.string) (w0 := w) w.heap.size rfl (.tmp 40) (.tmp 47) 65 23 (.slice none 0 0) 24 rfl Tryz.underlying65 info23 rfl (by decide) (by omega) u7 tV Zl [.slice JH Zl.length JI] (fun k_ => some k_ ≠ (XI : Value).ownBlock) (fun k_ => some k_ = (.slice JH Zl.length JI : Value).ownBlock) rfl rfl ?aP (fun k_ hk_ => ((Kd.aY (ok' := fun k_ => ((fun k_ => some k_ ≠ (XI : Value).ownBlock)) k_ ∧ some k_ ≠ (u7 : Value).ownBlock) (Kd.qF (abj.out) (Kd.Hg Je.out) (by decide)) (fun k_ hk => ⟨hk.1.2, hk.2⟩))).1 k_ hk_.symm) ?aF ?aO ?aB ?aS ?aL ?_; (case aP => exact Kd.ajU (Kd.aY (Kd.aaM rfl (Kd.aY (ok' := fun k_ => ((fun k_ => some k_ ≠ (XI : Value).ownBlock)) k_ ∧ some k_ ≠ (u7 : Value).ownBlock) (Kd.qF (abj.out) (Kd.Hg Je.out) (by decide)) (fun k_ hk => ⟨hk.1.2, hk.2⟩))) (fun _ h_ => h_))); (case aB => exact bb); (case aF => exact (fun k_ hk => Kd.fresh' (Kd.jH (ur qm.out)) k_ hk)); (case aO => exact (by (with_reducible repeat (first | apply Kd.tK | apply Kd.tN | apply Kd.wF)); exact Kd.Eu Je.out (fun k_ hk => ⟨hk.1, fun e_ => hk.2 e_⟩))); (case aS => exact (aj bb)); (case aL => have := ae1.out; omega); intro aF4 w20 ho hb hg hat; rw [← akH.out] at ho; have asv := ak (ho); replace qm := ak (Kd.nZ (ur qm.out) (Kd.Hg (by (with_reducible repeat (first | apply Kd.tK | apply Kd.tN | apply Kd.wF)); exact Je.out)) (by decide) hg); replace oL := ak (bM (g := QY) (o := .cells #[.slice jl dG.length jm, .slice ji cO.length jk, .slice (some asu) aC.length fM] 28 (0, 0)) (ub oL.out) hg (Kd.ahR Je.out oL.out (by decide))); replace HB := ak (hb); clear ho hb hg hat Je abj))
     go_roundg k1
     case measure => exact kl
     case rel => exact ⟨_, _, rs, H', ⟨kl⟩, ⟨ur (Kd.aY qm.out (fun _ hk => trivial))⟩, ⟨by (with_reducible repeat (first | apply Kd.tK | apply Kd.tN | apply Kd.wF)); exact asv.out⟩, ⟨ub oL.out⟩, ⟨bb⟩⟩
    ·
     replace H := bd H
     obtain ⟨⟨aia, aF5⟩, A22, H⟩ := H
     (try dsimp only at H)
     replace H := nl H; obtain ⟨aeH, H⟩ := H
     obtain ⟨aF6, akI⟩ := nm (Tn ++ aia)
     rw [← akI.out] at H
     obtain rfl := s1 H
     have z24 := ku oL.out
     obtain ⟨ayX, ayY, anq⟩ := Kd.aaN Je.out
     subst anq
     go_wp2_with (first | (refine gV Tryz.func109 (dD.calls (cu ((Kd.J5 Je.out).2.2)) ((Kd.J5 Je.out).2.1) A22.out) ?_; rintro aF7 w26 ⟨ho0, hb⟩; have XJ := ak (Kd.aG (Kd.fK ho0 (Kd.jH (ur qm.out))) (aj bb)); replace qm := ak (Kd.fA (ur qm.out) (Kd.eH ho0) hb); replace Je := ak (Kd.Gh (by (with_reducible repeat (first | apply Kd.tK | apply Kd.tN | apply Kd.wF)); exact Je.out) (Kd.eH ho0) hb); replace oL := kb oL hb; replace HB := bz HB hb; clear hb; (try clear ho0); obtain ⟨asw, asx, azd⟩ := Kd.aX XJ.out; subst azd) | ((with_reducible refine dN (b := .append) (xs := #[.tmp 55, .tmp 56]) rfl ?_); at_builtin; refine Kd.nP Kd.string (w0 := w) w.heap.size rfl (.tmp 55) (.tmp 56) 23 9 (.string ⟨#[]⟩) 16 rfl Tryz.underlying23 info9 rfl (by decide) (by omega) XI Tn aia _ _ _ (fun k_ => some k_ ≠ (.slice asw aia.length asx : Value).ownBlock) (fun _ => False) rfl rfl ?aO ?aR (fun _ _ h => h) (fun _ h => h.elim) ?aF ?aB ?aS ?aL ?_; (case aR => repeat (first | exact (Kd.au XJ.out).2.2 | (with_reducible refine Kd.pV ?_ _) | (with_reducible refine Kd.pW ?_ _) | (with_reducible refine Kd.sU ?_))); (case aB => exact bb); (case aF => exact (fun k_ hk => Kd.fresh' (Kd.jH (ur XJ.out)) k_ hk)); (case aO => exact (ur (Kd.aY qm.out (fun _ hk => hk.2)))); (case aS => exact (aj bb)); (case aL => have := aeH.out; omega); intro aF8 w27 ho hb hg hat; rw [← akI.out] at ho; have asy := ak (ho); replace Je := ak (Kd.aaO (ok := (fun k_ => some k_ ≠ (.slice asw aia.length asx : Value).ownBlock)) (by (with_reducible repeat (first | apply Kd.tK | apply Kd.tN | apply Kd.wF)); exact Kd.Eu Je.out (fun _ hk => ⟨hk.2, hk.1⟩)) hg hat); replace oL := ak (bM (g := QY) (o := .cells #[.slice jl dG.length jm, .slice ji cO.length jk, .slice iC aC.length fM] 28 (0, 0)) (ub oL.out) hg (Kd.nO qm.out oL.out (by decide))); replace XJ := ak (Kd.qo (ok := (fun _ => True)) (ur XJ.out) hg hat); replace HB := ak (hb); clear ho hb hg hat qm))
     go_ret
     exact ⟨_, er, ur (Kd.aY asy.out (fun _ hk => trivial)), bb⟩
 ·
  replace H := nl H; obtain ⟨asz, H⟩ := H
  obtain ⟨aF9, akJ⟩ := nm (Tn ++ cO)
  rw [← akJ.out] at H
  obtain rfl := s1 H
  go_enter Tryz.func67, Tryz.ntmps67
  go_wp2_with (first | (refine bX HB 1 #[.slice jl dG.length jm, .slice ji cO.length jk, .slice iC aC.length fM] 28 ?_; intro QY w30 oL asq hb; replace HB := bs HB hb; clear hb; have z31 := ku oL.out) | (refine gV Tryz.func107 (jd.calls (cu (Kd.aW qE.out HB.out)) qX.out A2.out) ?_; rintro anL w32 ⟨ho0, hb⟩; have QZ := ak (Kd.aG ho0 (aj bb)); replace oL := kb oL hb; replace HB := bz HB hb; clear hb; (try clear ho0)) | ((with_reducible refine dN (b := .append) (xs := #[.tmp 17, .tmp 18]) rfl ?_); at_builtin; refine Kd.oP Kd.string (w0 := w) w.heap.size rfl (.tmp 17) (.tmp 18) 23 9 (.string ⟨#[]⟩) 16 rfl Tryz.underlying23 info9 rfl (by decide) (by omega) anL aso (⟨#[]⟩ : ByteArray) [.string (⟨#[]⟩ : ByteArray)] (fun _ => True) (fun _ => False) rfl rfl ?aP (fun _ hk => hk.elim) ?aF ?aO ?aB ?aS ?aL ?_; (case aP => exact rfl); (case aB => exact bb); (case aF => exact (fun _ _ => trivial)); (case aO => exact (ur QZ.out)); (case aS => exact (aj bb)); (case aL => have := ac2.out; omega); intro XI w33 ho hb hg hat; rw [← akG.out] at ho; have Fj := ak (ho); replace oL := ak (bM (g := QY) (o := .cells #[.slice jl dG.length jm, .slice ji cO.length jk, .slice iC aC.length fM] 28 (0, 0)) (ub oL.out) hg (Kd.nO QZ.out oL.out (by decide))); replace HB := ak (hb); clear ho hb hg hat QZ; have z34 := ku oL.out) | (refine gB Tryz.func108 (kV.calls (cu (Kd.aW qE.out HB.out)) qX.out A4.out) ?_; intro w35 hb; replace Fj := rb Fj hb; replace oL := kb oL hb; replace HB := bz HB hb; clear hb; have z36 := ku oL.out) | ((with_reducible refine dN (b := .append) (xs := #[.tmp 28, .tmp 30]) rfl ?_); at_builtin; refine Kd.nP Kd.string (w0 := w) w.heap.size rfl (.tmp 28) (.tmp 30) 23 9 (.string ⟨#[]⟩) 16 rfl Tryz.underlying23 info9 rfl (by decide) (by omega) XI Tn cO _ _ _ (fun _ => True) (fun _ => False) rfl rfl ?aO ?aR (fun _ _ h => h) (fun _ h => h.elim) ?aF ?aB ?aS ?aL ?_; (case aR => repeat (first | exact (Kd.aW uH.out HB.out) | (with_reducible refine Kd.pV ?_ _) | (with_reducible refine Kd.pW ?_ _) | (with_reducible refine Kd.sU ?_))); (case aB => exact bb); (case aF => exact (fun _ _ => trivial)); (case aO => exact (ur Fj.out)); (case aS => exact (aj bb)); (case aL => have := asz.out; omega); intro aF_ w37 ho hb hg hat; rw [← akJ.out] at ho; have asA := ak (ho); replace oL := ak (bM (g := QY) (o := .cells #[.slice jl dG.length jm, .slice ji cO.length jk, .slice iC aC.length fM] 28 (0, 0)) (ub oL.out) hg (Kd.nO Fj.out oL.out (by decide))); replace HB := ak (hb); clear ho hb hg hat Fj))
  go_ret
  exact ⟨_, er, ur asA.out, bb⟩
mutual
def iR.l0 : Nat → List ByteArray → Int → Option (Bool)
 | 0, _, _ => none
 | k + 1, x0, x3 => if x3 < (x0.length : Int) then (iR.j1 k x0 x3 (decide (x3 ≤ 30))) else (iR.j1 k x0 x3 false)
def iR.j1 : Nat → List ByteArray → Int → Bool → Option (Bool)
 | 0, _, _, _ => none
 | k + 1, x0, x3, x11 => if x11 = true then (if 0 ≤ x3 then (if x3 < (x0.length : Int) then ((aQ.f k (qg ByteArray.empty x0 x3)).bind fun asB => (if asB = true then (iR.l0 k x0 (wrap64 (x3 + 1))) else (some false))) else (none)) else (none)) else (some (decide ((x0.length : Int) ≤ 30)))
end
def iR.f (k : Nat) (l0 : List ByteArray) : Option (Bool) := iR.l0 k l0 0
theorem iR.calls {k c0 : Nat} {A0 : Option Addr} {l0 : List ByteArray} {r : Bool} {w : World} (hr0 : Kd.C Kd.string w A0 l0.length l0) (hc0 : l0.length ≤ c0) (h : iR.f k l0 = some r) :
  Calls Tryz.prog 114 #[.slice A0 l0.length c0] w fun e w' => e = .returned (.bool r) ∧ dW w w' := by
 have HR0 := ak hr0
 have zq := ak hc0
 clear hr0 hc0
 unfold iR.f at h; have H := h
 clear h
 have H' := ak H; clear H
 go_enter Tryz.func114, Tryz.ntmps114
 go_wp2
 go_loopg [3] k (fun kq v3 w' => ∃ (dZ : Int), v3 = .int .i64 dZ ∧ ah (iR.l0 kq l0 dZ = some r) ∧ ah (kq ≤ k) ∧ dW w w')
 case atStart => exact ⟨_, rs, H', ⟨Nat.le_refl _⟩, dn⟩
 case round =>
  clear H'
  obtain ⟨dZ, rfl, HA, yB, ⟨m1, rfl⟩⟩ := hrel
  cases gk with
  | zero => exact zz HA.out
  | succ k1 =>
   obtain ⟨H⟩ := HA
   simp only [iR.l0] at H
   have HC2 := ak H
   clear H
   go_upto_region 2 with (fail)
   go_cut [11] (fun v11 wc => ∃ (kq : Nat) (wG : Bool), v11 = .bool wG ∧ ah (iR.j1 kq l0 dZ wG = some r) ∧ ah (kq ≤ k1) ∧ dW w wc)
   case first =>
    have H := HC2.out
    clear HC2
    replace H := sd H
    rcases H with ⟨iP, H⟩ | ⟨iP, H⟩
    ·
     (first | rw [iP] | (simp only [eu, f_]; rw [iP]) | skip)
     have H' := ak H; clear H
     go_wp2
     go_meet
     case rel => exact ⟨_, _, rs, H', ⟨kl⟩, dn⟩
    ·
     (first | rw [iP] | (simp only [eu, f_]; rw [iP]) | skip)
     have H' := ak H; clear H
     go_wp2
     go_meet
     case rel => exact ⟨_, _, rs, H', ⟨kl⟩, dn⟩
   case rest =>
    clear HC2
    obtain ⟨kq, wG, rfl, HA, HJ1, ⟨mc1, rfl⟩⟩ := hcut
    cases kq with
    | zero => exact zz HA.out
    | succ Py =>
     obtain ⟨H⟩ := HA
     simp only [iR.j1] at H
     replace H := sb H
     rcases H with ⟨rfl, H⟩ | ⟨rfl, H⟩
     ·
      replace H := oN H; obtain ⟨nR, H⟩ := H; replace H := oN H; obtain ⟨oJ, H⟩ := H; replace H := bd H; obtain ⟨asB, A7, H⟩ := H; replace H := sb H
      rcases H with ⟨rfl, H⟩ | ⟨rfl, H⟩
      ·
       have H' := ak H; clear H
       have Zm := zi dZ
       have Zn := zj dZ l0.length
       obtain ⟨asC, anO, aib⟩ := Kd.jI HR0.out dZ Zm Zn
       cases anO
       replace Zm := eq_true Zm
       replace Zn := eq_true Zn
       go_wp2_with (refine gA Tryz.func159 (aQ.calls A7.out) ?_; intro nd)
       go_roundg Py
       case measure => exact kl
       case rel => exact ⟨_, rs, H', ⟨kl⟩, dn⟩
      ·
       obtain rfl := s1 H
       have Zm := zi dZ
       have Zn := zj dZ l0.length
       obtain ⟨asC, anO, aib⟩ := Kd.jI HR0.out dZ Zm Zn
       cases anO
       replace Zm := eq_true Zm
       replace Zn := eq_true Zn
       go_wp2_with (refine gA Tryz.func159 (aQ.calls A7.out) ?_; intro nd)
       go_ret
       exact ⟨rs, dn⟩
     ·
      obtain rfl := s1 H
      go_wp2
      go_ret
      exact ⟨rs, dn⟩
mutual
def dU.l0 : Nat → Int → List (gK) → List ByteArray → List (mV) → List (gK) → List ByteArray → List (mV) → Option ((List (gK)) × List ByteArray × (List (mV)))
 | 0, _, _, _, _, _, _, _ => none
 | k + 1, x4, aiT, aiU, KZ, ab7, ab8, VW => if x4 < (KZ.length : Int) then (if 0 ≤ x4 then ((dU.f k ((aN KZ x4).f0) ((aN KZ x4).f1) ((aN KZ x4).f2)).bind fun afJ => (if VW.length < 1954687338268 then (dU.l0 k (wrap64 (x4 + 1)) aiT aiU KZ ab7 ab8 (VW ++ [(⟨afJ.1, afJ.2.1, afJ.2.2⟩ : mV)])) else (none))) else (none)) else (some (ab7, ab8, VW))
def dU.f : Nat → List (gK) → List ByteArray → List (mV) → Option ((List (gK)) × List ByteArray × (List (mV)))
 | 0, _, _, _ => none
 | k + 1, dG, cO, aC => (some (([] : List (gK)) : List (gK))).bind fun afK => (if afK.length + dG.length < 4398046511104 then ((some (([] : List ByteArray) : List ByteArray)).bind fun afL => (if afL.length + cO.length < 8796093022208 then (dU.l0 k 0 dG cO aC (afK ++ dG) (afL ++ cO) ([] : List (mV))) else (none))) else (none))
end
def dU.T1 : Bool × List (List Nat × List Nat) := (true, [([], []), ([], []), ([1], [1]), ([0, 2], [0, 2]), ([], []), ([], []), ([5], [5]), ([4, 6, 3], [4, 6]), ([3, 7], [3, 7]), ([], []), ([9, 8, 7, 0, 1, 2, 3, 4, 5, 6, 7, 8, 9], [8, 9])])
def dU.B1 : List Nat := [0, 0, 2, 7, 0, 0, 32, 127, 255, 0, 1023]
theorem dU.au3 : uG .any (opsOf Tryz.f110 1) = dU.T1 := by kernel_rfl
theorem dU.alO : oH dU.T1.2 dU.B1 = true := by kernel_rfl
def dU.T5 : Bool × List (List Nat × List Nat) := (true, [([], []), ([0], [0]), ([], []), ([2], [2]), ([], []), ([3, 4], [3, 4]), ([5], [5]), ([6], [6]), ([7], [7]), ([1, 8, 7], [1, 8]), ([0, 1, 2, 3, 4, 5, 6, 7, 8, 9], []), ([10, 9, 9, 0, 1, 2, 3, 4, 5, 6, 7, 8, 9], [9, 10])])
def dU.B5 : List Nat := [0, 1, 0, 4, 0, 28, 60, 124, 252, 511, 1023, 2047]
theorem dU.aoC : uG .any (opsOf Tryz.f110 5) = dU.T5 := by kernel_rfl
theorem dU.afM : oH dU.T5.2 dU.B5 = true := by kernel_rfl
theorem dU.calls (k : Nat) : ∀ (jl : Option Addr) (jm : Nat) (dG : List (gK)) (ji : Option Addr) (jk : Nat) (cO : List ByteArray) (iC : Option Addr) (fM : Nat) (aC : List (mV)) (r1 : List (gK)) (r2 : List ByteArray) (r3 : List (mV)) (w : World) (mW : Kd.C pU w jl dG.length dG) (mX : dG.length ≤ jm) (mY : Kd.C Kd.string w ji cO.length cO) (mZ : cO.length ≤ jk) (jY : Kd.C k28 w iC aC.length aC) (jZ : aC.length ≤ fM) (h : dU.f k dG cO aC = some (r1, r2, r3)),
  Calls Tryz.prog 110 #[.agg #[.slice jl dG.length jm, .slice ji cO.length jk, .slice iC aC.length fM]] w fun e w' => ∃ rY F7 Iw : Value, e = .returned (.agg #[rY, F7, Iw]) ∧ Kd.R pU 69 w' w.heap.size (fun _ => True) rY r1 ∧ Kd.R Kd.string 9 w' w.heap.size (fun _ => True) F7 r2 ∧ Kd.R k28 28 w' w.heap.size (fun k_ => some k_ ≠ (rY : Value).ownBlock ∧ some k_ ≠ (F7 : Value).ownBlock) Iw r3 ∧ Below w.heap.size w w' := by
 induction k using Nat.strongRecOn with
 | _ k ih =>
 intro jl jm dG ji jk cO iC fM aC r1 r2 r3 w mW mX mY mZ jY jZ h
 cases k with
 | zero => exact absurd h (by simp [dU.f])
 | succ k =>
 simp only [dU.f] at h
 have Et := Tryz.underlying28
 have qE := ak mW
 have qX := ak mX
 clear mW mX
 have uH := ak mY
 have wY := ak mZ
 clear mY mZ
 have jQ := ak jY
 have nC := ak jZ
 clear jY jZ
 have HB := ak (Below.refl w.heap.size w)
 have H := h
 clear h
 replace H := ny H
 obtain ⟨afK, au4, H⟩ := H
 replace H := nl H; obtain ⟨amS, H⟩ := H
 obtain ⟨Jj, alP⟩ := nm (afK ++ dG)
 rw [← alP.out] at H
 replace H := ny H
 obtain ⟨afL, au5, H⟩ := H
 replace H := nl H; obtain ⟨ac2, H⟩ := H
 obtain ⟨Jk, alQ⟩ := nm (afL ++ cO)
 rw [← alQ.out] at H
 have H' := ak H; clear H
 go_enter Tryz.func110, Tryz.ntmps110
 try go_wp2_with (first | (refine bX HB 1 #[.slice jl dG.length jm, .slice ji cO.length jk, .slice iC aC.length fM] 28 ?_; intro vw w4 lg aDi hb; replace HB := bs HB hb; clear hb) | (refine bY HB 2 #[.slice none 0 0, .slice none 0 0, .slice none 0 0] 28 ?_; intro Dk w5 qN aDj hg hb; have Uf := Au lg hg; have Ug := Aw lg hg; replace lg := kb lg hb; replace HB := bz HB hb; clear hb hg))
 replace lg := ak (bH lg.out)
 replace qN := ak (bH qN.out)
 replace HB := ak (iy HB.out)
 refine DL (n := 11) (S := fun w' => w'.cell? ⟨vw, 0, none⟩ = some (.slice jl dG.length jm) ∧ w'.cell? ⟨vw, 1, none⟩ = some (.slice ji cO.length jk) ∧ w'.cell? ⟨vw, 2, none⟩ = some (.slice iC aC.length fM)) (ds := []) #[false, false, false, false, false, false, false, false, false, false, false] (by kernel_rfl) rfl rfl ⟨(aA lg.out 0).trans rfl, (aA lg.out 1).trans rfl, (aA lg.out 2).trans rfl⟩ (fun hHeld => ?_); refine vF dU.au3 dU.alO (fun vk Za => ?_)
 generalize w5.drew = w6 at lg qN HB hHeld ⊢
 refine pl 1 ?_
 refine pl 5 ?_
 refine tk 2 ?_
 refine tk 6 ?_
 refine afi (σ := Value × Value × Value × Value × Nat) 1 #[true, true, true, true, true, true, true, true, true, true, false] (fun s_ => [(5, s_.1), (8, s_.2.1), (9, s_.2.2.1), (12, s_.2.2.2.1), (3, .pointer (some ⟨s_.2.2.2.2, 0, none⟩)), (13, .agg #[s_.2.1, s_.2.2.2.1, .slice none 0 0])]) (fun s_ w' => (w'.cell? ⟨vw, 0, none⟩ = some (.slice jl dG.length jm) ∧ w'.cell? ⟨vw, 1, none⟩ = some (.slice ji cO.length jk) ∧ w'.cell? ⟨vw, 2, none⟩ = some (.slice iC aC.length fM)) ∧ (Kd.R pU 69 w' w.heap.size (fun _ => True) s_.2.1 Jj) ∧ (Kd.R Kd.string 9 w' w.heap.size (fun _ => True) s_.2.2.2.1 Jk) ∧ (w'.heap[vw]? = some (.cells #[.slice jl dG.length jm, .slice ji cO.length jk, .slice iC aC.length fM] 28 (0, 0))) ∧ (w'.heap[Dk]? = some (.cells #[.slice none 0 0, .slice none 0 0, .slice none 0 0] 28 (0, 0))) ∧ (w'.heap[s_.2.2.2.2]? = some (.cells #[.slice none 0 0, .slice none 0 0, .slice none 0 0] 28 (0, 0))) ∧ (w.heap.size ≤ s_.2.2.2.2) ∧ (w.heap.size ≤ s_.2.2.2.2) ∧ (vw ≠ s_.2.2.2.2) ∧ (s_.2.2.2.2 ≠ vw) ∧ (Dk ≠ s_.2.2.2.2) ∧ (s_.2.2.2.2 ≠ Dk) ∧ (Below w.heap.size w w')) ?_ ?_
 rotate_left
 ·
  intro hJ
  repeat' (first
   | (obtain ⟨Ig, Ih, ac5⟩ := Kd.aX Fz.out; obtain ⟨FW, ED, Tm⟩ := Kd.aX FB.out; subst ac5; subst Tm; refine pl 8 ?_)
   | exact rW (by first | (simp only [zH, Act.put, sK, sN, l_c]; done) | (simp only [zH, Act.put, sK, sN, l_c]; rfl)) (hJ (aoD, .slice Ig Jj.length Ih, aoE, .slice FW Jk.length ED, rX) _ ⟨hHeld, Fz.out, FB.out, lg.out, qN.out, mO.out, afN.out, afN.out, oD.out, yI.out, zK.out, zL.out, HB.out⟩)
   | ((first | refine th3 0 4 9 ?_ ?_ ?_ | refine th3 3 4 9 ?_ ?_ ?_ | refine tw2 0 4 ?_ ?_ | refine tw2 0 9 ?_ ?_ | refine tw2 3 4 ?_ ?_ | refine tw2 3 9 ?_ ?_ | refine tw2 4 9 ?_ ?_ | refine tw2 7 9 ?_ ?_ | refine o1 0 ?_ | refine o1 3 ?_ | refine o1 4 ?_ | refine o1 7 ?_ | refine o1 9 ?_) <;> (intro K hK; first
    | (refine gn 3 ?_; refine Ri ?hg (N := 3) ?hd (cs := #[.slice none 0 0, .slice none 0 0, .slice none 0 0]) (t := 28) ?hr ?_; (case hd => rfl); (case hg => rfl); (case hr => first | (go_simp; done) | (go_simp; rfl)); intro rX hg w_ hbox hb; have afN := ge_ HB hg; have oD := Au lg hg; have yI := Aw lg hg; have zK := Au qN hg; have zL := Aw qN hg; (try replace BL := rb BL hb); (try replace Fz := rb Fz hb); (try replace BM := rb BM hb); (try replace FB := rb FB hb); replace lg := kb lg hb; replace qN := kb qN hb; replace HB := bs HB hb; have mO := ak hbox; clear hbox hb hg; refine hK.out _ _ sx (fun hHeld => ?_); clear hK K; refine nrm ?_)
    | (refine gn 5 ?_; refine Kd.sD pU _ 69 ?hg (N := 5) ?hd (xs := ([] : List gK)) (inner := []) (ok := fun _ => True) (xC := fun _ => True) ?hr ?hp (fun _ hk => hk) trivial (Below.refl _ _) (Nat.le_refl _) (by simp) ?_; (case hd => rfl); (case hg => rfl); (case hr => first | (go_simp; done) | (go_simp; rfl)); (case hp => exact (dK.none _ _)); intro aoD w_ ho hb _ _; rw [← au4.out] at ho; replace ho := Kd.aG ho (aj (ul HB.out)); (try replace BL := rb BL hb); (try replace Fz := rb Fz hb); (try replace BM := rb BM hb); (try replace FB := rb FB hb); (try replace mO := kb mO hb); replace lg := kb lg hb; replace qN := kb qN hb; replace HB := bs HB hb; have BL := ak ho; clear ho hb; refine hK.out _ _ sx (fun hHeld => ?_); clear hK K; refine nrm ?_)
    | (refine gn 9 ?_; refine Kd.sD Kd.string _ 9 ?hg (N := 9) ?hd (xs := ([] : List ByteArray)) (inner := []) (ok := fun _ => True) (xC := fun _ => True) ?hr ?hp (fun _ hk => hk) trivial (Below.refl _ _) (Nat.le_refl _) (by simp) ?_; (case hd => rfl); (case hg => rfl); (case hr => first | (go_simp; done) | (go_simp; rfl)); (case hp => exact (dK.none _ _)); intro aoE w_ ho hb _ _; rw [← au5.out] at ho; replace ho := Kd.aG ho (aj (ul HB.out)); (try replace BL := rb BL hb); (try replace Fz := rb Fz hb); (try replace BM := rb BM hb); (try replace FB := rb FB hb); (try replace mO := kb mO hb); replace lg := kb lg hb; replace qN := kb qN hb; replace HB := bs HB hb; have BM := ak ho; clear ho hb; refine hK.out _ _ sx (fun hHeld => ?_); clear hK K; refine nrm ?_)
    | (refine gn 8 ?_; refine Kd.uX pU (w0 := w) w.heap.size (by rfl) (.tmp 5) (.tmp 7) 25 69 (.agg #[(.string ⟨#[]⟩), (.string ⟨#[]⟩)]) 32 rfl Tryz.underlying25 xB rfl (by decide) (by omega) aoD afK dG _ _ _ (fun _ => True) (fun _ => False) rfl rfl BL.out (Kd.aW qE.out HB.out) (fun _ _ h => h) (fun _ h => h.elim) (fun _ _ => trivial) HB.out (aj HB.out) (by have := amS.out; omega) ?_; intro au6 w_ ho hb hg hat; rw [← alP.out] at ho; (try replace BM := ak (Kd.nZ BM.out (Kd.jM BL.out) (by decide) hg)); (try replace FB := ak (Kd.nZ FB.out (Kd.jM BL.out) (by decide) hg)); (try replace mO := ak (bM mO.out hg (Kd.nO BL.out mO.out (by decide)))); replace lg := ak (bM lg.out hg (Kd.nO BL.out lg.out (by decide))); replace qN := ak (bM qN.out hg (Kd.nO BL.out qN.out (by decide))); replace HB := ak hb; have Fz := ak ho; clear BL ho hb hg hat; refine hK.out _ _ sx (fun hHeld => ?_); clear hK K; refine nrm ?_)
    | (refine gn 12 ?_; refine Kd.uX Kd.string (w0 := w) w.heap.size (by rfl) (.tmp 9) (.tmp 11) 23 9 (.string ⟨#[]⟩) 16 rfl Tryz.underlying23 info9 rfl (by decide) (by omega) aoE afL cO _ _ _ (fun _ => True) (fun _ => False) rfl rfl BM.out (Kd.aW uH.out HB.out) (fun _ _ h => h) (fun _ h => h.elim) (fun _ _ => trivial) HB.out (aj HB.out) (by have := ac2.out; omega) ?_; intro au7 w_ ho hb hg hat; rw [← alQ.out] at ho; (try replace BL := ak (Kd.nZ BL.out (Kd.jM BM.out) (by decide) hg)); (try replace Fz := ak (Kd.nZ Fz.out (Kd.jM BM.out) (by decide) hg)); (try replace mO := ak (bM mO.out hg (Kd.nO BM.out mO.out (by decide)))); replace lg := ak (bM lg.out hg (Kd.nO BM.out lg.out (by decide))); replace qN := ak (bM qN.out hg (Kd.nO BM.out qN.out (by decide))); replace HB := ak hb; have FB := ak ho; clear BM ho hb hg hat; refine hK.out _ _ sx (fun hHeld => ?_); clear hK K; refine nrm ?_))))
 rintro ⟨aoD, au6, aoE, au7, rX⟩ w16 ⟨hS_, h0_, h1_, h2_, h3_, h4_, h5_, h6_, h7_, h8_, h9_, VL, adp⟩
 have xK : ah (Kd.R pU 69 w16 w.heap.size (fun _ => True) au6 Jj) := ⟨h0_⟩
 have xM : ah (Kd.R Kd.string 9 w16 w.heap.size (fun _ => True) au7 Jk) := ⟨h1_⟩
 have yC : ah (w16.heap[vw]? = some (.cells #[.slice jl dG.length jm, .slice ji cO.length jk, .slice iC aC.length fM] 28 (0, 0))) := ⟨h2_⟩
 have Ad : ah (w16.heap[Dk]? = some (.cells #[.slice none 0 0, .slice none 0 0, .slice none 0 0] 28 (0, 0))) := ⟨h3_⟩
 have C9 : ah (w16.heap[rX]? = some (.cells #[.slice none 0 0, .slice none 0 0, .slice none 0 0] 28 (0, 0))) := ⟨h4_⟩
 have D6 : ah (w.heap.size ≤ rX) := ⟨h5_⟩
 have Fv : ah (w.heap.size ≤ rX) := ⟨h6_⟩
 have TW : ah (vw ≠ rX) := ⟨h7_⟩
 have XW : ah (rX ≠ vw) := ⟨h8_⟩
 have n9_ : ah (Dk ≠ rX) := ⟨h9_⟩
 have Rj : ah (rX ≠ Dk) := ⟨VL⟩
 have afk : ah (Below w.heap.size w w16) := ⟨adp⟩
 clear lg qN HB h0_ h1_ h2_ h3_ h4_ h5_ h6_ h7_ h8_ h9_ VL adp
 have Fz := xK
 have FB := xM
 have lg := yC
 have qN := Ad
 have mO := C9
 have afN := D6
 have aDk := Fv
 have oD := TW
 have yI := XW
 have zK := n9_
 have zL := Rj
 have HB := afk
 clear xK xM yC Ad C9 D6 Fv TW XW n9_ Rj afk
 have hHeld : w16.cell? ⟨vw, 0, none⟩ = some (.slice jl dG.length jm) ∧ w16.cell? ⟨vw, 1, none⟩ = some (.slice ji cO.length jk) ∧ w16.cell? ⟨vw, 2, none⟩ = some (.slice iC aC.length fM) := hS_
 obtain ⟨FW, ED, Tm⟩ := Kd.aX FB.out
 (first | subst Tm | (injection Tm with sQ yO sS; have yP := sQ.symm; have yQ := sS.symm; clear sQ yO sS; subst yP; subst yQ))
 obtain ⟨Ig, Ih, ac5⟩ := Kd.aX Fz.out
 (first | subst ac5 | (injection ac5 with sQ yO sS; have yP := sQ.symm; have yQ := sS.symm; clear sQ yO sS; subst yP; subst yQ))
 refine rW (a' := ?_) ?_ ?_
 rotate_left
 ·
  simp only [zH, Act.put, sK, sN, l_c]
  rfl
 refine o1 10 (fun K hK => ?_)
 have aIp : w16.cell? ⟨rX, 0, none⟩ = some (.slice none 0 0) := (aA mO.out 0).trans rfl
 have aDl := iG mO.out 0
 have ax0 := oD.out
 have ax1 := zK.out
 have ax2 := yI.out
 have ax3 := zL.out
 have aIq : w16.cell? ⟨rX, 1, none⟩ = some (.slice none 0 0) := (aA mO.out 1).trans rfl
 have aDm := iG mO.out 1
 have ax4 := oD.out
 have ax5 := zK.out
 have ax6 := yI.out
 have ax7 := zL.out
 have aIr : w16.cell? ⟨rX, 2, none⟩ = some (.slice none 0 0) := (aA mO.out 2).trans rfl
 have aDn := iG mO.out 2
 have ax8 := oD.out
 have ax9 := zK.out
 have ax_ := yI.out
 have aya := zL.out
 refine IG (w1 := ?_) (by rfl) rfl ?_ ?_
 rotate_left
 ·
  go_simp
  rfl
 refine hK.out _ _ ⟨((cell_far (p := ⟨rX, _, none⟩) oD.out _).trans (((cell_far (p := ⟨rX, _, none⟩) oD.out _).trans (((cell_far (p := ⟨rX, _, none⟩) oD.out _).trans (hHeld.1)))))), ((cell_far (p := ⟨rX, _, none⟩) oD.out _).trans (((cell_far (p := ⟨rX, _, none⟩) oD.out _).trans (((cell_far (p := ⟨rX, _, none⟩) oD.out _).trans (hHeld.2.1)))))), ((cell_far (p := ⟨rX, _, none⟩) oD.out _).trans (((cell_far (p := ⟨rX, _, none⟩) oD.out _).trans (((cell_far (p := ⟨rX, _, none⟩) oD.out _).trans (hHeld.2.2))))))⟩ (fun hHeld => ?_)
 clear hK K
 refine II (zT vk.out (by kernel_rfl)) ?_
 try go_wp2
 go_loopg [4] k (fun kq v4 w' => ∃ (fG : Int) (Bq : List (mV)) (zW : Value), v4 = .int .i64 fG ∧ ah (dU.l0 kq fG dG cO aC Jj Jk Bq = some (r1, r2, r3)) ∧ ah (kq ≤ k) ∧ ah (Kd.R pU 69 w' w.heap.size (fun _ => True) (.slice Ig Jj.length Ih) Jj) ∧ ah (Kd.R Kd.string 9 w' w.heap.size (fun _ => True) (.slice FW Jk.length ED) Jk) ∧ ah (Kd.R k28 28 w' w.heap.size (fun k_ => some k_ ≠ ((.slice Ig Jj.length Ih) : Value).ownBlock ∧ some k_ ≠ ((.slice FW Jk.length ED) : Value).ownBlock ∧ k_ ≠ vw ∧ k_ ≠ Dk ∧ k_ ≠ rX) zW Bq) ∧ ah (w'.heap[vw]? = some (.cells #[(.slice jl dG.length jm), (.slice ji cO.length jk), (.slice iC aC.length fM)] 28 (0, 0))) ∧ ah (w'.heap[Dk]? = some (.cells #[(.slice none 0 0), (.slice none 0 0), (.slice none 0 0)] 28 (0, 0))) ∧ ah (w'.heap[rX]? = some (.cells #[(.slice Ig Jj.length Ih), (.slice FW Jk.length ED), zW] 28 (0, 0))) ∧ ah (Below w.heap.size w w'))
 case atStart => exact ⟨_, _, _, rs, H', ⟨Nat.le_refl _⟩, ⟨rr⟩, ⟨rr⟩, ⟨nx⟩, ⟨bq⟩, ⟨bq⟩, ⟨bq⟩, ⟨bb⟩⟩
 case round =>
  clear H'
  obtain ⟨fG, Bq, zW, rfl, HA, yB, tC, tH, o9, lg, qN, mO, HB⟩ := hrel
  cases gk with
  | zero => exact zz HA.out
  | succ k1 =>
   obtain ⟨H⟩ := HA
   simp only [dU.l0] at H
   replace H := sd H
   rcases H with ⟨Gm, H⟩ | ⟨Gm, H⟩
   ·
    replace H := oN H; obtain ⟨BI, H⟩ := H; replace H := bd H
    obtain ⟨⟨afO, afP, afQ⟩, X3, H⟩ := H
    (try dsimp only at H)
    replace H := nl H; obtain ⟨Xy, H⟩ := H
    obtain ⟨aIs, alR⟩ := nm (Bq ++ [(⟨afO, afP, afQ⟩ : mV)])
    rw [← alR.out] at H
    have H' := ak H; clear H
    have auU := Uf.out
    have auV := Ug.out
    have akq := oD.out
    have akr := yI.out
    have ajt := ku lg.out
    try go_wp2
    replace tC := ak (Kd.jX tC.out)
    replace tH := ak (Kd.jX tH.out)
    replace o9 := ak (Kd.jX o9.out)
    replace lg := ak (bH lg.out)
    replace qN := ak (bH qN.out)
    replace mO := ak (bH mO.out)
    replace HB := ak (iy HB.out)
    have aoF := zi fG
    have aoG := zj fG aC.length
    obtain ⟨K_, afR, afS, afT, afU, afV, afW, aAu, Qk, Ql, Qm, ab9, ab_, acd, ace, acf, acg⟩ := zD jQ.out fG aoF aoG
    have zX := Qm
    have zY := Ql
    have zZ := Qk
    cases aAu
    replace Qk := cl HB.out Qk
    replace Ql := cl HB.out Ql
    replace Qm := cl HB.out Qm
    have ach := ak ab_
    have aiV := ak ab9
    clear ab_ ab9
    have aci := ak ace
    have aiW := ak acd
    clear ace acd
    have acj := ak acg
    have aiX := ak acf
    clear acg acf
    replace aoF := eq_true aoF
    replace aoG := eq_true aoG
    refine DL (n := 12) (S := fun w' => w'.cell? ⟨rX, 0, none⟩ = some (.slice Ig Jj.length Ih) ∧ w'.cell? ⟨rX, 1, none⟩ = some (.slice FW Jk.length ED) ∧ w'.cell? ⟨rX, 2, none⟩ = some (zW) ∧ w'.cell? ⟨vw, 0, none⟩ = some (.slice jl dG.length jm) ∧ w'.cell? ⟨vw, 1, none⟩ = some (.slice ji cO.length jk) ∧ w'.cell? ⟨vw, 2, none⟩ = some (.slice (some K_) aC.length fM) ∧ w'.cell? (K_.add ((fG).toNat * 3)) = some (.slice afR ((aN aC fG).f0).length afS) ∧ w'.cell? ⟨(K_.add ((fG).toNat * 3)).block, (K_.add ((fG).toNat * 3)).off + 1, none⟩ = some (.slice afT ((aN aC fG).f1).length afU) ∧ w'.cell? ⟨(K_.add ((fG).toNat * 3)).block, (K_.add ((fG).toNat * 3)).off + 2, none⟩ = some (.slice afV ((aN aC fG).f2).length afW)) (ds := [11]) #[false, false, false, false, false, false, false, false, false, false, false, false] (by kernel_rfl) rfl rfl ⟨(aA mO.out 0).trans rfl, (aA mO.out 1).trans rfl, (aA mO.out 2).trans rfl, (aA lg.out 0).trans rfl, (aA lg.out 1).trans rfl, (aA lg.out 2).trans rfl, ((HB.out.cell (World.block_lt_of_cell? w _ zZ)).trans zZ), ((HB.out.cell (World.block_lt_of_cell? w _ zY)).trans zY), ((HB.out.cell (World.block_lt_of_cell? w _ zX)).trans zX)⟩ (fun hHeld => ?_); refine vF dU.aoC dU.afM (fun vk Za => ?_)
    generalize wr.drew = w29 at tC tH o9 lg qN mO HB ach aci acj Qk Ql Qm hHeld ⊢
    refine pl 0 ?_
    refine pl 2 ?_
    refine pl 4 ?_
    refine tk 1 ?_
    refine tk 3 ?_
    refine pl 5 ?_
    refine tk 6 ?_
    refine o1 7 (fun K hK => ?_)
    refine Ac Tryz.func110 (by kernel_rfl) rfl #[.agg #[.slice afR ((aN aC fG).f0).length afS, .slice afT ((aN aC fG).f1).length afU, .slice afV ((aN aC fG).f2).length afW]] (by rfl) rfl rfl ma ?_
    with_reducible refine (ih k1 (by have := yB.out; omega) _ _ ((aN aC fG).f0) _ _ ((aN aC fG).f1) _ _ ((aN aC fG).f2) afO afP afQ _ ?gJ ?jf ?Af ?D7 ?Ag ?au8 X3.out).mono ?_
    (case gJ => repeat (first | exact (Kd.aW ach.out HB.out) | (with_reducible refine Kd.pV ?_ _) | (with_reducible refine Kd.pW ?_ _) | (with_reducible refine Kd.sU ?_)))
    (case jf => exact aiV.out)
    (case Af => repeat (first | exact (Kd.aW aci.out HB.out) | (with_reducible refine Kd.pV ?_ _) | (with_reducible refine Kd.pW ?_ _) | (with_reducible refine Kd.sU ?_)))
    (case D7 => exact aiW.out)
    (case Ag => repeat (first | exact (Kd.aW acj.out HB.out) | (with_reducible refine Kd.pV ?_ _) | (with_reducible refine Kd.pW ?_ _) | (with_reducible refine Kd.sU ?_)))
    (case au8 => exact aiX.out)
    rintro e w30 ⟨aIt, aIu, aIv, rfl, ho0, ho1, ho2, hb⟩
    refine ⟨_, rfl, ?_⟩
    have afX := ak (Kd.aG (Kd.fK ho0 (Kd.jH (ur tC.out))) (aj bb))
    have afY := ak (Kd.aG (Kd.fK ho1 (Kd.jH (ur tH.out))) (aj bb))
    have afZ := ak (Kd.aG (Kd.oI (Kd.oI (Kd.oI (Kd.fK (Kd.fK (Kd.fK ho2 (Kd.jH (ur tC.out))) (Kd.jH (ur tH.out))) (Kd.jH (ur o9.out))) (g := vw) (o := .cells #[.slice jl dG.length jm, .slice ji cO.length jk, .slice (some K_) aC.length fM] 28 (0, 0)) (ub lg.out)) (g := Dk) (o := .cells #[.slice none 0 0, .slice none 0 0, .slice none 0 0] 28 (0, 0)) (ub qN.out)) (g := rX) (o := .cells #[.slice Ig Jj.length Ih, .slice FW Jk.length ED, zW] 28 (0, 0)) (ub mO.out)) (aj bb))
    replace tC := ak (Kd.fA (ur tC.out) (Kd.eH ho0) hb)
    replace tH := ak (Kd.fA (ur tH.out) (Kd.eH ho1) hb)
    replace o9 := ak (Kd.aY (Kd.qR (Kd.qR (Kd.qR (Kd.aej (ur o9.out) hb) (Kd.eH ho0)) (Kd.eH ho1)) (Kd.eH ho2)) (fun _ h_ => h_.1))
    replace lg := kb lg hb
    replace qN := kb qN hb
    replace mO := kb mO hb
    replace HB := bz HB hb
    try clear hb
    try clear ho0
    try clear ho1
    try clear ho2
    obtain ⟨aAv, aAw, au9⟩ := Kd.aX afX.out
    (first | subst au9 | (injection au9 with sQ yO sS; have yP := sQ.symm; have yQ := sS.symm; clear sQ yO sS; subst yP; subst yQ))
    obtain ⟨Tz, TA, afl⟩ := Kd.aX afY.out
    (first | subst afl | (injection afl with sQ yO sS; have yP := sQ.symm; have yQ := sS.symm; clear sQ yO sS; subst yP; subst yQ))
    obtain ⟨arT, arU, aeS⟩ := Kd.aX afZ.out
    (first | subst aeS | (injection aeS with sQ yO sS; have yP := sQ.symm; have yQ := sS.symm; clear sQ yO sS; subst yP; subst yQ))
    refine hK.out _ _ ⟨(aA mO.out 0).trans rfl, (aA mO.out 1).trans rfl, (aA mO.out 2).trans rfl, (aA lg.out 0).trans rfl, (aA lg.out 1).trans rfl, (aA lg.out 2).trans rfl, ((HB.out.cell (World.block_lt_of_cell? w _ zZ)).trans zZ), ((HB.out.cell (World.block_lt_of_cell? w _ zY)).trans zY), ((HB.out.cell (World.block_lt_of_cell? w _ zX)).trans zX)⟩ (fun hHeld => ?_)
    clear hK K
    refine nrm ?_
    refine o1 8 (fun K hK => ?_)
    refine DN (w1 := ?_) (v := ?_) (by rfl) rfl ?_ ?_
    rotate_left 2
    ·
     go_simp
     constructor
     ·
      rfl
     ·
      rfl
    refine hK.out _ _ ⟨(aA (bn mO.out _) 0).trans rfl, (aA (bn mO.out _) 1).trans rfl, (aA (bn mO.out _) 2).trans rfl, (aA (bn lg.out _) 0).trans rfl, (aA (bn lg.out _) 1).trans rfl, (aA (bn lg.out _) 2).trans rfl, (World.cell?_alloc_lt _ _ _ (World.block_lt_of_cell? _ _ (((HB.out.cell (World.block_lt_of_cell? w _ zZ)).trans zZ)))).trans (((HB.out.cell (World.block_lt_of_cell? w _ zZ)).trans zZ)), (World.cell?_alloc_lt _ _ _ (World.block_lt_of_cell? _ _ (((HB.out.cell (World.block_lt_of_cell? w _ zY)).trans zY)))).trans (((HB.out.cell (World.block_lt_of_cell? w _ zY)).trans zY)), (World.cell?_alloc_lt _ _ _ (World.block_lt_of_cell? _ _ (((HB.out.cell (World.block_lt_of_cell? w _ zX)).trans zX)))).trans (((HB.out.cell (World.block_lt_of_cell? w _ zX)).trans zX))⟩ (fun hHeld => ?_)
    clear hK K
    refine nrm ?_
    refine o1 9 (fun K hK => ?_)
    refine Kd.oO k28 (w0 := w) w.heap.size (by rfl) (.tmp 22) (.tmp 29) 26 28 (.agg #[(.slice none 0 0), (.slice none 0 0), (.slice none 0 0)]) 72 rfl Tryz.underlying26 U0 rfl (by decide) (by omega) zW Bq (⟨afO, afP, afQ⟩ : mV) [.slice aAv afO.length aAw, .slice Tz afP.length TA, .slice arT afQ.length arU] (fun k_ => some k_ ≠ (.slice Ig Jj.length Ih : Value).ownBlock ∧ some k_ ≠ (.slice FW Jk.length ED : Value).ownBlock ∧ k_ ≠ vw ∧ k_ ≠ Dk ∧ k_ ≠ rX) (fun k_ => ((fun k_ => some k_ ≠ (.slice Ig Jj.length Ih : Value).ownBlock ∧ some k_ ≠ (.slice FW Jk.length ED : Value).ownBlock ∧ k_ ≠ vw ∧ k_ ≠ Dk ∧ k_ ≠ rX)) k_ ∧ some k_ ≠ (zW : Value).ownBlock) rfl rfl ?aP (fun _ hk => hk) ?aF ?aO ?aB ?aS ?aL ?_
    (case aP => exact P8 _ _ _ (⟨afO, afP, afQ⟩ : mV) (Kd.aY (Kd.kE (Kd.kE (Kd.kE (Kd.qF (Kd.qF (afX.out) (Kd.jM tH.out) (by decide)) (Kd.jM o9.out) (by decide)) lg.out (by decide)) qN.out (by decide)) mO.out (by decide)) (fun k_ hk => ⟨⟨hk.1.1.1.1.1.2, ⟨hk.1.1.1.1.2, ⟨hk.1.1.2, ⟨hk.1.2, hk.2⟩⟩⟩⟩, hk.1.1.1.2⟩)) (Kd.aY (Kd.kE (Kd.kE (Kd.kE (Kd.qF (Kd.qF (afY.out) (Kd.jM tC.out) (by decide)) (Kd.jM o9.out) (by decide)) lg.out (by decide)) qN.out (by decide)) mO.out (by decide)) (fun k_ hk => ⟨⟨hk.1.1.1.1.2, ⟨hk.1.1.1.1.1.2, ⟨hk.1.1.2, ⟨hk.1.2, hk.2⟩⟩⟩⟩, hk.1.1.1.2⟩)) (Kd.aY (afZ.out) (fun k_ hk => ⟨⟨hk.1.1.1.1.1.2, ⟨hk.1.1.1.1.2, ⟨hk.1.1.2, ⟨hk.1.2, hk.2⟩⟩⟩⟩, hk.1.1.1.2⟩)))
    (case aB => exact bb)
    (case aF => exact (fun k_ hk => ⟨Kd.fresh' (Kd.jH (ur tC.out)) k_ hk, Kd.fresh' (Kd.jH (ur tH.out)) k_ hk, Kd.zF (g := vw) (o := .cells #[.slice jl dG.length jm, .slice ji cO.length jk, .slice (some K_) aC.length fM] 28 (0, 0)) (ub lg.out) k_ hk, Kd.zF (g := Dk) (o := .cells #[.slice none 0 0, .slice none 0 0, .slice none 0 0] 28 (0, 0)) (ub qN.out) k_ hk, Kd.zF (g := rX) (o := .cells #[.slice Ig Jj.length Ih, .slice FW Jk.length ED, zW] 28 (0, 0)) (ub mO.out) k_ hk⟩))
    (case aO => exact (ur (Kd.aY o9.out (fun _ hk => ⟨hk.1.1.1.1, ⟨hk.1.1.1.2.1, ⟨hk.1.1.1.2.2.1, ⟨hk.1.1.1.2.2.2.1, hk.1.1.1.2.2.2.2⟩⟩⟩⟩))))
    (case aS => exact (aj bb))
    (case aL => have := Xy.out; omega)
    intro aIw w31 ho hb hg hat
    rw [← alR.out] at ho
    have xK := ak (Kd.nZ (ur tC.out) (Kd.jM (ur o9.out)) (by decide) hg)
    have xM := ak (Kd.nZ (ur tH.out) (Kd.jM (ur o9.out)) (by decide) hg)
    have yC := ak (bM (g := vw) (o := .cells #[.slice jl dG.length jm, .slice ji cO.length jk, .slice (some K_) aC.length fM] 28 (0, 0)) (ub lg.out) hg (Kd.Az o9.out (fun _ hk => hk.1.1.1.2.2.1)))
    have Ad := ak (bM (g := Dk) (o := .cells #[.slice none 0 0, .slice none 0 0, .slice none 0 0] 28 (0, 0)) (ub qN.out) hg (Kd.Az o9.out (fun _ hk => hk.1.1.1.2.2.2.1)))
    have C9 := ak (bM (g := rX) (o := .cells #[.slice Ig Jj.length Ih, .slice FW Jk.length ED, zW] 28 (0, 0)) (ub mO.out) hg (Kd.Az o9.out (fun _ hk => hk.1.1.1.2.2.2.2)))
    have D6 := ak (hb)
    have Fv := ak (ho)
    clear tC tH lg qN mO HB o9 afX afY afZ
    have tC := xK
    have tH := xM
    have lg := yC
    have qN := Ad
    have mO := C9
    have HB := D6
    have au_ := Fv
    clear xK xM yC Ad C9 D6 Fv ho hb hg hat
    obtain ⟨aIx, aIy, ava⟩ := Kd.aX au_.out
    (first | subst ava | (injection ava with sQ yO sS; have yP := sQ.symm; have yQ := sS.symm; clear sQ yO sS; subst yP; subst yQ))
    refine hK.out _ _ ⟨(aA mO.out 0).trans rfl, (aA mO.out 1).trans rfl, (aA mO.out 2).trans rfl, (aA lg.out 0).trans rfl, (aA lg.out 1).trans rfl, (aA lg.out 2).trans rfl, ((HB.out.cell (World.block_lt_of_cell? w _ zZ)).trans zZ), ((HB.out.cell (World.block_lt_of_cell? w _ zY)).trans zY), ((HB.out.cell (World.block_lt_of_cell? w _ zX)).trans zX)⟩ (fun hHeld => ?_)
    clear hK K
    refine nrm ?_
    refine pl 10 ?_
    refine IE (i := 11) (N := none) #[true, true, true, true, true, true, true, true, true, true, true, true] rfl rfl (pR vk.out (by kernel_rfl)) (by decide) (fun K hK => ?_)
    have azV : w31.cell? ⟨rX, 2, none⟩ = some (zW) := (aA mO.out 2).trans rfl
    have auq := iG mO.out 2
    have aiI := oD.out
    have aiJ := zK.out
    have aiK := yI.out
    have aiL := zL.out
    refine IG (w1 := ?_) (by rfl) rfl ?_ ?_
    rotate_left
    ·
     go_simp
     rfl
    refine hK.out _ _ ?_
    clear hK K
    refine II (zT vk.out (by kernel_rfl)) ?_
    try go_wp2
    go_roundg k1
    case measure => exact kl
    case rel => exact ⟨_, _, _, rs, H', ⟨kl⟩, ⟨rr⟩, ⟨rr⟩, ⟨rr⟩, ⟨bq⟩, ⟨bq⟩, ⟨bq⟩, ⟨bb⟩⟩
   ·
    obtain ⟨rfl, rfl, rfl⟩ := s3 H
    have alb := Uf.out
    have alc := Ug.out
    have aur := oD.out
    have aus := yI.out
    have z39 := ku lg.out
    have alS := zL.out
    have alT := zK.out
    have ajD := ku mO.out
    have z42 := ku qN.out
    obtain ⟨aAx, aAy, aAz⟩ := Kd.aX o9.out
    subst aAz
    go_wp2
    refine bodyPost_ret (results_cell_row rfl _ _ Dk 28 #[.slice Ig Jj.length Ih, .slice FW Jk.length ED, .slice aAx Bq.length aAy] (0, 0) _ rfl bq Tryz.underlying28 rfl (by kernel_rfl)) rfl ?_
    exact ⟨_, _, _, er, rr, rr, rr, bb⟩
end Go.Proofs.YtncdadcmghglkaaGreatDoor.PFnPartValid
