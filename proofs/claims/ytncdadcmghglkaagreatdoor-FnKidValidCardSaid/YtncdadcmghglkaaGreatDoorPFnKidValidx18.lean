/- Printed walks; conditions: those in each statement. -/
import Derived.Test.YtncdadcmghglkaaGreatDoorVFnKidValidQt
import Derived.Test.YtncdadcmghglkaaGreatDoorVFnKidValidYt
import Derived.Test.YtncdadcmghglkaaGreatDoorPFnKidValidx0
import Derived.Test.YtncdadcmghglkaaGreatDoorPFnKidValidx11
import Derived.Test.YtncdadcmghglkaaGreatDoorPFnKidValidx12
import Derived.Test.YtncdadcmghglkaaGreatDoorPFnKidValidx17
-- short
-- dense
-- sq
-- sq2
namespace Go.Proofs.YtncdadcmghglkaaGreatDoor.PFnKidValid
open Go.RowKit Go.Proofs.YtncdadcmghglkaaGreatDoor.X Go.Proofs.YtncdadcmghglkaaGreatDoorW.bI Go.Proofs.YtncdadcmghglkaaGreatDoorW.gq Go.Proofs.YtncdadcmghglkaaGreatDoorW.iJ
attribute [local go_sem] kJ kK mD mF jv jw kL kM   -- for this text's walks alone
set_option linter.unusedVariables false
set_option maxHeartbeats 8000000
set_option maxRecDepth 100000
set_option linter.unusedSimpArgs false
def nV.f (a0 : ByteArray) (a1 : ByteArray) : Option (Bool) := if 2 + a1.size ≤ 9223372036854775807 then (if a0.toList = ((⟨#[45, 45]⟩ : ByteArray) ++ a1).toList then (some true) else (if ((⟨#[45, 45]⟩ : ByteArray) ++ a1).size + 2 ≤ 9223372036854775807 then (some (a0.toList == (((⟨#[45, 45]⟩ : ByteArray) ++ a1) ++ (⟨#[45, 45]⟩ : ByteArray)).toList)) else (none))) else (none)
theorem nV.calls {a0 a1 : ByteArray} {r : Bool} {w : World} (h : nV.f a0 a1 = some r) :
  Calls Tryz.prog 115 #[.string a0, .string a1] w fun e w' => e = .returned (.bool r) ∧ dS w w' := by
 unfold nV.f at h; have H := h
 clear h
 replace H := nn H; obtain ⟨c3, H⟩ := H
 have iO := eq_true c3
 have Au := decide_eq_true c3
 try have am2 : (9223372036854775807 < 2 + a1.size) = False := eq_false (Nat.not_lt.2 c3)
 replace H := sq H
 rcases H with ⟨su, XW, H⟩ | ⟨c4, su, XW, H⟩
 ·
  obtain rfl := s1 H
  go_enter Tryz.func115, Tryz.ntmps115
  go_wp2
  go_ret
  exact ⟨rs, dn⟩
 ·
  replace H := nn H; obtain ⟨c5, H⟩ := H
  have nO := eq_true c5
  have JM := decide_eq_true c5
  try have aFD : (9223372036854775807 < 2 + a1.size + 2) = False := by have h_ := (eq_false (Nat.not_lt.2 c5) : (9223372036854775807 < ((⟨#[45, 45]⟩ : ByteArray) ++ a1).size + 2) = False); simp only [ByteArray.size_append] at h_; exact h_
  try have aFE : (9223372036854775807 < ((⟨#[45, 45]⟩ : ByteArray) ++ a1).size + 2) = False := eq_false (Nat.not_lt.2 c5)
  obtain rfl := s1 H
  go_enter Tryz.func115, Tryz.ntmps115
  go_wp2
  go_ret
  exact ⟨rs, dn⟩
mutual
def cO.j0 : Nat → List (List ByteArray) → ByteArray → List ByteArray → Bool → Option (List ByteArray × Bool)
 | 0, _, _, _, _ => none
 | k + 1, x0, x1, x6, x17 => if x17 = true then (some (x6, false)) else (cO.l0 k x0 x1 x6 0)
def cO.l0 : Nat → List (List ByteArray) → ByteArray → List ByteArray → Int → Option (List ByteArray × Bool)
 | 0, _, _, _, _ => none
 | k + 1, x0, x1, x6, x7 => if x7 < (x0.length : Int) then (if 2 + x1.size ≤ 9223372036854775807 then (if x6.length < 8796093022208 then (cO.l1 k x0 x1 (x6 ++ [(⟨#[45, 45]⟩ : ByteArray) ++ x1]) x7 0) else (none)) else (none)) else (if 2 + x1.size ≤ 9223372036854775807 then (if ((⟨#[45, 45]⟩ : ByteArray) ++ x1).size + 2 ≤ 9223372036854775807 then (if x6.length < 8796093022208 then (some ((x6 ++ [((⟨#[45, 45]⟩ : ByteArray) ++ x1) ++ (⟨#[45, 45]⟩ : ByteArray)]), true)) else (none)) else (none)) else (none))
def cO.l1 : Nat → List (List ByteArray) → ByteArray → List ByteArray → Int → Int → Option (List ByteArray × Bool)
 | 0, _, _, _, _, _ => none
 | k + 1, x0, x1, x6, x7, x8 => if 0 ≤ x7 then (if x7 < (x0.length : Int) then (if x8 < ((yt x0 x7).length : Int) then (if 0 ≤ x8 then ((nV.f (o9 ByteArray.empty (yt x0 x7) x8) x1).bind fun ara => (if ara = true then (some ((([] : List ByteArray)), false)) else (if x6.length < 8796093022208 then (cO.l1 k x0 x1 (x6 ++ [o9 ByteArray.empty (yt x0 x7) x8]) x7 (wrap64 (x8 + 1))) else (none)))) else (none)) else (cO.l0 k x0 x1 x6 (wrap64 (x7 + 1)))) else (none)) else (none)
end
def cO.f (k : Nat) (l0 : List (List ByteArray)) (a1 : ByteArray) : Option (List ByteArray × Bool) := (some (([] : List ByteArray) : List ByteArray)).bind fun ad1 => ((bZ.f k a1).bind fun arb => (if arb = true then (cO.j0 k l0 a1 ad1 ((l0.length : Int) == 0)) else (cO.j0 k l0 a1 ad1 true)))
theorem cO.calls {k c0 : Nat} {A0 : Option Addr} {l0 : List (List ByteArray)} {a1 : ByteArray} {r1 : List ByteArray} {r2 : Bool} {w : World} (hr0 : Kd.C (Kd.slice 9 Kd.string) w A0 l0.length l0) (hc0 : l0.length ≤ c0) (h : cO.f k l0 a1 = some (r1, r2)) :
  Calls Tryz.prog 109 #[.slice A0 l0.length c0, .string a1] w fun e w' => ∃ ql : Value, e = .returned (.tuple #[ql, .bool r2]) ∧ Kd.R Kd.string 9 w' w.heap.size (fun _ => True) ql r1 ∧ Below w.heap.size w w' := by
 have HR0 := ak hr0
 have yu := ak hc0
 clear hr0 hc0
 have HB := ak (Below.refl w.heap.size w)
 unfold cO.f at h; have H := h
 clear h
 replace H := ny H
 obtain ⟨ad1, ard, H⟩ := H
 have P9 := ak H
 clear H
 go_enter Tryz.func109, Tryz.ntmps109
 go_upto_region 2 with (refine gG 9 ?_; refine H7 9 Kd.string 9 ard ?_; intro ayI w4 ho5 hb; have ajW := ak (Kd.aC ho5 (aj (ul HB.out))); replace HB := bs HB hb; clear hb ho5)
 (try simp only [Act.put, qQ, qR, l_c])
 go_cut [17] (fun v17 wc => ∃ (kq : Nat) (P_ : Bool), v17 = .bool P_ ∧ ah (cO.j0 kq l0 a1 ad1 P_ = some (r1, r2)) ∧ ah (kq ≤ k) ∧ ah (Kd.R Kd.string 9 wc w.heap.size (fun _ => True) ayI ad1) ∧ ah (Below w.heap.size w wc))
 case first =>
  have H := P9.out
  clear P9
  replace H := bd H; obtain ⟨arb, A6, H⟩ := H; replace H := sb H
  rcases H with ⟨rfl, H⟩ | ⟨rfl, H⟩
  ·
   have H' := ak H; clear H
   go_wp2_with (refine gA Tryz.func157 (bZ.calls A6.out) ?_; intro nd)
   go_meet
   case rel => exact ⟨_, _, rs, H', ⟨Jq⟩, ⟨ur ajW.out⟩, ⟨ul HB.out⟩⟩
  ·
   have H' := ak H; clear H
   go_wp2_with (refine gA Tryz.func157 (bZ.calls A6.out) ?_; intro nd)
   go_meet
   case rel => exact ⟨_, _, rs, H', ⟨Jq⟩, ⟨ur ajW.out⟩, ⟨ul HB.out⟩⟩
 case rest =>
  clear P9
  obtain ⟨kq, P_, rfl, HA, HJ2, oI, HB⟩ := hcut
  cases kq with
  | zero => exact zz HA.out
  | succ ZQ =>
   obtain ⟨H⟩ := HA
   simp only [cO.j0] at H
   replace H := sb H
   rcases H with ⟨rfl, H⟩ | ⟨rfl, H⟩
   ·
    obtain ⟨rfl, rfl⟩ := s2 H
    go_wp2
    go_ret2
    exact ⟨_, er, ur oI.out, ul HB.out⟩
   ·
    have H' := ak H; clear H
    go_wp2
    go_loopg [6, 7] ZQ (fun kq v6 v7 w' => ∃ (qL : List ByteArray) (zf : Int), v7 = .int .i64 zf ∧ ah (cO.l0 kq l0 a1 qL zf = some (r1, r2)) ∧ ah (kq ≤ ZQ) ∧ ah (Kd.R Kd.string 9 w' w.heap.size (fun _ => True) v6 qL) ∧ ah (Below w.heap.size w w'))
    case atStart => exact ⟨_, _, rs, H', ⟨Nat.le_refl _⟩, ⟨ur oI.out⟩, ⟨ul HB.out⟩⟩
    case round =>
     clear H'
     obtain ⟨qL, zf, rfl, HA, Zw, oI, HB⟩ := hrel
     cases gk with
     | zero => exact zz HA.out
     | succ k2 =>
      obtain ⟨H⟩ := HA
      simp only [cO.l0] at H
      replace H := sd H
      rcases H with ⟨yh, H⟩ | ⟨yh, H⟩
      ·
       replace H := nn H; obtain ⟨c10, H⟩ := H
       have oC := eq_true c10
       have sS := decide_eq_true c10
       try have ZB : (9223372036854775807 < 2 + a1.size) = False := eq_false (Nat.not_lt.2 c10)
       replace H := nl H; obtain ⟨Qa, H⟩ := H
       obtain ⟨aFF, ajX⟩ := nm (qL ++ [(⟨#[45, 45]⟩ : ByteArray) ++ a1])
       rw [← ajX.out] at H
       have H' := ak H; clear H
       go_wp2_with ((with_reducible refine eu (b := .append) (xs := #[.tmp 25, .tmp 28]) rfl ?_); (try (refine lD (by rfl) ?_; dsimp only)); at_builtin; refine aP 25 28 Kd.string 23 9 (.string ⟨#[]⟩) 16 Tryz.underlying23 info9 HB (ur oI.out) ajX (by have := Qa.out; omega) ?_; intro aFG w12 ho hb hg hat; have arf := ak (ho); replace HB := ak (hb); clear ho hb hg hat oI)
       go_loopg [6, 8] k2 (fun kq v6 v8 w' => ∃ (Dt : List ByteArray) (MB : Int), v8 = .int .i64 MB ∧ ah (cO.l1 kq l0 a1 Dt zf MB = some (r1, r2)) ∧ ah (kq ≤ k2) ∧ ah (Kd.R Kd.string 9 w' w.heap.size (fun _ => True) v6 Dt) ∧ ah (Below w.heap.size w w'))
       case atStart => exact ⟨_, _, rs, H', ⟨Nat.le_refl _⟩, ⟨ur arf.out⟩, ⟨ul HB.out⟩⟩
       case round =>
        clear H'
        try clear yh
        try clear c10
        try clear oC
        try clear sS
        try clear ZB
        obtain ⟨Dt, MB, rfl, HA, Zp, oI, HB⟩ := hrel
        cases gk with
        | zero => exact zz HA.out
        | succ k3 =>
         obtain ⟨H⟩ := HA
         simp only [cO.l1] at H
         replace H := oL H; obtain ⟨wo, H⟩ := H; replace H := oL H; obtain ⟨qC, H⟩ := H; replace H := sd H
         rcases H with ⟨wu, H⟩ | ⟨wu, H⟩
         ·
          replace H := oL H; obtain ⟨zW, H⟩ := H; replace H := bd H; obtain ⟨ara, A17, H⟩ := H; replace H := sb H
          rcases H with ⟨rfl, H⟩ | ⟨rfl, H⟩
          ·
           obtain ⟨aFH, ajY⟩ := nm ([] : List ByteArray)
           rw [← ajY.out] at H
           obtain ⟨rfl, rfl⟩ := s2 H
           have Qb := zi zf
           have Qc := zj zf l0.length
           obtain ⟨Wu, ad2, ad3, ad4, xO, B_, Cb⟩ := Jj HR0.out zf Qb Qc
           cases ad4
           replace xO := cl HB.out xO
           have ZR := ak Cb
           have ZT := ak B_
           clear Cb B_
           replace Qb := eq_true Qb
           replace Qc := eq_true Qc
           have Ye := zi zf
           have Yf := zj zf l0.length
           obtain ⟨ad5, am3, am4, am5, D5, JU, JV⟩ := Jj HR0.out zf Ye Yf
           obtain rfl : Wu = ad5 := (by injection am5)
           replace D5 := cl HB.out D5
           have UE := ak JV
           have ahg := ak JU
           clear JV JU
           replace Ye := eq_true Ye
           replace Yf := eq_true Yf
           have ea_ := Option.some.inj (xO.symm.trans D5)
           injection ea_ with ea_ en_ ec_
           subst ea_
           subst ec_
           clear en_
           have Yg := zi MB
           have Yh := zj MB ((yt l0 zf).length)
           obtain ⟨arh, am6, JW⟩ := Kd.jZ UE.out MB Yg Yh
           cases am6
           replace JW := cl HB.out JW
           replace Yg := eq_true Yg
           replace Yh := eq_true Yh
           go_wp2_with (first | (refine gA Tryz.func115 (nV.calls A17.out) ?_; intro nd) | (refine gG 48 ?_; refine H7 48 Kd.string 9 ajY ?_; intro aFI ZN acu hb; have ari := ak (Kd.aC (Kd.gK acu (Kd.kU (ur oI.out))) (aj (ul HB.out))); replace oI := ak (Kd.fP (ur oI.out) (Kd.fO acu) hb); replace HB := bs HB hb; clear hb acu))
           go_ret2
           exact ⟨_, er, ur (Kd.bn ari.out (fun _ hk => trivial)), ul HB.out⟩
          ·
           replace H := nl H; obtain ⟨V8, H⟩ := H
           obtain ⟨aFJ, ajZ⟩ := nm (Dt ++ [o9 ByteArray.empty (yt l0 zf) MB])
           rw [← ajZ.out] at H
           have H' := ak H; clear H
           have Qb := zi zf
           have Qc := zj zf l0.length
           obtain ⟨Wu, ad2, ad3, ad4, xO, B_, Cb⟩ := Jj HR0.out zf Qb Qc
           cases ad4
           replace xO := cl HB.out xO
           have ZR := ak Cb
           have ZT := ak B_
           clear Cb B_
           replace Qb := eq_true Qb
           replace Qc := eq_true Qc
           have Ye := zi zf
           have Yf := zj zf l0.length
           obtain ⟨ad5, am3, am4, am5, D5, JU, JV⟩ := Jj HR0.out zf Ye Yf
           obtain rfl : Wu = ad5 := (by injection am5)
           replace D5 := cl HB.out D5
           have UE := ak JV
           have ahg := ak JU
           clear JV JU
           replace Ye := eq_true Ye
           replace Yf := eq_true Yf
           have ea_ := Option.some.inj (xO.symm.trans D5)
           injection ea_ with ea_ en_ ec_
           subst ea_
           subst ec_
           clear en_
           have Yg := zi MB
           have Yh := zj MB ((yt l0 zf).length)
           obtain ⟨arh, am6, JW⟩ := Kd.jZ UE.out MB Yg Yh
           cases am6
           replace JW := cl HB.out JW
           replace Yg := eq_true Yg
           replace Yh := eq_true Yh
           go_wp2_with (first | (refine gA Tryz.func115 (nV.calls A17.out) ?_; intro nd; have am7 : 0 ≤ (zf : Int) := of_decide_eq_true (by assumption); have am8 : zf < (l0.length : Int) := of_decide_eq_true (by assumption); obtain ⟨arj, ayJ, ayK, ayL, O5, ZU, ZV⟩ := Jj HR0.out zf am7 am8; obtain rfl : Wu = arj := (by injection ayL); replace O5 := (HB.out.cell (World.block_lt_of_cell? w _ O5)).trans O5; have ahh := ak ZV; have axb := ak ZU; clear ZV ZU; replace am7 := eq_true am7; replace am8 := eq_true am8; have ea_ := Option.some.inj (xO.symm.trans O5); injection ea_ with ea_ en_ ec_; subst ea_; subst ec_; clear en_; have am9 : 0 ≤ (MB : Int) := of_decide_eq_true (by assumption); have am_ : MB < ((yt l0 zf).length : Int) := of_decide_eq_true (by assumption); obtain ⟨aCk, ayM, UF⟩ := Kd.jZ ahh.out MB am9 am_; cases ayM; replace UF := (HB.out.cell (World.block_lt_of_cell? w _ UF)).trans UF; replace am9 := eq_true am9; replace am_ := eq_true am_) | ((with_reducible refine eu (b := .append) (xs := #[.tmp 49, .tmp 57]) rfl ?_); (try (refine lD (by rfl) ?_; dsimp only)); at_builtin; refine aP 49 57 Kd.string 23 9 (.string ⟨#[]⟩) 16 Tryz.underlying23 info9 HB (ur oI.out) ajZ (by have := V8.out; omega) ?_; intro aFK X_ ho hb hg hat; have ark := ak (ho); replace HB := ak (hb); clear ho hb hg hat oI))
           go_roundg k3
           case measure => exact kl
           case rel => exact ⟨_, _, rs, H', ⟨kl⟩, ⟨ur ark.out⟩, ⟨ul HB.out⟩⟩
         ·
          have H' := ak H; clear H
          have Qb := zi zf
          have Qc := zj zf l0.length
          obtain ⟨Wu, ad2, ad3, ad4, xO, B_, Cb⟩ := Jj HR0.out zf Qb Qc
          cases ad4
          replace xO := cl HB.out xO
          have ZR := ak Cb
          have ZT := ak B_
          clear Cb B_
          replace Qb := eq_true Qb
          replace Qc := eq_true Qc
          go_wp2
          go_roundg k3
          case measure => exact kl
          case rel => exact ⟨_, _, rs, H', ⟨kl⟩, ⟨ur oI.out⟩, ⟨ul HB.out⟩⟩
      ·
       replace H := nn H; obtain ⟨c23, H⟩ := H
       have zh := eq_true c23
       have NV := decide_eq_true c23
       try have arl : (9223372036854775807 < 2 + a1.size) = False := eq_false (Nat.not_lt.2 c23)
       replace H := nn H; obtain ⟨c24, H⟩ := H
       have NS := eq_true c24
       have ad6 := decide_eq_true c24
       try have aCl : (9223372036854775807 < 2 + a1.size + 2) = False := by have h_ := (eq_false (Nat.not_lt.2 c24) : (9223372036854775807 < ((⟨#[45, 45]⟩ : ByteArray) ++ a1).size + 2) = False); simp only [ByteArray.size_append] at h_; exact h_
       try have aCm : (9223372036854775807 < ((⟨#[45, 45]⟩ : ByteArray) ++ a1).size + 2) = False := eq_false (Nat.not_lt.2 c24)
       replace H := nl H; obtain ⟨V9, H⟩ := H
       obtain ⟨aFL, aj0⟩ := nm (qL ++ [((⟨#[45, 45]⟩ : ByteArray) ++ a1) ++ (⟨#[45, 45]⟩ : ByteArray)])
       rw [← aj0.out] at H
       obtain ⟨rfl, rfl⟩ := s2 H
       go_wp2_with ((with_reducible refine eu (b := .append) (xs := #[.tmp 59, .tmp 63]) rfl ?_); (try (refine lD (by rfl) ?_; dsimp only)); at_builtin; refine aP 59 63 Kd.string 23 9 (.string ⟨#[]⟩) 16 Tryz.underlying23 info9 HB (ur oI.out) aj0 (by have := V9.out; omega) ?_; intro aFM w26 ho hb hg hat; have arn := ak (ho); replace HB := ak (hb); clear ho hb hg hat oI)
       go_ret2
       exact ⟨_, er, ur arn.out, ul HB.out⟩
mutual
def jm.l0 : Nat → List ByteArray → ByteArray → List (List ByteArray) → Int → List (gU) → List ByteArray → List (mY) → Option (List ByteArray)
 | 0, _, _, _, _, _, _, _ => none
 | k + 1, x3, x5, x7, x8, ahi, ahj, JX => if x8 < (JX.length : Int) then (if 0 ≤ x8 then ((jm.f k ((bg JX x8).f0) ((bg JX x8).f1) ((bg JX x8).f2)).bind fun Yi => (if x7.length < 5864062014805 then (jm.l0 k x3 x5 (x7 ++ [Yi]) (wrap64 (x8 + 1)) ahi ahj JX) else (none))) else (none)) else ((cO.f k x7 x5).bind fun aj1 => (if x3.length + aj1.1.length < 8796093022208 then (some (x3 ++ aj1.1)) else (none)))
def jm.f : Nat → List (gU) → List ByteArray → List (mY) → Option (List ByteArray)
 | 0, _, _, _ => none
 | k + 1, dh, bU, ay => (iP.f k dh).bind fun aj2 => (if aj2.1.length < 8796093022208 then ((some (aj2.1 ++ [(⟨#[]⟩ : ByteArray)] : List ByteArray)).bind fun RQ => ((jX.f k dh).bind fun aj3 => (if aj3.2 = true then (jm.l0 k RQ aj3.1 (([] : List (List ByteArray))) 0 dh bU ay) else (if RQ.length + bU.length < 8796093022208 then (some (RQ ++ bU)) else (none))))) else (none))
end
theorem jm.calls (k : Nat) : ∀ (iY : Option Addr) (iZ : Nat) (dh : List (gU)) (iU : Option Addr) (iV : Nat) (bU : List ByteArray) (gW : Option Addr) (fA : Nat) (ay : List (mY)) (r : List ByteArray) (w : World) (lW : Kd.C qj w iY dh.length dh) (lX : dh.length ≤ iZ) (lY : Kd.C Kd.string w iU bU.length bU) (lZ : bU.length ≤ iV) (jG : Kd.C k28 w gW ay.length ay) (jH : ay.length ≤ fA) (h : jm.f k dh bU ay = some r),
  Calls Tryz.prog 67 #[.agg #[.slice iY dh.length iZ, .slice iU bU.length iV, .slice gW ay.length fA]] w fun e w' => ∃ ql : Value, e = .returned (ql) ∧ Kd.R Kd.string 9 w' w.heap.size (fun _ => True) ql r ∧ Below w.heap.size w w' := by
 induction k using Nat.strongRecOn with
 | _ k ih =>
 intro iY iZ dh iU iV bU gW fA ay r w lW lX lY lZ jG jH h
 cases k with
 | zero => exact absurd h (by simp [jm.f])
 | succ k =>
 simp only [jm.f] at h
 have Dj := Tryz.underlying28
 have oP := ak lW
 have pI := ak lX
 clear lW lX
 have rE := ak lY
 have uG := ak lZ
 clear lY lZ
 have jh := ak jG
 have lC := ak jH
 clear jG jH
 have HB := ak (Below.refl w.heap.size w)
 have H := h
 clear h
 replace H := bd H
 obtain ⟨⟨aro, aFN⟩, A2, H⟩ := H
 (try dsimp only at H)
 replace H := nl H; obtain ⟨ab8, H⟩ := H
 replace H := ny H
 obtain ⟨RQ, aj6, H⟩ := H
 replace H := bd H
 obtain ⟨⟨ayN, aFO⟩, A4, H⟩ := H
 (try dsimp only at H)
 replace H := sb H
 rcases H with ⟨rfl, H⟩ | ⟨rfl, H⟩
 ·
  obtain ⟨aFP, ad7⟩ := nm ([] : List (List ByteArray))
  rw [← ad7.out] at H
  have H' := ak H; clear H
  go_enter Tryz.func67, Tryz.ntmps67
  go_wp2_with (first | (refine bX HB 1 #[.slice iY dh.length iZ, .slice iU bU.length iV, .slice gW ay.length fA] 28 ?_; intro Qd w6 nR arp hb; replace HB := bs HB hb; clear hb; have z7 := jW nR.out) | (refine gV Tryz.func107 (iP.calls (cu (Kd.aN oP.out HB.out)) pI.out A2.out) ?_; rintro ana w8 ⟨ho0, hb⟩; have Qe := ak (Kd.aC ho0 (aj bb)); replace nR := kb nR hb; replace HB := bz HB hb; clear hb; (try clear ho0)) | ((with_reducible refine eu (b := .append) (xs := #[.tmp 17, .tmp 18]) rfl ?_); at_builtin; refine Kd.qc Kd.string (w0 := w) w.heap.size rfl (.tmp 17) (.tmp 18) 23 9 (.string ⟨#[]⟩) 16 rfl Tryz.underlying23 info9 rfl (by decide) (by omega) ana aro (⟨#[]⟩ : ByteArray) [.string (⟨#[]⟩ : ByteArray)] (fun _ => True) (fun _ => False) rfl rfl ?aP (fun _ hk => hk.elim) ?aF ?aO ?aB ?aS ?aL ?_; (case aP => exact rfl); (case aB => exact bb); (case aF => exact (fun _ _ => trivial)); (case aO => exact (ur Qe.out)); (case aS => exact (aj bb)); (case aL => have := ab8.out; omega); intro Wv w9 ho hb hg hat; rw [← aj6.out] at ho; have ED := ak (ho); replace nR := ak (dw (g := Qd) (o := .cells #[.slice iY dh.length iZ, .slice iU bU.length iV, .slice gW ay.length fA] 28 (0, 0)) (ub nR.out) hg (Kd.oU Qe.out nR.out (by decide))); replace HB := ak (hb); clear ho hb hg hat Qe; have z10 := jW nR.out) | (refine gB Tryz.func108 (jX.calls (cu (Kd.aN oP.out HB.out)) pI.out A4.out) ?_; intro Ub hb; replace ED := rb ED hb; replace nR := kb nR hb; replace HB := bz HB hb; clear hb) | ((with_reducible refine VT (N := 32) rfl ?_); refine Kd.ajh (Kd.slice 9 Kd.string) _ 23 ?hg (N := 32) ?hd (xs := ([] : List (List ByteArray))) (inner := []) (ok := fun _ => True) (wE := fun _ => True) ?hr ?hp (fun _ hk => hk) trivial (Below.refl _ _) (Nat.le_refl _) (by simp) ?_; (case hd => rfl); (case hg => rfl); (case hr => first | (go_simp; done) | (go_simp; rfl)); (case hp => exact (dD.none _ _)); intro aFQ w12 Uu hb BX wH; clear BX wH; (first | rw [← ad7.out] at Uu | (simp only [Int.reduceToNat] at Uu; rw [← ad7.out] at Uu)); have arq := ak (Kd.Zo (Kd.adD Uu (Kd.kU (ur ED.out))) (aj bb)); replace ED := rb ED hb; replace nR := kb nR hb; replace HB := bz HB hb; clear hb Uu))
  go_loopg [7, 8] k (fun kq v7 v8 w' => ∃ (rJ : List (List ByteArray)) (kV : Int), v8 = .int .i64 kV ∧ ah (jm.l0 kq RQ ayN rJ kV dh bU ay = some r) ∧ ah (kq ≤ k) ∧ ah (Kd.R Kd.string 9 w' w.heap.size (fun _ => True) Wv RQ) ∧ ah (Kd.S (Kd.slice 9 Kd.string) 23 w' w.heap.size (fun k_ => some k_ ≠ (Wv : Value).ownBlock) v7 rJ) ∧ ah (w'.heap[Qd]? = some (.cells #[(.slice iY dh.length iZ), (.slice iU bU.length iV), (.slice gW ay.length fA)] 28 (0, 0))) ∧ ah (Below w.heap.size w w'))
  case atStart => exact ⟨_, _, rs, H', ⟨Nat.le_refl _⟩, ⟨ur ED.out⟩, ⟨by (with_reducible repeat (first | apply Kd.rF | apply Kd.rG | apply Kd.uT)); exact Kd.DV arq.out (fun _ hk => hk.2)⟩, ⟨ub nR.out⟩, ⟨bb⟩⟩
  case round =>
   clear H'
   obtain ⟨rJ, kV, rfl, HA, xG, oV, IK, nR, HB⟩ := hrel
   cases gk with
   | zero => exact zz HA.out
   | succ k1 =>
    obtain ⟨H⟩ := HA
    simp only [jm.l0] at H
    replace H := sd H
    rcases H with ⟨qC, H⟩ | ⟨qC, H⟩
    ·
     replace H := oL H; obtain ⟨wu, H⟩ := H; replace H := bd H; obtain ⟨Yi, A16, H⟩ := H; replace H := nl H; obtain ⟨ad8, H⟩ := H
     obtain ⟨aFR, aj7⟩ := nm (rJ ++ [Yi])
     rw [← aj7.out] at H
     have H' := ak H; clear H
     have z18 := jW nR.out
     have anb := zi kV
     have anc := zj kV ay.length
     obtain ⟨ars, ayO, ayP, ayQ, ayR, ayS, ayT, ayU, ZW, ZX, ZY, Z4, Z5, Z7, Z8, Z9, Z_⟩ := yB jh.out kV anb anc
     cases ayU
     replace ZW := cl HB.out ZW
     replace ZX := cl HB.out ZX
     replace ZY := cl HB.out ZY
     have ahk := ak Z5
     have ahl := ak Z4
     clear Z5 Z4
     have ahm := ak Z8
     have ahn := ak Z7
     clear Z8 Z7
     have aho := ak Z_
     have ahp := ak Z9
     clear Z_ Z9
     replace anb := eq_true anb
     replace anc := eq_true anc
     go_wp2_with (first | (refine gV Tryz.func67 (ih k1 (by have := xG.out; omega) _ _ ((bg ay kV).f0) _ _ ((bg ay kV).f1) _ _ ((bg ay kV).f2) Yi _ (cu (Kd.aN ahk.out HB.out)) ahl.out (cu (Kd.aN ahm.out HB.out)) ahn.out (cu (Kd.aN aho.out HB.out)) ahp.out A16.out) ?_; rintro aFS ZN ⟨ho0, hb⟩; have aac := ak (Kd.aC (Kd.gK ho0 (Kd.kU (ur oV.out))) (aj bb)); replace oV := ak (Kd.fP (ur oV.out) (Kd.fO ho0) hb); replace IK := ak (Kd.Fh (by (with_reducible repeat (first | apply Kd.rF | apply Kd.rG | apply Kd.uT)); exact IK.out) (Kd.fO ho0) hb); replace nR := kb nR hb; replace HB := bz HB hb; clear hb; (try clear ho0); obtain ⟨Ou, Ov, XT⟩ := Kd.aV aac.out; subst XT) | ((with_reducible refine eu (b := .append) (xs := #[.tmp 40, .tmp 47]) rfl ?_); at_builtin; refine Kd.VX (Kd.slice 9 Kd.string) (w0 := w) w.heap.size rfl (.tmp 40) (.tmp 47) 65 23 (.slice none 0 0) 24 rfl Tryz.underlying65 info23 rfl (by decide) (by omega) u7 rJ Yi [.slice Ou Yi.length Ov] (fun k_ => some k_ ≠ (Wv : Value).ownBlock) (fun k_ => some k_ = (.slice Ou Yi.length Ov : Value).ownBlock) rfl rfl ?aP (fun k_ hk_ => ((Kd.bn (ok' := fun k_ => ((fun k_ => some k_ ≠ (Wv : Value).ownBlock)) k_ ∧ some k_ ≠ (u7 : Value).ownBlock) (Kd.o8 (aac.out) (Kd.GH IK.out) (by decide)) (fun k_ hk => ⟨hk.1.2, hk.2⟩))).1 k_ hk_.symm) ?aF ?aO ?aB ?aS ?aL ?_; (case aP => exact Kd.ajj (Kd.bn (Kd.Zr rfl (Kd.bn (ok' := fun k_ => ((fun k_ => some k_ ≠ (Wv : Value).ownBlock)) k_ ∧ some k_ ≠ (u7 : Value).ownBlock) (Kd.o8 (aac.out) (Kd.GH IK.out) (by decide)) (fun k_ hk => ⟨hk.1.2, hk.2⟩))) (fun _ h_ => h_))); (case aB => exact bb); (case aF => exact (fun k_ hk => Kd.fresh' (Kd.kU (ur oV.out)) k_ hk)); (case aO => exact (by (with_reducible repeat (first | apply Kd.rF | apply Kd.rG | apply Kd.uT)); exact Kd.DV IK.out (fun k_ hk => ⟨hk.1, fun e_ => hk.2 e_⟩))); (case aS => exact (aj bb)); (case aL => have := ad8.out; omega); intro aFT w20 ho hb hg hat; rw [← aj7.out] at ho; have aru := ak (ho); replace oV := ak (Kd.qm (ur oV.out) (Kd.GH (by (with_reducible repeat (first | apply Kd.rF | apply Kd.rG | apply Kd.uT)); exact IK.out)) (by decide) hg); replace nR := ak (dw (g := Qd) (o := .cells #[.slice iY dh.length iZ, .slice iU bU.length iV, .slice (some ars) ay.length fA] 28 (0, 0)) (ub nR.out) hg (Kd.aha IK.out nR.out (by decide))); replace HB := ak (hb); clear ho hb hg hat IK aac))
     go_roundg k1
     case measure => exact kl
     case rel => exact ⟨_, _, rs, H', ⟨kl⟩, ⟨ur (Kd.bn oV.out (fun _ hk => trivial))⟩, ⟨by (with_reducible repeat (first | apply Kd.rF | apply Kd.rG | apply Kd.uT)); exact aru.out⟩, ⟨ub nR.out⟩, ⟨bb⟩⟩
    ·
     replace H := bd H
     obtain ⟨⟨ahq, aFU⟩, A22, H⟩ := H
     (try dsimp only at H)
     replace H := nl H; obtain ⟨adL, H⟩ := H
     obtain ⟨aFV, aj8⟩ := nm (RQ ++ ahq)
     rw [← aj8.out] at H
     obtain rfl := s1 H
     have z24 := jW nR.out
     obtain ⟨ayE, ayF, amU⟩ := Kd.Zt IK.out
     subst amU
     go_wp2_with (first | (refine gV Tryz.func109 (cO.calls (cu ((Kd.JC IK.out).2.2)) ((Kd.JC IK.out).2.1) A22.out) ?_; rintro aFW w26 ⟨ho0, hb⟩; have Wx := ak (Kd.aC (Kd.gK ho0 (Kd.kU (ur oV.out))) (aj bb)); replace oV := ak (Kd.fP (ur oV.out) (Kd.fO ho0) hb); replace IK := ak (Kd.Fh (by (with_reducible repeat (first | apply Kd.rF | apply Kd.rG | apply Kd.uT)); exact IK.out) (Kd.fO ho0) hb); replace nR := kb nR hb; replace HB := bz HB hb; clear hb; (try clear ho0); obtain ⟨arv, arw, ayV⟩ := Kd.aV Wx.out; subst ayV) | ((with_reducible refine eu (b := .append) (xs := #[.tmp 55, .tmp 56]) rfl ?_); at_builtin; refine Kd.qy Kd.string (w0 := w) w.heap.size rfl (.tmp 55) (.tmp 56) 23 9 (.string ⟨#[]⟩) 16 rfl Tryz.underlying23 info9 rfl (by decide) (by omega) Wv RQ ahq _ _ _ (fun k_ => some k_ ≠ (.slice arv ahq.length arw : Value).ownBlock) (fun _ => False) rfl rfl ?aO ?aR (fun _ _ h => h) (fun _ h => h.elim) ?aF ?aB ?aS ?aL ?_; (case aR => repeat (first | exact (Kd.aH Wx.out).2.2 | (with_reducible refine Kd.jf ?_ _) | (with_reducible refine Kd.jg ?_ _) | (with_reducible refine Kd.kH ?_))); (case aB => exact bb); (case aF => exact (fun k_ hk => Kd.fresh' (Kd.kU (ur Wx.out)) k_ hk)); (case aO => exact (ur (Kd.bn oV.out (fun _ hk => hk.2)))); (case aS => exact (aj bb)); (case aL => have := adL.out; omega); intro aFX w27 ho hb hg hat; rw [← aj8.out] at ho; have arx := ak (ho); replace IK := ak (Kd.Zu (ok := (fun k_ => some k_ ≠ (.slice arv ahq.length arw : Value).ownBlock)) (by (with_reducible repeat (first | apply Kd.rF | apply Kd.rG | apply Kd.uT)); exact Kd.DV IK.out (fun _ hk => ⟨hk.2, hk.1⟩)) hg hat); replace nR := ak (dw (g := Qd) (o := .cells #[.slice iY dh.length iZ, .slice iU bU.length iV, .slice gW ay.length fA] 28 (0, 0)) (ub nR.out) hg (Kd.oU oV.out nR.out (by decide))); replace Wx := ak (Kd.Aa (ok := (fun _ => True)) (ur Wx.out) hg hat); replace HB := ak (hb); clear ho hb hg hat oV))
     go_ret
     exact ⟨_, er, ur (Kd.bn arx.out (fun _ hk => trivial)), bb⟩
 ·
  replace H := nl H; obtain ⟨arz, H⟩ := H
  obtain ⟨aFY, aj9⟩ := nm (RQ ++ bU)
  rw [← aj9.out] at H
  obtain rfl := s1 H
  go_enter Tryz.func67, Tryz.ntmps67
  go_wp2_with (first | (refine bX HB 1 #[.slice iY dh.length iZ, .slice iU bU.length iV, .slice gW ay.length fA] 28 ?_; intro Qd w30 nR arp hb; replace HB := bs HB hb; clear hb; have z31 := jW nR.out) | (refine gV Tryz.func107 (iP.calls (cu (Kd.aN oP.out HB.out)) pI.out A2.out) ?_; rintro ana w32 ⟨ho0, hb⟩; have Qe := ak (Kd.aC ho0 (aj bb)); replace nR := kb nR hb; replace HB := bz HB hb; clear hb; (try clear ho0)) | ((with_reducible refine eu (b := .append) (xs := #[.tmp 17, .tmp 18]) rfl ?_); at_builtin; refine Kd.qc Kd.string (w0 := w) w.heap.size rfl (.tmp 17) (.tmp 18) 23 9 (.string ⟨#[]⟩) 16 rfl Tryz.underlying23 info9 rfl (by decide) (by omega) ana aro (⟨#[]⟩ : ByteArray) [.string (⟨#[]⟩ : ByteArray)] (fun _ => True) (fun _ => False) rfl rfl ?aP (fun _ hk => hk.elim) ?aF ?aO ?aB ?aS ?aL ?_; (case aP => exact rfl); (case aB => exact bb); (case aF => exact (fun _ _ => trivial)); (case aO => exact (ur Qe.out)); (case aS => exact (aj bb)); (case aL => have := ab8.out; omega); intro Wv w33 ho hb hg hat; rw [← aj6.out] at ho; have ED := ak (ho); replace nR := ak (dw (g := Qd) (o := .cells #[.slice iY dh.length iZ, .slice iU bU.length iV, .slice gW ay.length fA] 28 (0, 0)) (ub nR.out) hg (Kd.oU Qe.out nR.out (by decide))); replace HB := ak (hb); clear ho hb hg hat Qe; have z34 := jW nR.out) | (refine gB Tryz.func108 (jX.calls (cu (Kd.aN oP.out HB.out)) pI.out A4.out) ?_; intro w35 hb; replace ED := rb ED hb; replace nR := kb nR hb; replace HB := bz HB hb; clear hb; have z36 := jW nR.out) | ((with_reducible refine eu (b := .append) (xs := #[.tmp 28, .tmp 30]) rfl ?_); at_builtin; refine Kd.qy Kd.string (w0 := w) w.heap.size rfl (.tmp 28) (.tmp 30) 23 9 (.string ⟨#[]⟩) 16 rfl Tryz.underlying23 info9 rfl (by decide) (by omega) Wv RQ bU _ _ _ (fun _ => True) (fun _ => False) rfl rfl ?aO ?aR (fun _ _ h => h) (fun _ h => h.elim) ?aF ?aB ?aS ?aL ?_; (case aR => repeat (first | exact (Kd.aN rE.out HB.out) | (with_reducible refine Kd.jf ?_ _) | (with_reducible refine Kd.jg ?_ _) | (with_reducible refine Kd.kH ?_))); (case aB => exact bb); (case aF => exact (fun _ _ => trivial)); (case aO => exact (ur ED.out)); (case aS => exact (aj bb)); (case aL => have := arz.out; omega); intro aFZ w37 ho hb hg hat; rw [← aj9.out] at ho; have arA := ak (ho); replace nR := ak (dw (g := Qd) (o := .cells #[.slice iY dh.length iZ, .slice iU bU.length iV, .slice gW ay.length fA] 28 (0, 0)) (ub nR.out) hg (Kd.oU ED.out nR.out (by decide))); replace HB := ak (hb); clear ho hb hg hat ED))
  go_ret
  exact ⟨_, er, ur arA.out, bb⟩
mutual
def iH.l0 : Nat → List ByteArray → Int → Option (Bool)
 | 0, _, _ => none
 | k + 1, x0, x3 => if x3 < (x0.length : Int) then (iH.j1 k x0 x3 (decide (x3 ≤ 30))) else (iH.j1 k x0 x3 false)
def iH.j1 : Nat → List ByteArray → Int → Bool → Option (Bool)
 | 0, _, _, _ => none
 | k + 1, x0, x3, x11 => if x11 = true then (if 0 ≤ x3 then (if x3 < (x0.length : Int) then ((aQ.f k (o9 ByteArray.empty x0 x3)).bind fun arB => (if arB = true then (iH.l0 k x0 (wrap64 (x3 + 1))) else (some false))) else (none)) else (none)) else (some (decide ((x0.length : Int) ≤ 30)))
end
def iH.f (k : Nat) (l0 : List ByteArray) : Option (Bool) := iH.l0 k l0 0
theorem iH.calls {k c0 : Nat} {A0 : Option Addr} {l0 : List ByteArray} {r : Bool} {w : World} (hr0 : Kd.C Kd.string w A0 l0.length l0) (hc0 : l0.length ≤ c0) (h : iH.f k l0 = some r) :
  Calls Tryz.prog 114 #[.slice A0 l0.length c0] w fun e w' => e = .returned (.bool r) ∧ dS w w' := by
 have HR0 := ak hr0
 have yu := ak hc0
 clear hr0 hc0
 unfold iH.f at h; have H := h
 clear h
 have H' := ak H; clear H
 go_enter Tryz.func114, Tryz.ntmps114
 go_wp2
 go_loopg [3] k (fun kq v3 w' => ∃ (dM : Int), v3 = .int .i64 dM ∧ ah (iH.l0 kq l0 dM = some r) ∧ ah (kq ≤ k) ∧ dS w w')
 case atStart => exact ⟨_, rs, H', ⟨Nat.le_refl _⟩, dn⟩
 case round =>
  clear H'
  obtain ⟨dM, rfl, HA, xG, ⟨m1, rfl⟩⟩ := hrel
  cases gk with
  | zero => exact zz HA.out
  | succ k1 =>
   obtain ⟨H⟩ := HA
   simp only [iH.l0] at H
   have HC2 := ak H
   clear H
   go_upto_region 2 with (fail)
   go_cut [11] (fun v11 wc => ∃ (kq : Nat) (uU : Bool), v11 = .bool uU ∧ ah (iH.j1 kq l0 dM uU = some r) ∧ ah (kq ≤ k1) ∧ dS w wc)
   case first =>
    have H := HC2.out
    clear HC2
    replace H := sd H
    rcases H with ⟨iO, H⟩ | ⟨iO, H⟩
    ·
     (first | rw [iO] | (simp only [dP, fG]; rw [iO]) | skip)
     have H' := ak H; clear H
     go_wp2
     go_meet
     case rel => exact ⟨_, _, rs, H', ⟨kl⟩, dn⟩
    ·
     (first | rw [iO] | (simp only [dP, fG]; rw [iO]) | skip)
     have H' := ak H; clear H
     go_wp2
     go_meet
     case rel => exact ⟨_, _, rs, H', ⟨kl⟩, dn⟩
   case rest =>
    clear HC2
    obtain ⟨kq, uU, rfl, HA, HJ1, ⟨mc1, rfl⟩⟩ := hcut
    cases kq with
    | zero => exact zz HA.out
    | succ Ox =>
     obtain ⟨H⟩ := HA
     simp only [iH.j1] at H
     replace H := sb H
     rcases H with ⟨rfl, H⟩ | ⟨rfl, H⟩
     ·
      replace H := oL H; obtain ⟨nO, H⟩ := H; replace H := oL H; obtain ⟨oz, H⟩ := H; replace H := bd H; obtain ⟨arB, A7, H⟩ := H; replace H := sb H
      rcases H with ⟨rfl, H⟩ | ⟨rfl, H⟩
      ·
       have H' := ak H; clear H
       have Yj := zi dM
       have Yk := zj dM l0.length
       obtain ⟨arC, ane, ahr⟩ := Kd.jZ HR0.out dM Yj Yk
       cases ane
       replace Yj := eq_true Yj
       replace Yk := eq_true Yk
       go_wp2_with (refine gA Tryz.func159 (aQ.calls A7.out) ?_; intro nd)
       go_roundg Ox
       case measure => exact kl
       case rel => exact ⟨_, rs, H', ⟨kl⟩, dn⟩
      ·
       obtain rfl := s1 H
       have Yj := zi dM
       have Yk := zj dM l0.length
       obtain ⟨arC, ane, ahr⟩ := Kd.jZ HR0.out dM Yj Yk
       cases ane
       replace Yj := eq_true Yj
       replace Yk := eq_true Yk
       go_wp2_with (refine gA Tryz.func159 (aQ.calls A7.out) ?_; intro nd)
       go_ret
       exact ⟨rs, dn⟩
     ·
      obtain rfl := s1 H
      go_wp2
      go_ret
      exact ⟨rs, dn⟩
end Go.Proofs.YtncdadcmghglkaaGreatDoor.PFnKidValid
