/- Printed walks; conditions: those in each statement. -/
import Derived.Test.YtncdadcmghglkaaGreatDoorVFnPartLinesQt
import Derived.Test.YtncdadcmghglkaaGreatDoorVFnPartLinesYt
import Derived.Test.YtncdadcmghglkaaGreatDoorPFnPartLinesx0
import Derived.Test.YtncdadcmghglkaaGreatDoorPFnPartLinesx21
import Derived.Test.YtncdadcmghglkaaGreatDoorPFnPartLinesx26
import Derived.Test.YtncdadcmghglkaaGreatDoorPFnPartLinesx1
-- short
-- dense
-- sq
-- sq2
namespace Go.Proofs.YtncdadcmghglkaaGreatDoor.PFnPartLines
open Go.RowKit Go.Proofs.YtncdadcmghglkaaGreatDoor.X Go.Proofs.YtncdadcmghglkaaGreatDoorW.bI Go.Proofs.YtncdadcmghglkaaGreatDoorW.iy Go.Proofs.YtncdadcmghglkaaGreatDoorW.iZ
attribute [local go_sem] kZ lg nK nM jW jX lq lu   -- for this text's walks alone
set_option linter.unusedVariables false
set_option maxHeartbeats 8000000
set_option maxRecDepth 100000
set_option linter.unusedSimpArgs false
def nP.f (a0 : ByteArray) (a1 : ByteArray) : Option (Bool) := if 2 + a1.size ≤ 9223372036854775807 then (if a0.toList = ((⟨#[45, 45]⟩ : ByteArray) ++ a1).toList then (some true) else (if ((⟨#[45, 45]⟩ : ByteArray) ++ a1).size + 2 ≤ 9223372036854775807 then (some (a0.toList == (((⟨#[45, 45]⟩ : ByteArray) ++ a1) ++ (⟨#[45, 45]⟩ : ByteArray)).toList)) else (none))) else (none)
theorem nP.calls {a0 a1 : ByteArray} {r : Bool} {w : World} (h : nP.f a0 a1 = some r) :
  Calls Tryz.prog 115 #[.string a0, .string a1] w fun e w' => e = .returned (.bool r) ∧ dP w w' := by
 unfold nP.f at h; have H := h
 clear h
 replace H := nn H; obtain ⟨c3, H⟩ := H
 have iO := eq_true c3
 have yK := decide_eq_true c3
 try have abk : (9223372036854775807 < 2 + a1.size) = False := eq_false (Nat.not_lt.2 c3)
 replace H := sq H
 rcases H with ⟨qR, Xk, H⟩ | ⟨c4, qR, Xk, H⟩
 ·
  obtain rfl := s1 H
  go_enter Tryz.func115, Tryz.ntmps115
  go_wp2
  go_ret
  exact ⟨rs, dn⟩
 ·
  replace H := nn H; obtain ⟨c5, H⟩ := H
  have mW := eq_true c5
  have IY := decide_eq_true c5
  try have aGn : (9223372036854775807 < 2 + a1.size + 2) = False := by have h_ := (eq_false (Nat.not_lt.2 c5) : (9223372036854775807 < ((⟨#[45, 45]⟩ : ByteArray) ++ a1).size + 2) = False); simp only [ByteArray.size_append] at h_; exact h_
  try have aGo : (9223372036854775807 < ((⟨#[45, 45]⟩ : ByteArray) ++ a1).size + 2) = False := eq_false (Nat.not_lt.2 c5)
  obtain rfl := s1 H
  go_enter Tryz.func115, Tryz.ntmps115
  go_wp2
  go_ret
  exact ⟨rs, dn⟩
mutual
def bW.j0 : Nat → List (List ByteArray) → ByteArray → List ByteArray → Bool → Option (List ByteArray × Bool)
 | 0, _, _, _, _ => none
 | k + 1, x0, x1, x6, x17 => if x17 = true then (some (x6, false)) else (bW.l0 k x0 x1 x6 0)
def bW.l0 : Nat → List (List ByteArray) → ByteArray → List ByteArray → Int → Option (List ByteArray × Bool)
 | 0, _, _, _, _ => none
 | k + 1, x0, x1, x6, x7 => if x7 < (x0.length : Int) then (if 2 + x1.size ≤ 9223372036854775807 then (if x6.length < 8796093022208 then (bW.l1 k x0 x1 (x6 ++ [(⟨#[45, 45]⟩ : ByteArray) ++ x1]) x7 0) else (none)) else (none)) else (if 2 + x1.size ≤ 9223372036854775807 then (if ((⟨#[45, 45]⟩ : ByteArray) ++ x1).size + 2 ≤ 9223372036854775807 then (if x6.length < 8796093022208 then (some ((x6 ++ [((⟨#[45, 45]⟩ : ByteArray) ++ x1) ++ (⟨#[45, 45]⟩ : ByteArray)]), true)) else (none)) else (none)) else (none))
def bW.l1 : Nat → List (List ByteArray) → ByteArray → List ByteArray → Int → Int → Option (List ByteArray × Bool)
 | 0, _, _, _, _, _ => none
 | k + 1, x0, x1, x6, x7, x8 => if 0 ≤ x7 then (if x7 < (x0.length : Int) then (if x8 < ((xH x0 x7).length : Int) then (if 0 ≤ x8 then ((nP.f (mX ByteArray.empty (xH x0 x7) x8) x1).bind fun as9 => (if as9 = true then (some ((([] : List ByteArray)), false)) else (if x6.length < 8796093022208 then (bW.l1 k x0 x1 (x6 ++ [mX ByteArray.empty (xH x0 x7) x8]) x7 (wrap64 (x8 + 1))) else (none)))) else (none)) else (bW.l0 k x0 x1 x6 (wrap64 (x7 + 1)))) else (none)) else (none)
end
def bW.f (k : Nat) (l0 : List (List ByteArray)) (a1 : ByteArray) : Option (List ByteArray × Bool) := (some (([] : List ByteArray) : List ByteArray)).bind fun aeg => ((bU.f k a1).bind fun ata => (if ata = true then (bW.j0 k l0 a1 aeg ((l0.length : Int) == 0)) else (bW.j0 k l0 a1 aeg true)))
theorem bW.calls {k c0 : Nat} {A0 : Option Addr} {l0 : List (List ByteArray)} {a1 : ByteArray} {r1 : List ByteArray} {r2 : Bool} {w : World} (hr0 : Kd.C (Kd.slice 9 Kd.string) w A0 l0.length l0) (hc0 : l0.length ≤ c0) (h : bW.f k l0 a1 = some (r1, r2)) :
  Calls Tryz.prog 109 #[.slice A0 l0.length c0, .string a1] w fun e w' => ∃ oV : Value, e = .returned (.tuple #[oV, .bool r2]) ∧ Kd.R Kd.string 9 w' w.heap.size (fun _ => True) oV r1 ∧ Below w.heap.size w w' := by
 have HR0 := ak hr0
 have xE := ak hc0
 clear hr0 hc0
 have HB := ak (Below.refl w.heap.size w)
 unfold bW.f at h; have H := h
 clear h
 replace H := ny H
 obtain ⟨aeg, atb, H⟩ := H
 have OU := ak H
 clear H
 go_enter Tryz.func109, Tryz.ntmps109
 go_upto_region 2 with (refine gG 9 ?_; refine Gu 9 Kd.string 9 atb ?_; intro ay8 w4 ho5 hb; have ajJ := ak (Kd.aC ho5 (aj (ul HB.out))); replace HB := bs HB hb; clear hb ho5)
 (try simp only [Act.put, yT, yU, l_c])
 go_cut [17] (fun v17 wc => ∃ (kq : Nat) (PL : Bool), v17 = .bool PL ∧ ah (bW.j0 kq l0 a1 aeg PL = some (r1, r2)) ∧ ah (kq ≤ k) ∧ ah (Kd.R Kd.string 9 wc w.heap.size (fun _ => True) ay8 aeg) ∧ ah (Below w.heap.size w wc))
 case first =>
  have H := OU.out
  clear OU
  replace H := bd H; obtain ⟨ata, A6, H⟩ := H; replace H := sb H
  rcases H with ⟨rfl, H⟩ | ⟨rfl, H⟩
  ·
   have H' := ak H; clear H
   go_wp2_with (refine gA Tryz.func157 (bU.calls A6.out) ?_; intro nd)
   go_meet
   case rel => exact ⟨_, _, rs, H', ⟨IL⟩, ⟨ur ajJ.out⟩, ⟨ul HB.out⟩⟩
  ·
   have H' := ak H; clear H
   go_wp2_with (refine gA Tryz.func157 (bU.calls A6.out) ?_; intro nd)
   go_meet
   case rel => exact ⟨_, _, rs, H', ⟨IL⟩, ⟨ur ajJ.out⟩, ⟨ul HB.out⟩⟩
 case rest =>
  clear OU
  obtain ⟨kq, PL, rfl, HA, HJ2, jg, HB⟩ := hcut
  cases kq with
  | zero => exact zz HA.out
  | succ YD =>
   obtain ⟨H⟩ := HA
   simp only [bW.j0] at H
   replace H := sb H
   rcases H with ⟨rfl, H⟩ | ⟨rfl, H⟩
   ·
    obtain ⟨rfl, rfl⟩ := s2 H
    go_wp2
    go_ret2
    exact ⟨_, er, ur jg.out, ul HB.out⟩
   ·
    have H' := ak H; clear H
    go_wp2
    go_loopg [6, 7] YD (fun kq v6 v7 w' => ∃ (Bd : List ByteArray) (yX : Int), v7 = .int .i64 yX ∧ ah (bW.l0 kq l0 a1 Bd yX = some (r1, r2)) ∧ ah (kq ≤ YD) ∧ ah (Kd.R Kd.string 9 w' w.heap.size (fun _ => True) v6 Bd) ∧ ah (Below w.heap.size w w'))
    case atStart => exact ⟨_, _, rs, H', ⟨Nat.le_refl _⟩, ⟨ur jg.out⟩, ⟨ul HB.out⟩⟩
    case round =>
     clear H'
     obtain ⟨Bd, yX, rfl, HA, MJ, jg, HB⟩ := hrel
     cases gk with
     | zero => exact zz HA.out
     | succ k2 =>
      obtain ⟨H⟩ := HA
      simp only [bW.l0] at H
      replace H := sd H
      rcases H with ⟨xY, H⟩ | ⟨xY, H⟩
      ·
       replace H := nn H; obtain ⟨c10, H⟩ := H
       have nY := eq_true c10
       have rX := decide_eq_true c10
       try have Zf : (9223372036854775807 < 2 + a1.size) = False := eq_false (Nat.not_lt.2 c10)
       replace H := nl H; obtain ⟨Ph, H⟩ := H
       obtain ⟨aGp, ajK⟩ := nm (Bd ++ [(⟨#[45, 45]⟩ : ByteArray) ++ a1])
       rw [← ajK.out] at H
       have H' := ak H; clear H
       go_wp2_with ((with_reducible refine eu (b := .append) (xs := #[.tmp 25, .tmp 28]) rfl ?_); (try (refine lD (by rfl) ?_; dsimp only)); at_builtin; refine aP 25 28 Kd.string 23 9 (.string ⟨#[]⟩) 16 Tryz.underlying23 info9 HB (ur jg.out) ajK (by have := Ph.out; omega) ?_; intro aGq w12 ho hb hg hat; have atc := ak (ho); replace HB := ak (hb); clear ho hb hg hat jg)
       go_loopg [6, 8] k2 (fun kq v6 v8 w' => ∃ (CO : List ByteArray) (LG : Int), v8 = .int .i64 LG ∧ ah (bW.l1 kq l0 a1 CO yX LG = some (r1, r2)) ∧ ah (kq ≤ k2) ∧ ah (Kd.R Kd.string 9 w' w.heap.size (fun _ => True) v6 CO) ∧ ah (Below w.heap.size w w'))
       case atStart => exact ⟨_, _, rs, H', ⟨Nat.le_refl _⟩, ⟨ur atc.out⟩, ⟨ul HB.out⟩⟩
       case round =>
        clear H'
        try clear xY
        try clear c10
        try clear nY
        try clear rX
        try clear Zf
        obtain ⟨CO, LG, rfl, HA, Y4, jg, HB⟩ := hrel
        cases gk with
        | zero => exact zz HA.out
        | succ k3 =>
         obtain ⟨H⟩ := HA
         simp only [bW.l1] at H
         replace H := oq H; obtain ⟨vw, H⟩ := H; replace H := oq H; obtain ⟨sH, H⟩ := H; replace H := sd H
         rcases H with ⟨vC, H⟩ | ⟨vC, H⟩
         ·
          replace H := oq H; obtain ⟨zA, H⟩ := H; replace H := bd H; obtain ⟨as9, A17, H⟩ := H; replace H := sb H
          rcases H with ⟨rfl, H⟩ | ⟨rfl, H⟩
          ·
           obtain ⟨aGr, ajL⟩ := nm ([] : List ByteArray)
           rw [← ajL.out] at H
           obtain ⟨rfl, rfl⟩ := s2 H
           have PN := zi yX
           have PO := zj yX l0.length
           obtain ⟨VO, aeh, aei, aej, xk, BF, BG⟩ := IQ HR0.out yX PN PO
           cases aej
           replace xk := cl HB.out xk
           have ZK := ak BG
           have ZL := ak BF
           clear BG BF
           replace PN := eq_true PN
           replace PO := eq_true PO
           have XJ := zi yX
           have XK := zj yX l0.length
           obtain ⟨aek, amO, amP, amQ, DR, JE, JF⟩ := IQ HR0.out yX XJ XK
           obtain rfl : VO = aek := (by injection amQ)
           replace DR := cl HB.out DR
           have Ug := ak JF
           have agR := ak JE
           clear JF JE
           replace XJ := eq_true XJ
           replace XK := eq_true XK
           have ea_ := Option.some.inj (xk.symm.trans DR)
           injection ea_ with ea_ en_ ec_
           subst ea_
           subst ec_
           clear en_
           have XL := zi LG
           have XM := zj LG ((xH l0 yX).length)
           obtain ⟨atd, amR, JG⟩ := Kd.iU Ug.out LG XL XM
           cases amR
           replace JG := cl HB.out JG
           replace XL := eq_true XL
           replace XM := eq_true XM
           go_wp2_with (first | (refine gA Tryz.func115 (nP.calls A17.out) ?_; intro nd) | (refine gG 48 ?_; refine Gu 48 Kd.string 9 ajL ?_; intro aGs Zb abG hb; have ate := ak (Kd.aC (Kd.dR abG (Kd.jh (ur jg.out))) (aj (ul HB.out))); replace jg := ak (Kd.bH (ur jg.out) (Kd.bZ abG) hb); replace HB := bs HB hb; clear hb abG))
           go_ret2
           exact ⟨_, er, ur (Kd.aY ate.out (fun _ hk => trivial)), ul HB.out⟩
          ·
           replace H := nl H; obtain ⟨Vw, H⟩ := H
           obtain ⟨aGt, ajM⟩ := nm (CO ++ [mX ByteArray.empty (xH l0 yX) LG])
           rw [← ajM.out] at H
           have H' := ak H; clear H
           have PN := zi yX
           have PO := zj yX l0.length
           obtain ⟨VO, aeh, aei, aej, xk, BF, BG⟩ := IQ HR0.out yX PN PO
           cases aej
           replace xk := cl HB.out xk
           have ZK := ak BG
           have ZL := ak BF
           clear BG BF
           replace PN := eq_true PN
           replace PO := eq_true PO
           have XJ := zi yX
           have XK := zj yX l0.length
           obtain ⟨aek, amO, amP, amQ, DR, JE, JF⟩ := IQ HR0.out yX XJ XK
           obtain rfl : VO = aek := (by injection amQ)
           replace DR := cl HB.out DR
           have Ug := ak JF
           have agR := ak JE
           clear JF JE
           replace XJ := eq_true XJ
           replace XK := eq_true XK
           have ea_ := Option.some.inj (xk.symm.trans DR)
           injection ea_ with ea_ en_ ec_
           subst ea_
           subst ec_
           clear en_
           have XL := zi LG
           have XM := zj LG ((xH l0 yX).length)
           obtain ⟨atd, amR, JG⟩ := Kd.iU Ug.out LG XL XM
           cases amR
           replace JG := cl HB.out JG
           replace XL := eq_true XL
           replace XM := eq_true XM
           go_wp2_with (first | (refine gA Tryz.func115 (nP.calls A17.out) ?_; intro nd; have amS : 0 ≤ (yX : Int) := of_decide_eq_true (by assumption); have amT : yX < (l0.length : Int) := of_decide_eq_true (by assumption); obtain ⟨atf, ay9, ay_, aza, Ox, ZM, ZN⟩ := IQ HR0.out yX amS amT; obtain rfl : VO = atf := (by injection aza); replace Ox := (HB.out.cell (World.block_lt_of_cell? w _ Ox)).trans Ox; have agS := ak ZN; have awP := ak ZM; clear ZN ZM; replace amS := eq_true amS; replace amT := eq_true amT; have ea_ := Option.some.inj (xk.symm.trans Ox); injection ea_ with ea_ en_ ec_; subst ea_; subst ec_; clear en_; have amU : 0 ≤ (LG : Int) := of_decide_eq_true (by assumption); have amV : LG < ((xH l0 yX).length : Int) := of_decide_eq_true (by assumption); obtain ⟨aB9, azb, Uh⟩ := Kd.iU agS.out LG amU amV; cases azb; replace Uh := (HB.out.cell (World.block_lt_of_cell? w _ Uh)).trans Uh; replace amU := eq_true amU; replace amV := eq_true amV) | ((with_reducible refine eu (b := .append) (xs := #[.tmp 49, .tmp 57]) rfl ?_); (try (refine lD (by rfl) ?_; dsimp only)); at_builtin; refine aP 49 57 Kd.string 23 9 (.string ⟨#[]⟩) 16 Tryz.underlying23 info9 HB (ur jg.out) ajM (by have := Vw.out; omega) ?_; intro aGu YX ho hb hg hat; have atg := ak (ho); replace HB := ak (hb); clear ho hb hg hat jg))
           go_roundg k3
           case measure => exact kl
           case rel => exact ⟨_, _, rs, H', ⟨kl⟩, ⟨ur atg.out⟩, ⟨ul HB.out⟩⟩
         ·
          have H' := ak H; clear H
          have PN := zi yX
          have PO := zj yX l0.length
          obtain ⟨VO, aeh, aei, aej, xk, BF, BG⟩ := IQ HR0.out yX PN PO
          cases aej
          replace xk := cl HB.out xk
          have ZK := ak BG
          have ZL := ak BF
          clear BG BF
          replace PN := eq_true PN
          replace PO := eq_true PO
          go_wp2
          go_roundg k3
          case measure => exact kl
          case rel => exact ⟨_, _, rs, H', ⟨kl⟩, ⟨ur jg.out⟩, ⟨ul HB.out⟩⟩
      ·
       replace H := nn H; obtain ⟨c23, H⟩ := H
       have Ad := eq_true c23
       have MQ := decide_eq_true c23
       try have ath : (9223372036854775807 < 2 + a1.size) = False := eq_false (Nat.not_lt.2 c23)
       replace H := nn H; obtain ⟨c24, H⟩ := H
       have Pm := eq_true c24
       have adv := decide_eq_true c24
       try have aB_ : (9223372036854775807 < 2 + a1.size + 2) = False := by have h_ := (eq_false (Nat.not_lt.2 c24) : (9223372036854775807 < ((⟨#[45, 45]⟩ : ByteArray) ++ a1).size + 2) = False); simp only [ByteArray.size_append] at h_; exact h_
       try have aCa : (9223372036854775807 < ((⟨#[45, 45]⟩ : ByteArray) ++ a1).size + 2) = False := eq_false (Nat.not_lt.2 c24)
       replace H := nl H; obtain ⟨VI, H⟩ := H
       obtain ⟨aGv, ajN⟩ := nm (Bd ++ [((⟨#[45, 45]⟩ : ByteArray) ++ a1) ++ (⟨#[45, 45]⟩ : ByteArray)])
       rw [← ajN.out] at H
       obtain ⟨rfl, rfl⟩ := s2 H
       go_wp2_with ((with_reducible refine eu (b := .append) (xs := #[.tmp 59, .tmp 63]) rfl ?_); (try (refine lD (by rfl) ?_; dsimp only)); at_builtin; refine aP 59 63 Kd.string 23 9 (.string ⟨#[]⟩) 16 Tryz.underlying23 info9 HB (ur jg.out) ajN (by have := VI.out; omega) ?_; intro aGw w26 ho hb hg hat; have ati := ak (ho); replace HB := ak (hb); clear ho hb hg hat jg)
       go_ret2
       exact ⟨_, er, ur ati.out, ul HB.out⟩
mutual
def iT.l0 : Nat → List ByteArray → ByteArray → List (List ByteArray) → Int → List (gX) → List ByteArray → List (nG) → Option (List ByteArray)
 | 0, _, _, _, _, _, _, _ => none
 | k + 1, x3, x5, x7, x8, agT, agU, JH => if x8 < (JH.length : Int) then (if 0 ≤ x8 then ((iT.f k ((cO JH x8).f0) ((cO JH x8).f1) ((cO JH x8).f2)).bind fun XO => (if x7.length < 5864062014805 then (iT.l0 k x3 x5 (x7 ++ [XO]) (wrap64 (x8 + 1)) agT agU JH) else (none))) else (none)) else ((bW.f k x7 x5).bind fun ajO => (if x3.length + ajO.1.length < 8796093022208 then (some (x3 ++ ajO.1)) else (none)))
def iT.f : Nat → List (gX) → List ByteArray → List (nG) → Option (List ByteArray)
 | 0, _, _, _ => none
 | k + 1, dY, dK, aH => (iR.f k dY).bind fun ajP => (if ajP.1.length < 8796093022208 then ((some (ajP.1 ++ [(⟨#[]⟩ : ByteArray)] : List ByteArray)).bind fun QS => ((jV.f k dY).bind fun ajQ => (if ajQ.2 = true then (iT.l0 k QS ajQ.1 (([] : List (List ByteArray))) 0 dY dK aH) else (if QS.length + dK.length < 8796093022208 then (some (QS ++ dK)) else (none))))) else (none))
end
theorem iT.calls (k : Nat) : ∀ (jO : Option Addr) (jP : Nat) (dY : List (gX)) (jJ : Option Addr) (jK : Nat) (dK : List ByteArray) (iP : Option Addr) (f_ : Nat) (aH : List (nG)) (r : List ByteArray) (w : World) (oW : Kd.C qI w jO dY.length dY) (oZ : dY.length ≤ jP) (o7 : Kd.C Kd.string w jJ dK.length dK) (o8 : dK.length ≤ jK) (kS : Kd.C k28 w iP aH.length aH) (kT : aH.length ≤ f_) (h : iT.f k dY dK aH = some r),
  Calls Tryz.prog 67 #[.agg #[.slice jO dY.length jP, .slice jJ dK.length jK, .slice iP aH.length f_]] w fun e w' => ∃ oV : Value, e = .returned (oV) ∧ Kd.R Kd.string 9 w' w.heap.size (fun _ => True) oV r ∧ Below w.heap.size w w' := by
 induction k using Nat.strongRecOn with
 | _ k ih =>
 intro jO jP dY jJ jK dK iP f_ aH r w oW oZ o7 o8 kS kT h
 cases k with
 | zero => exact absurd h (by simp [iT.f])
 | succ k =>
 simp only [iT.f] at h
 have EH := Tryz.underlying28
 have qB := ak oW
 have qQ := ak oZ
 clear oW oZ
 have tZ := ak o7
 have wP := ak o8
 clear o7 o8
 have jD := ak kS
 have mQ := ak kT
 clear kS kT
 have HB := ak (Below.refl w.heap.size w)
 have H := h
 clear h
 replace H := bd H
 obtain ⟨⟨atj, aGx⟩, A2, H⟩ := H
 (try dsimp only at H)
 replace H := nl H; obtain ⟨abd, H⟩ := H
 replace H := ny H
 obtain ⟨QS, ajR, H⟩ := H
 replace H := bd H
 obtain ⟨⟨azc, aGy⟩, A4, H⟩ := H
 (try dsimp only at H)
 replace H := sb H
 rcases H with ⟨rfl, H⟩ | ⟨rfl, H⟩
 ·
  obtain ⟨aGz, ael⟩ := nm ([] : List (List ByteArray))
  rw [← ael.out] at H
  have H' := ak H; clear H
  go_enter Tryz.func67, Tryz.ntmps67
  go_wp2_with (first | (refine bX HB 1 #[.slice jO dY.length jP, .slice jJ dK.length jK, .slice iP aH.length f_] 28 ?_; intro PS w6 nI atl hb; replace HB := bs HB hb; clear hb; have z7 := kK nI.out) | (refine gV Tryz.func107 (iR.calls (cu (Kd.bf qB.out HB.out)) qQ.out A2.out) ?_; rintro amW w8 ⟨ho0, hb⟩; have PU := ak (Kd.aC ho0 (aj bb)); replace nI := kb nI hb; replace HB := bz HB hb; clear hb; (try clear ho0)) | ((with_reducible refine eu (b := .append) (xs := #[.tmp 17, .tmp 18]) rfl ?_); at_builtin; refine Kd.pV Kd.string (w0 := w) w.heap.size rfl (.tmp 17) (.tmp 18) 23 9 (.string ⟨#[]⟩) 16 rfl Tryz.underlying23 info9 rfl (by decide) (by omega) amW atj (⟨#[]⟩ : ByteArray) [.string (⟨#[]⟩ : ByteArray)] (fun _ => True) (fun _ => False) rfl rfl ?aP (fun _ hk => hk.elim) ?aF ?aO ?aB ?aS ?aL ?_; (case aP => exact rfl); (case aB => exact bb); (case aF => exact (fun _ _ => trivial)); (case aO => exact (ur PU.out)); (case aS => exact (aj bb)); (case aL => have := abd.out; omega); intro VP w9 ho hb hg hat; rw [← ajR.out] at ho; have Ed := ak (ho); replace nI := ak (cZ (g := PS) (o := .cells #[.slice jO dY.length jP, .slice jJ dK.length jK, .slice iP aH.length f_] 28 (0, 0)) (ub nI.out) hg (Kd.oG PU.out nI.out (by decide))); replace HB := ak (hb); clear ho hb hg hat PU; have z10 := kK nI.out) | (refine gB Tryz.func108 (jV.calls (cu (Kd.bf qB.out HB.out)) qQ.out A4.out) ?_; intro U3 hb; replace Ed := rb Ed hb; replace nI := kb nI hb; replace HB := bz HB hb; clear hb) | ((with_reducible refine Vy (N := 32) rfl ?_); refine Kd.ai8 (Kd.slice 9 Kd.string) _ 23 ?hg (N := 32) ?hd (xs := ([] : List (List ByteArray))) (inner := []) (ok := fun _ => True) (vM := fun _ => True) ?hr ?hp (fun _ hk => hk) trivial (Below.refl _ _) (Nat.le_refl _) (by simp) ?_; (case hd => rfl); (case hg => rfl); (case hr => first | (go_simp; done) | (go_simp; rfl)); (case hp => exact (dh.none _ _)); intro aGA w12 Ub hb CB vS; clear CB vS; (first | rw [← ael.out] at Ub | (simp only [Int.reduceToNat] at Ub; rw [← ael.out] at Ub)); have atm := ak (Kd.Zt (Kd.ad3 Ub (Kd.jh (ur Ed.out))) (aj bb)); replace Ed := rb Ed hb; replace nI := kb nI hb; replace HB := bz HB hb; clear hb Ub))
  go_loopg [7, 8] k (fun kq v7 v8 w' => ∃ (ru : List (List ByteArray)) (kL : Int), v8 = .int .i64 kL ∧ ah (iT.l0 kq QS azc ru kL dY dK aH = some r) ∧ ah (kq ≤ k) ∧ ah (Kd.R Kd.string 9 w' w.heap.size (fun _ => True) VP QS) ∧ ah (Kd.S (Kd.slice 9 Kd.string) 23 w' w.heap.size (fun k_ => some k_ ≠ (VP : Value).ownBlock) v7 ru) ∧ ah (w'.heap[PS]? = some (.cells #[(.slice jO dY.length jP), (.slice jJ dK.length jK), (.slice iP aH.length f_)] 28 (0, 0))) ∧ ah (Below w.heap.size w w'))
  case atStart => exact ⟨_, _, rs, H', ⟨Nat.le_refl _⟩, ⟨ur Ed.out⟩, ⟨by (with_reducible repeat (first | apply Kd.qY | apply Kd.qZ | apply Kd.uN)); exact Kd.DK atm.out (fun _ hk => hk.2)⟩, ⟨ub nI.out⟩, ⟨bb⟩⟩
  case round =>
   clear H'
   obtain ⟨ru, kL, rfl, HA, xI, oH, Ic, nI, HB⟩ := hrel
   cases gk with
   | zero => exact zz HA.out
   | succ k1 =>
    obtain ⟨H⟩ := HA
    simp only [iT.l0] at H
    replace H := sd H
    rcases H with ⟨sH, H⟩ | ⟨sH, H⟩
    ·
     replace H := oq H; obtain ⟨vC, H⟩ := H; replace H := bd H; obtain ⟨XO, ZE, H⟩ := H; replace H := nl H; obtain ⟨adx, H⟩ := H
     obtain ⟨aGB, ajS⟩ := nm (ru ++ [XO])
     rw [← ajS.out] at H
     have H' := ak H; clear H
     have z18 := kK nI.out
     have amX := zi kL
     have amY := zj kL aH.length
     obtain ⟨atn, azd, aze, azf, azg, azh, azi, azj, ZO, ZP, ZQ, ZR, ZT, ZU, ZV, ZW, ZX⟩ := EF jD.out kL amX amY
     cases azj
     replace ZO := cl HB.out ZO
     replace ZP := cl HB.out ZP
     replace ZQ := cl HB.out ZQ
     have agV := ak ZT
     have agW := ak ZR
     clear ZT ZR
     have agX := ak ZV
     have agY := ak ZU
     clear ZV ZU
     have agZ := ak ZX
     have ag0 := ak ZW
     clear ZX ZW
     replace amX := eq_true amX
     replace amY := eq_true amY
     go_wp2_with (first | (refine gV Tryz.func67 (ih k1 (by have := xI.out; omega) _ _ ((cO aH kL).f0) _ _ ((cO aH kL).f1) _ _ ((cO aH kL).f2) XO _ (cu (Kd.bf agV.out HB.out)) agW.out (cu (Kd.bf agX.out HB.out)) agY.out (cu (Kd.bf agZ.out HB.out)) ag0.out ZE.out) ?_; rintro aGC Zb ⟨ho0, hb⟩; have ZY := ak (Kd.aC (Kd.dR ho0 (Kd.jh (ur oH.out))) (aj bb)); replace oH := ak (Kd.bH (ur oH.out) (Kd.bZ ho0) hb); replace Ic := ak (Kd.E8 (by (with_reducible repeat (first | apply Kd.qY | apply Kd.qZ | apply Kd.uN)); exact Ic.out) (Kd.bZ ho0) hb); replace nI := kb nI hb; replace HB := bz HB hb; clear hb; (try clear ho0); obtain ⟨KX, KY, SV⟩ := Kd.aI ZY.out; subst SV) | ((with_reducible refine eu (b := .append) (xs := #[.tmp 40, .tmp 47]) rfl ?_); at_builtin; refine Kd.VB (Kd.slice 9 Kd.string) (w0 := w) w.heap.size rfl (.tmp 40) (.tmp 47) 65 23 (.slice none 0 0) 24 rfl Tryz.underlying65 info23 rfl (by decide) (by omega) u7 ru XO [.slice KX XO.length KY] (fun k_ => some k_ ≠ (VP : Value).ownBlock) (fun k_ => some k_ = (.slice KX XO.length KY : Value).ownBlock) rfl rfl ?aP (fun k_ hk_ => ((Kd.aY (ok' := fun k_ => ((fun k_ => some k_ ≠ (VP : Value).ownBlock)) k_ ∧ some k_ ≠ (u7 : Value).ownBlock) (Kd.oK (ZY.out) (Kd.F8 Ic.out) (by decide)) (fun k_ hk => ⟨hk.1.2, hk.2⟩))).1 k_ hk_.symm) ?aF ?aO ?aB ?aS ?aL ?_; (case aP => exact Kd.ai_ (Kd.aY (Kd.Zv rfl (Kd.aY (ok' := fun k_ => ((fun k_ => some k_ ≠ (VP : Value).ownBlock)) k_ ∧ some k_ ≠ (u7 : Value).ownBlock) (Kd.oK (ZY.out) (Kd.F8 Ic.out) (by decide)) (fun k_ hk => ⟨hk.1.2, hk.2⟩))) (fun _ h_ => h_))); (case aB => exact bb); (case aF => exact (fun k_ hk => Kd.fresh' (Kd.jh (ur oH.out)) k_ hk)); (case aO => exact (by (with_reducible repeat (first | apply Kd.qY | apply Kd.qZ | apply Kd.uN)); exact Kd.DK Ic.out (fun k_ hk => ⟨hk.1, fun e_ => hk.2 e_⟩))); (case aS => exact (aj bb)); (case aL => have := adx.out; omega); intro aGD w20 ho hb hg hat; rw [← ajS.out] at ho; have ato := ak (ho); replace oH := ak (Kd.qc (ur oH.out) (Kd.F8 (by (with_reducible repeat (first | apply Kd.qY | apply Kd.qZ | apply Kd.uN)); exact Ic.out)) (by decide) hg); replace nI := ak (cZ (g := PS) (o := .cells #[.slice jO dY.length jP, .slice jJ dK.length jK, .slice (some atn) aH.length f_] 28 (0, 0)) (ub nI.out) hg (Kd.agb Ic.out nI.out (by decide))); replace HB := ak (hb); clear ho hb hg hat Ic ZY))
     go_roundg k1
     case measure => exact kl
     case rel => exact ⟨_, _, rs, H', ⟨kl⟩, ⟨ur (Kd.aY oH.out (fun _ hk => trivial))⟩, ⟨by (with_reducible repeat (first | apply Kd.qY | apply Kd.qZ | apply Kd.uN)); exact ato.out⟩, ⟨ub nI.out⟩, ⟨bb⟩⟩
    ·
     replace H := bd H
     obtain ⟨⟨ag1, aGE⟩, A22, H⟩ := H
     (try dsimp only at H)
     replace H := nl H; obtain ⟨ad6, H⟩ := H
     obtain ⟨aGF, ajT⟩ := nm (QS ++ ag1)
     rw [← ajT.out] at H
     obtain rfl := s1 H
     have z24 := kK nI.out
     obtain ⟨ay4, ay5, amJ⟩ := Kd.Zw Ic.out
     subst amJ
     go_wp2_with (first | (refine gV Tryz.func109 (bW.calls (cu ((Kd.Jt Ic.out).2.2)) ((Kd.Jt Ic.out).2.1) A22.out) ?_; rintro aGG w26 ⟨ho0, hb⟩; have VQ := ak (Kd.aC (Kd.dR ho0 (Kd.jh (ur oH.out))) (aj bb)); replace oH := ak (Kd.bH (ur oH.out) (Kd.bZ ho0) hb); replace Ic := ak (Kd.E8 (by (with_reducible repeat (first | apply Kd.qY | apply Kd.qZ | apply Kd.uN)); exact Ic.out) (Kd.bZ ho0) hb); replace nI := kb nI hb; replace HB := bz HB hb; clear hb; (try clear ho0); obtain ⟨amZ, am0, am1⟩ := Kd.aI VQ.out; subst am1) | ((with_reducible refine eu (b := .append) (xs := #[.tmp 55, .tmp 56]) rfl ?_); at_builtin; refine Kd.ql Kd.string (w0 := w) w.heap.size rfl (.tmp 55) (.tmp 56) 23 9 (.string ⟨#[]⟩) 16 rfl Tryz.underlying23 info9 rfl (by decide) (by omega) VP QS ag1 _ _ _ (fun k_ => some k_ ≠ (.slice amZ ag1.length am0 : Value).ownBlock) (fun _ => False) rfl rfl ?aO ?aR (fun _ _ h => h) (fun _ h => h.elim) ?aF ?aB ?aS ?aL ?_; (case aR => repeat (first | exact (Kd.ay VQ.out).2.2 | (with_reducible refine Kd.ni ?_ _) | (with_reducible refine Kd.nC ?_ _) | (with_reducible refine Kd.pY ?_))); (case aB => exact bb); (case aF => exact (fun k_ hk => Kd.fresh' (Kd.jh (ur VQ.out)) k_ hk)); (case aO => exact (ur (Kd.aY oH.out (fun _ hk => hk.2)))); (case aS => exact (aj bb)); (case aL => have := ad6.out; omega); intro aGH w27 ho hb hg hat; rw [← ajT.out] at ho; have atp := ak (ho); replace Ic := ak (Kd.Zx (ok := (fun k_ => some k_ ≠ (.slice amZ ag1.length am0 : Value).ownBlock)) (by (with_reducible repeat (first | apply Kd.qY | apply Kd.qZ | apply Kd.uN)); exact Kd.DK Ic.out (fun _ hk => ⟨hk.2, hk.1⟩)) hg hat); replace nI := ak (cZ (g := PS) (o := .cells #[.slice jO dY.length jP, .slice jJ dK.length jK, .slice iP aH.length f_] 28 (0, 0)) (ub nI.out) hg (Kd.oG oH.out nI.out (by decide))); replace VQ := ak (Kd.zI (ok := (fun _ => True)) (ur VQ.out) hg hat); replace HB := ak (hb); clear ho hb hg hat oH))
     go_ret
     exact ⟨_, er, ur (Kd.aY atp.out (fun _ hk => trivial)), bb⟩
 ·
  replace H := nl H; obtain ⟨atq, H⟩ := H
  obtain ⟨aGI, ajU⟩ := nm (QS ++ dK)
  rw [← ajU.out] at H
  obtain rfl := s1 H
  go_enter Tryz.func67, Tryz.ntmps67
  go_wp2_with (first | (refine bX HB 1 #[.slice jO dY.length jP, .slice jJ dK.length jK, .slice iP aH.length f_] 28 ?_; intro PS w30 nI atl hb; replace HB := bs HB hb; clear hb; have z31 := kK nI.out) | (refine gV Tryz.func107 (iR.calls (cu (Kd.bf qB.out HB.out)) qQ.out A2.out) ?_; rintro amW w32 ⟨ho0, hb⟩; have PU := ak (Kd.aC ho0 (aj bb)); replace nI := kb nI hb; replace HB := bz HB hb; clear hb; (try clear ho0)) | ((with_reducible refine eu (b := .append) (xs := #[.tmp 17, .tmp 18]) rfl ?_); at_builtin; refine Kd.pV Kd.string (w0 := w) w.heap.size rfl (.tmp 17) (.tmp 18) 23 9 (.string ⟨#[]⟩) 16 rfl Tryz.underlying23 info9 rfl (by decide) (by omega) amW atj (⟨#[]⟩ : ByteArray) [.string (⟨#[]⟩ : ByteArray)] (fun _ => True) (fun _ => False) rfl rfl ?aP (fun _ hk => hk.elim) ?aF ?aO ?aB ?aS ?aL ?_; (case aP => exact rfl); (case aB => exact bb); (case aF => exact (fun _ _ => trivial)); (case aO => exact (ur PU.out)); (case aS => exact (aj bb)); (case aL => have := abd.out; omega); intro VP w33 ho hb hg hat; rw [← ajR.out] at ho; have Ed := ak (ho); replace nI := ak (cZ (g := PS) (o := .cells #[.slice jO dY.length jP, .slice jJ dK.length jK, .slice iP aH.length f_] 28 (0, 0)) (ub nI.out) hg (Kd.oG PU.out nI.out (by decide))); replace HB := ak (hb); clear ho hb hg hat PU; have z34 := kK nI.out) | (refine gB Tryz.func108 (jV.calls (cu (Kd.bf qB.out HB.out)) qQ.out A4.out) ?_; intro w35 hb; replace Ed := rb Ed hb; replace nI := kb nI hb; replace HB := bz HB hb; clear hb; have z36 := kK nI.out) | ((with_reducible refine eu (b := .append) (xs := #[.tmp 28, .tmp 30]) rfl ?_); at_builtin; refine Kd.ql Kd.string (w0 := w) w.heap.size rfl (.tmp 28) (.tmp 30) 23 9 (.string ⟨#[]⟩) 16 rfl Tryz.underlying23 info9 rfl (by decide) (by omega) VP QS dK _ _ _ (fun _ => True) (fun _ => False) rfl rfl ?aO ?aR (fun _ _ h => h) (fun _ h => h.elim) ?aF ?aB ?aS ?aL ?_; (case aR => repeat (first | exact (Kd.bf tZ.out HB.out) | (with_reducible refine Kd.ni ?_ _) | (with_reducible refine Kd.nC ?_ _) | (with_reducible refine Kd.pY ?_))); (case aB => exact bb); (case aF => exact (fun _ _ => trivial)); (case aO => exact (ur Ed.out)); (case aS => exact (aj bb)); (case aL => have := atq.out; omega); intro aGJ w37 ho hb hg hat; rw [← ajU.out] at ho; have atr := ak (ho); replace nI := ak (cZ (g := PS) (o := .cells #[.slice jO dY.length jP, .slice jJ dK.length jK, .slice iP aH.length f_] 28 (0, 0)) (ub nI.out) hg (Kd.oG Ed.out nI.out (by decide))); replace HB := ak (hb); clear ho hb hg hat Ed))
  go_ret
  exact ⟨_, er, ur atr.out, bb⟩
mutual
def bD.j0 : Nat → Int → Bool → List (gX) → List ByteArray → List (nG) → Option (Bool)
 | 0, _, _, _, _, _ => none
 | k + 1, x1, x17, xq, vX, pq => if x17 = true then (some false) else ((jV.f k xq).bind fun Z4 => (if Z4.2 = true then (if (vX.length : Int) > 0 then (bD.j1 k x1 Z4.1 true xq vX pq) else (if (pq.length : Int) < 1 then (bD.j1 k x1 Z4.1 true xq vX pq) else (bD.j1 k x1 Z4.1 (decide ((pq.length : Int) > 4)) xq vX pq))) else (if (pq.length : Int) = 0 then ((iH.f k vX).bind fun att => (some att)) else (some false))))
def bD.j1 : Nat → Int → ByteArray → Bool → List (gX) → List ByteArray → List (nG) → Option (Bool)
 | 0, _, _, _, _, _, _ => none
 | k + 1, x1, x5, x50, xq, vX, pq => if x50 = true then (some false) else (bD.l0 k x1 x5 0 xq vX pq)
def bD.l0 : Nat → Int → ByteArray → Int → List (gX) → List ByteArray → List (nG) → Option (Bool)
 | 0, _, _, _, _, _, _ => none
 | k + 1, x1, x5, x7, xq, vX, pq => if x7 < (pq.length : Int) then (if 0 ≤ x7 then ((bD.f k ((cO pq x7).f0) ((cO pq x7).f1) ((cO pq x7).f2) (wrap64 (x1 - 1))).bind fun atu => (if atu = true then ((iT.f k ((cO pq x7).f0) ((cO pq x7).f1) ((cO pq x7).f2)).bind fun XP => (bD.l1 k x1 x5 x7 XP 0 xq vX pq)) else (some false))) else (none)) else (some true)
def bD.l1 : Nat → Int → ByteArray → Int → List ByteArray → Int → List (gX) → List ByteArray → List (nG) → Option (Bool)
 | 0, _, _, _, _, _, _, _, _ => none
 | k + 1, x1, x5, x7, x8, x9, xq, vX, pq => if x9 < (x8.length : Int) then (if 0 ≤ x9 then ((nP.f (mX ByteArray.empty x8 x9) x5).bind fun atv => (if atv = true then (some false) else (bD.l1 k x1 x5 x7 x8 (wrap64 (x9 + 1)) xq vX pq))) else (none)) else (bD.l0 k x1 x5 (wrap64 (x7 + 1)) xq vX pq)
def bD.f : Nat → List (gX) → List ByteArray → List (nG) → Int → Option (Bool)
 | 0, _, _, _, _ => none
 | k + 1, dY, dK, aH, a1 => (gu.f k dY).bind fun atw => (if atw = true then (bD.j0 k a1 (decide (a1 < 1)) dY dK aH) else (bD.j0 k a1 true dY dK aH))
end
theorem bD.calls (k : Nat) : ∀ (jO : Option Addr) (jP : Nat) (dY : List (gX)) (jJ : Option Addr) (jK : Nat) (dK : List ByteArray) (iP : Option Addr) (f_ : Nat) (aH : List (nG)) (a1 : Int) (r : Bool) (w : World) (oW : Kd.C qI w jO dY.length dY) (oZ : dY.length ≤ jP) (o7 : Kd.C Kd.string w jJ dK.length dK) (o8 : dK.length ≤ jK) (kS : Kd.C k28 w iP aH.length aH) (kT : aH.length ≤ f_) (h : bD.f k dY dK aH a1 = some r),
  Calls Tryz.prog 72 #[.agg #[.slice jO dY.length jP, .slice jJ dK.length jK, .slice iP aH.length f_], .int .i64 a1] w fun e w' => e = .returned (.bool r) ∧ Below w.heap.size w w' := by
 induction k using Nat.strongRecOn with
 | _ k ih =>
 intro jO jP dY jJ jK dK iP f_ aH a1 r w oW oZ o7 o8 kS kT h
 cases k with
 | zero => exact absurd h (by simp [bD.f])
 | succ k =>
 simp only [bD.f] at h
 have EH := Tryz.underlying28
 have qB := ak oW
 have qQ := ak oZ
 clear oW oZ
 have tZ := ak o7
 have wP := ak o8
 clear o7 o8
 have jD := ak kS
 have mQ := ak kT
 clear kS kT
 have HB := ak (Below.refl w.heap.size w)
 have H := h
 clear h
 have OU := ak H
 clear H
 go_enter Tryz.func72, Tryz.ntmps72
 go_upto_region 1 with (refine gG 2 ?_; refine bX HB 2 #[.slice jO dY.length jP, .slice jJ dK.length jK, .slice iP aH.length f_] 28 ?_; intro Z5 w4 mM aCb hb; replace HB := bs HB hb; clear hb)
 (try simp only [Act.put, yT, yU, l_c])
 go_cut [17] (fun v17 wc => ∃ (kq : Nat) (PL : Bool), v17 = .bool PL ∧ ah (bD.j0 kq a1 PL dY dK aH = some r) ∧ ah (kq ≤ k) ∧ ah (wc.heap[Z5]? = some (.cells #[(.slice jO dY.length jP), (.slice jJ dK.length jK), (.slice iP aH.length f_)] 28 (0, 0))) ∧ ah (Below w.heap.size w wc))
 case first =>
  have H := OU.out
  clear OU
  replace H := bd H; obtain ⟨atw, A5, H⟩ := H; replace H := sb H
  rcases H with ⟨rfl, H⟩ | ⟨rfl, H⟩
  ·
   have H' := ak H; clear H
   have z7 := kK mM.out
   go_wp2_with (refine gB Tryz.func113 (gu.calls (cu (Kd.bf qB.out HB.out)) qQ.out A5.out) ?_; intro w8 hb; replace mM := kb mM hb; replace HB := bz HB hb; clear hb)
   go_meet
   case rel => exact ⟨_, _, rs, H', ⟨IL⟩, ⟨ub mM.out⟩, ⟨bb⟩⟩
  ·
   have H' := ak H; clear H
   have z9 := kK mM.out
   go_wp2_with (refine gB Tryz.func113 (gu.calls (cu (Kd.bf qB.out HB.out)) qQ.out A5.out) ?_; intro w10 hb; replace mM := kb mM hb; replace HB := bz HB hb; clear hb)
   go_meet
   case rel => exact ⟨_, _, rs, H', ⟨IL⟩, ⟨ub mM.out⟩, ⟨bb⟩⟩
 case rest =>
  clear OU
  obtain ⟨kq, PL, rfl, HA, HJ2, mM, HB⟩ := hcut
  cases kq with
  | zero => exact zz HA.out
  | succ YD =>
   obtain ⟨H⟩ := HA
   simp only [bD.j0] at H
   replace H := sb H
   rcases H with ⟨rfl, H⟩ | ⟨rfl, H⟩
   ·
    obtain rfl := s1 H
    go_wp2
    go_ret
    exact ⟨er, bb⟩
   ·
    replace H := bd H
    obtain ⟨⟨am2, aGK⟩, A12, H⟩ := H
    (try dsimp only at H)
    replace H := sb H
    rcases H with ⟨rfl, H⟩ | ⟨rfl, H⟩
    ·
     have am3 := ak H
     clear H
     have z15 := kK mM.out
     go_upto_region 6 with (refine gB Tryz.func108 (jV.calls (cu (Kd.bf qB.out HB.out)) qQ.out A12.out) ?_; intro w16 hb; replace mM := kb mM hb; replace HB := bz HB hb; clear hb)
     (try simp only [Act.put, yT, yU, l_c])
     go_cut [50] (fun v50 wc => ∃ (kq : Nat) (XQ : Bool), v50 = .bool XQ ∧ ah (bD.j1 kq a1 am2 XQ dY dK aH = some r) ∧ ah (kq ≤ YD) ∧ ah (wc.heap[Z5]? = some (.cells #[(.slice jO dY.length jP), (.slice jJ dK.length jK), (.slice iP aH.length f_)] 28 (0, 0))) ∧ ah (Below w.heap.size w wc))
     case first =>
      have H := am3.out
      clear am3
      replace H := sp H
      rcases H with ⟨c17, H⟩ | ⟨c17, H⟩
      ·
       have sJ : decide (0 < (dK.length : Int)) = true := decide_eq_true c17
       have Nb : decide (0 < dK.length) = true := decide_eq_true (by omega)
       clear c17
       (first | rw [sJ] | (simp only [iK, jI]; rw [sJ]) | skip)
       have H' := ak H; clear H
       have z18 := kK mM.out
       go_wp2
       go_meet
       case rel => exact ⟨_, _, rs, H', ⟨kl⟩, ⟨ub mM.out⟩, ⟨bb⟩⟩
      ·
       have sJ : decide (0 < (dK.length : Int)) = false := decide_eq_false c17
       have Nb : decide (0 < dK.length) = false := decide_eq_false (by omega)
       clear c17
       (first | rw [sJ] | (simp only [iK, jI]; rw [sJ]) | skip)
       replace H := sp H
       rcases H with ⟨c19, H⟩ | ⟨c19, H⟩
       ·
        have z_ := decide_eq_true c19
        have Eb : decide (aH.length < 1) = true := decide_eq_true (by omega)
        clear c19
        have H' := ak H; clear H
        have z20 := kK mM.out
        go_wp2
        go_meet
        case rel => exact ⟨_, _, rs, H', ⟨kl⟩, ⟨ub mM.out⟩, ⟨bb⟩⟩
       ·
        have z_ := decide_eq_false c19
        have Eb : decide (aH.length < 1) = false := decide_eq_false (by omega)
        clear c19
        have H' := ak H; clear H
        have z21 := kK mM.out
        go_wp2
        go_meet
        case rel => exact ⟨_, _, rs, H', ⟨kl⟩, ⟨ub mM.out⟩, ⟨bb⟩⟩
     case rest =>
      clear am3
      obtain ⟨kq, XQ, rfl, HA, abH, mM, HB⟩ := hcut
      cases kq with
      | zero => exact zz HA.out
      | succ atx =>
       obtain ⟨H⟩ := HA
       simp only [bD.j1] at H
       replace H := sb H
       rcases H with ⟨rfl, H⟩ | ⟨rfl, H⟩
       ·
        obtain rfl := s1 H
        go_wp2
        go_ret
        exact ⟨er, bb⟩
       ·
        have H' := ak H; clear H
        go_wp2
        go_loopg [7] atx (fun kq v7 w' => ∃ (pK : Int), v7 = .int .i64 pK ∧ ah (bD.l0 kq a1 am2 pK dY dK aH = some r) ∧ ah (kq ≤ atx) ∧ ah (w'.heap[Z5]? = some (.cells #[(.slice jO dY.length jP), (.slice jJ dK.length jK), (.slice iP aH.length f_)] 28 (0, 0))) ∧ ah (Below w.heap.size w w'))
        case atStart => exact ⟨_, rs, H', ⟨Nat.le_refl _⟩, ⟨ub mM.out⟩, ⟨bb⟩⟩
        case round =>
         clear H'
         obtain ⟨pK, rfl, HA, Y4, mM, HB⟩ := hrel
         cases gk with
         | zero => exact zz HA.out
         | succ k3 =>
          obtain ⟨H⟩ := HA
          simp only [bD.l0] at H
          replace H := sd H
          rcases H with ⟨Ad, H⟩ | ⟨Ad, H⟩
          ·
           replace H := oq H; obtain ⟨Pm, H⟩ := H; replace H := bd H; obtain ⟨atu, A25, H⟩ := H; replace H := sb H
           rcases H with ⟨rfl, H⟩ | ⟨rfl, H⟩
           ·
            replace H := bd H; obtain ⟨XP, A27, H⟩ := H
            have H' := ak H; clear H
            have aJv := kK mM.out
            have VR := zi pK
            have VT := zj pK aH.length
            obtain ⟨aem, am4, am5, am6, am7, am8, am9, am_, Gg, Gh, Gi, JI, JJ, JK, JL, JM, JO⟩ := EF jD.out pK VR VT
            cases am_
            replace Gg := cl HB.out Gg
            replace Gh := cl HB.out Gh
            replace Gi := cl HB.out Gi
            have Ui := ak JJ
            have Uj := ak JI
            clear JJ JI
            have Uk := ak JL
            have Ul := ak JK
            clear JL JK
            have Um := ak JO
            have Un := ak JM
            clear JO JM
            replace VR := eq_true VR
            replace VT := eq_true VT
            go_wp2_with (first | (refine gB Tryz.func72 (ih k3 (by have := HJ2.out; have := abH.out; have := Y4.out; omega) _ _ ((cO aH pK).f0) _ _ ((cO aH pK).f1) _ _ ((cO aH pK).f2) (wrap64 (a1 - 1)) true _ (cu (Kd.bf Ui.out HB.out)) Uj.out (cu (Kd.bf Uk.out HB.out)) Ul.out (cu (Kd.bf Um.out HB.out)) Un.out A25.out) ?_; intro w29 hb; replace mM := kb mM hb; replace HB := bz HB hb; clear hb; have z30 := kK mM.out; have ag2 : 0 ≤ (pK : Int) := of_decide_eq_true (by assumption); have ag3 : pK < (aH.length : Int) := of_decide_eq_true (by assumption); obtain ⟨aty, azk, azl, azm, azn, azo, azp, azq, Oy, Oz, OA, Z7, Z8, Z9, Z_, aac, aad⟩ := EF jD.out pK ag2 ag3; obtain rfl : aem = aty := (by injection azq); replace Oy := (HB.out.cell (World.block_lt_of_cell? w _ Oy)).trans Oy; replace Oz := (HB.out.cell (World.block_lt_of_cell? w _ Oz)).trans Oz; replace OA := (HB.out.cell (World.block_lt_of_cell? w _ OA)).trans OA; have ag4 := ak Z8; have ag5 := ak Z7; clear Z8 Z7; have ag6 := ak Z_; have ag7 := ak Z9; clear Z_ Z9; have ag8 := ak aad; have ag9 := ak aac; clear aad aac; replace ag2 := eq_true ag2; replace ag3 := eq_true ag3) | (refine gV Tryz.func67 (iT.calls k3 _ _ ((cO aH pK).f0) _ _ ((cO aH pK).f1) _ _ ((cO aH pK).f2) XP _ (cu (Kd.bf ag4.out HB.out)) ag5.out (cu (Kd.bf ag6.out HB.out)) ag7.out (cu (Kd.bf ag8.out HB.out)) ag9.out A27.out) ?_; rintro azr w31 ⟨ho0, hb⟩; have atz := ak (Kd.aC ho0 (aj bb)); replace mM := kb mM hb; replace HB := bz HB hb; clear hb; (try clear ho0)))
            go_loopg [9] k3 (fun kq v9 w' => ∃ (Uo : Int), v9 = .int .i64 Uo ∧ ah (bD.l1 kq a1 am2 pK XP Uo dY dK aH = some r) ∧ ah (kq ≤ k3) ∧ ah (Kd.R Kd.string 9 w' w.heap.size (fun _ => True) azr XP) ∧ ah (w'.heap[Z5]? = some (.cells #[(.slice jO dY.length jP), (.slice jJ dK.length jK), (.slice (some aem) aH.length f_)] 28 (0, 0))) ∧ ah (Below w.heap.size w w'))
            case atStart => exact ⟨_, rs, H', ⟨Nat.le_refl _⟩, ⟨ur atz.out⟩, ⟨ub mM.out⟩, ⟨bb⟩⟩
            case round =>
             clear H'
             try clear Ad
             try clear Pm
             try clear Gg
             try clear Gh
             try clear Gi
             try clear Oy
             try clear Oz
             try clear OA
             try clear VR
             try clear ag2
             try clear VT
             try clear ag3
             obtain ⟨Uo, rfl, HA, HK4, abI, mM, HB⟩ := hrel
             cases gk with
             | zero => exact zz HA.out
             | succ k4 =>
              obtain ⟨H⟩ := HA
              simp only [bD.l1] at H
              replace H := sd H
              rcases H with ⟨Vl, H⟩ | ⟨Vl, H⟩
              ·
               replace H := oq H; obtain ⟨Rk, H⟩ := H; replace H := bd H; obtain ⟨atv, A34, H⟩ := H; replace H := sb H
               rcases H with ⟨rfl, H⟩ | ⟨rfl, H⟩
               ·
                obtain rfl := s1 H
                obtain ⟨atA, atC, ana⟩ := Kd.aI abI.out
                subst ana
                have XR := zi Uo
                have XT := zj Uo XP.length
                obtain ⟨atD, anb, ag_⟩ := Kd.iU (Kd.ay abI.out).2.2 Uo XR XT
                cases anb
                replace XR := eq_true XR
                replace XT := eq_true XT
                go_wp2_with (refine gA Tryz.func115 (nP.calls A34.out) ?_; intro nd)
                go_ret
                exact ⟨er, bb⟩
               ·
                have H' := ak H; clear H
                obtain ⟨agL, agM, abx⟩ := Kd.aI abI.out
                subst abx
                have XR := zi Uo
                have XT := zj Uo XP.length
                obtain ⟨atD, anb, ag_⟩ := Kd.iU (Kd.ay abI.out).2.2 Uo XR XT
                cases anb
                replace XR := eq_true XR
                replace XT := eq_true XT
                go_wp2_with (refine gA Tryz.func115 (nP.calls A34.out) ?_; intro nd)
                go_roundg k4
                case measure => have := HJ2.out; have := abH.out; have := Y4.out; have := HK4.out; omega
                case rel => exact ⟨_, rs, H', ⟨by have := HJ2.out; have := abH.out; have := Y4.out; have := HK4.out; omega⟩, ⟨ur abI.out⟩, ⟨ub mM.out⟩, ⟨bb⟩⟩
              ·
               have H' := ak H; clear H
               obtain ⟨aGL, aGM, azs⟩ := Kd.aI abI.out
               subst azs
               go_wp2
               go_roundg k4
               case measure => have := HJ2.out; have := abH.out; have := Y4.out; have := HK4.out; omega
               case rel => exact ⟨_, rs, H', ⟨by have := HJ2.out; have := abH.out; have := Y4.out; have := HK4.out; omega⟩, ⟨ub mM.out⟩, ⟨bb⟩⟩
           ·
            obtain rfl := s1 H
            have z39 := kK mM.out
            have VR := zi pK
            have VT := zj pK aH.length
            obtain ⟨aem, am4, am5, am6, am7, am8, am9, am_, Gg, Gh, Gi, JI, JJ, JK, JL, JM, JO⟩ := EF jD.out pK VR VT
            cases am_
            replace Gg := cl HB.out Gg
            replace Gh := cl HB.out Gh
            replace Gi := cl HB.out Gi
            have Ui := ak JJ
            have Uj := ak JI
            clear JJ JI
            have Uk := ak JL
            have Ul := ak JK
            clear JL JK
            have Um := ak JO
            have Un := ak JM
            clear JO JM
            replace VR := eq_true VR
            replace VT := eq_true VT
            go_wp2_with (refine gB Tryz.func72 (ih k3 (by have := HJ2.out; have := abH.out; have := Y4.out; omega) _ _ ((cO aH pK).f0) _ _ ((cO aH pK).f1) _ _ ((cO aH pK).f2) (wrap64 (a1 - 1)) false _ (cu (Kd.bf Ui.out HB.out)) Uj.out (cu (Kd.bf Uk.out HB.out)) Ul.out (cu (Kd.bf Um.out HB.out)) Un.out A25.out) ?_; intro w40 hb; replace mM := kb mM hb; replace HB := bz HB hb; clear hb)
            go_ret
            exact ⟨er, bb⟩
          ·
           obtain rfl := s1 H
           have aJw := kK mM.out
           go_wp2
           go_ret
           exact ⟨er, bb⟩
    ·
     replace H := sp H
     rcases H with ⟨c42, H⟩ | ⟨c42, H⟩
     ·
      have atE := beq_iff_eq.mpr c42
      have atF := bne_eq_false_iff_eq.mpr c42
      clear c42
      replace H := bd H; obtain ⟨att, A43, H⟩ := H
      obtain rfl := s1 H
      have aJx := kK mM.out
      go_wp2_with (first | (refine gB Tryz.func108 (jV.calls (cu (Kd.bf qB.out HB.out)) qQ.out A12.out) ?_; intro w45 hb; replace mM := kb mM hb; replace HB := bz HB hb; clear hb; have z46 := kK mM.out) | (go_at_call 114; refine mA (iH.calls (cu (Kd.bf tZ.out HB.out)) wP.out A43.out) ?_; intro nd))
      go_ret
      exact ⟨er, bb⟩
     ·
      have atE := beq_eq_false_iff_ne.mpr c42
      have atF := bne_iff_ne.mpr c42
      have aCc : ¬ (aH = []) := fun h_ => c42 (by rw [h_]; rfl)
      obtain rfl := s1 H
      have z47 := kK mM.out
      go_wp2_with (refine gB Tryz.func108 (jV.calls (cu (Kd.bf qB.out HB.out)) qQ.out A12.out) ?_; intro w48 hb; replace mM := kb mM hb; replace HB := bz HB hb; clear hb; have z49 := kK mM.out)
      go_ret
      exact ⟨er, bb⟩
def oP.f (k : Nat) (dY : List (gX)) (dK : List ByteArray) (aH : List (nG)) : Option (Bool) := (bD.f k dY dK aH 3).bind fun anc => (some anc)
theorem oP.calls {k jP jK f_ : Nat} {jO jJ iP : Option Addr} {dY : List (gX)} {dK : List ByteArray} {aH : List (nG)} {r : Bool} {w : World} (oW : Kd.C qI w jO dY.length dY) (oZ : dY.length ≤ jP) (o7 : Kd.C Kd.string w jJ dK.length dK) (o8 : dK.length ≤ jK) (kS : Kd.C k28 w iP aH.length aH) (kT : aH.length ≤ f_) (h : oP.f k dY dK aH = some r) :
  Calls Tryz.prog 30 #[.agg #[.slice jO dY.length jP, .slice jJ dK.length jK, .slice iP aH.length f_]] w fun e w' => e = .returned (.bool r) ∧ Below w.heap.size w w' := by
 have EH := Tryz.underlying28
 have qB := ak oW
 have qQ := ak oZ
 clear oW oZ
 have tZ := ak o7
 have wP := ak o8
 clear o7 o8
 have jD := ak kS
 have mQ := ak kT
 clear kS kT
 have HB := ak (Below.refl w.heap.size w)
 unfold oP.f at h; have H := h
 clear h
 replace H := bd H; obtain ⟨anc, A2, H⟩ := H
 obtain rfl := s1 H
 go_enter Tryz.func30, Tryz.ntmps30
 go_wp2_with (first | (refine bX HB 1 #[.slice jO dY.length jP, .slice jJ dK.length jK, .slice iP aH.length f_] 28 ?_; intro aCd w3 aen aCe hb; replace HB := bs HB hb; clear hb; have z4 := kK aen.out) | (refine gB Tryz.func72 (bD.calls k _ _ dY _ _ dK _ _ aH 3 anc _ (cu (Kd.bf qB.out HB.out)) qQ.out (cu (Kd.bf tZ.out HB.out)) wP.out (cu (Kd.bf jD.out HB.out)) mQ.out A2.out) ?_; intro w5 hb; replace aen := kb aen hb; replace HB := bz HB hb; clear hb))
 go_ret
 exact ⟨er, bb⟩
def pU.f (k : Nat) (dY : List (gX)) (dK : List ByteArray) (aH : List (nG)) : Option (List ByteArray × Bool) := (oP.f k dY dK aH).bind fun atG => (if atG = true then ((iT.f k dY dK aH).bind fun ane => (some (ane, true))) else (some ((([] : List ByteArray)), false)))
theorem pU.calls {k jP jK f_ : Nat} {jO jJ iP : Option Addr} {dY : List (gX)} {dK r1 : List ByteArray} {aH : List (nG)} {r2 : Bool} {w : World} (oW : Kd.C qI w jO dY.length dY) (oZ : dY.length ≤ jP) (o7 : Kd.C Kd.string w jJ dK.length dK) (o8 : dK.length ≤ jK) (kS : Kd.C k28 w iP aH.length aH) (kT : aH.length ≤ f_) (h : pU.f k dY dK aH = some (r1, r2)) :
  Calls Tryz.prog 25 #[.agg #[.slice jO dY.length jP, .slice jJ dK.length jK, .slice iP aH.length f_]] w fun e w' => ∃ oV : Value, e = .returned (.tuple #[oV, .bool r2]) ∧ Kd.R Kd.string 9 w' w.heap.size (fun _ => True) oV r1 ∧ Below w.heap.size w w' := by
 have EH := Tryz.underlying28
 have qB := ak oW
 have qQ := ak oZ
 clear oW oZ
 have tZ := ak o7
 have wP := ak o8
 clear o7 o8
 have jD := ak kS
 have mQ := ak kT
 clear kS kT
 have HB := ak (Below.refl w.heap.size w)
 unfold pU.f at h; have H := h
 clear h
 replace H := bd H; obtain ⟨atG, A2, H⟩ := H; replace H := sb H
 rcases H with ⟨rfl, H⟩ | ⟨rfl, H⟩
 ·
  replace H := bd H; obtain ⟨ane, A4, H⟩ := H
  obtain ⟨rfl, rfl⟩ := s2 H
  go_enter Tryz.func25, Tryz.ntmps25
  go_wp2_with (first | (refine bX HB 1 #[.slice jO dY.length jP, .slice jJ dK.length jK, .slice iP aH.length f_] 28 ?_; intro atH w5 Ee atI hb; replace HB := bs HB hb; clear hb; have z6 := kK Ee.out) | (refine gB Tryz.func30 (oP.calls (cu (Kd.bf qB.out HB.out)) qQ.out (cu (Kd.bf tZ.out HB.out)) wP.out (cu (Kd.bf jD.out HB.out)) mQ.out A2.out) ?_; intro w7 hb; replace Ee := kb Ee hb; replace HB := bz HB hb; clear hb; have z8 := kK Ee.out) | (refine gV Tryz.func67 (iT.calls k _ _ dY _ _ dK _ _ aH ane _ (cu (Kd.bf qB.out HB.out)) qQ.out (cu (Kd.bf tZ.out HB.out)) wP.out (cu (Kd.bf jD.out HB.out)) mQ.out A4.out) ?_; rintro aGN w9 ⟨ho0, hb⟩; have atJ := ak (Kd.aC ho0 (aj bb)); replace Ee := kb Ee hb; replace HB := bz HB hb; clear hb; (try clear ho0)))
  go_ret2
  exact ⟨_, er, ur atJ.out, bb⟩
 ·
  obtain ⟨aGO, ajV⟩ := nm ([] : List ByteArray)
  rw [← ajV.out] at H
  obtain ⟨rfl, rfl⟩ := s2 H
  go_enter Tryz.func25, Tryz.ntmps25
  go_wp2_with (first | (refine bX HB 1 #[.slice jO dY.length jP, .slice jJ dK.length jK, .slice iP aH.length f_] 28 ?_; intro atH w10 Ee atI hb; replace HB := bs HB hb; clear hb; have z11 := kK Ee.out) | (refine gB Tryz.func30 (oP.calls (cu (Kd.bf qB.out HB.out)) qQ.out (cu (Kd.bf tZ.out HB.out)) wP.out (cu (Kd.bf jD.out HB.out)) mQ.out A2.out) ?_; intro w12 hb; replace Ee := kb Ee hb; replace HB := bz HB hb; clear hb) | (refine Gu 7 Kd.string 9 ajV ?_; intro aGP w13 VU hb; have atK := ak (Kd.aC VU (aj bb)); replace Ee := kb Ee hb; replace HB := bz HB hb; clear hb VU))
  go_ret2
  exact ⟨_, er, ur atK.out, bb⟩
end Go.Proofs.YtncdadcmghglkaaGreatDoor.PFnPartLines
