/- Printed walks; conditions: those in each statement. -/
import Derived.Test.YtncdadcmghglkaaGreatDoorVFnPartLinesQt
import Derived.Test.YtncdadcmghglkaaGreatDoorVFnPartLinesYt
import Derived.Test.YtncdadcmghglkaaGreatDoorPFnPartLinesx0
import Derived.Test.YtncdadcmghglkaaGreatDoorPFnPartLinesx11
import Derived.Test.YtncdadcmghglkaaGreatDoorPFnPartLinesx12
import Derived.Test.YtncdadcmghglkaaGreatDoorPFnPartLinesx13
import Derived.Test.YtncdadcmghglkaaGreatDoorPFnPartLinesx15
-- short
-- dense
-- sq
-- sq2
namespace Go.Proofs.YtncdadcmghglkaaGreatDoor.PFnPartLines
open Go.RowKit Go.Proofs.YtncdadcmghglkaaGreatDoor.X Go.Proofs.YtncdadcmghglkaaGreatDoorW.bI Go.Proofs.YtncdadcmghglkaaGreatDoorW.iy Go.Proofs.YtncdadcmghglkaaGreatDoorW.iZ
attribute [local go_sem] kZ lg nK nM jW jX lq lu   -- for this text's walks alone
set_option linter.unusedVariables false
set_option maxHeartbeats 8000000
set_option maxRecDepth 100000
set_option linter.unusedSimpArgs false
mutual
def bQ.l0 : Nat → Bool → List ByteArray → Int → Int → ByteArray → ByteArray → List (gX) → Option (ByteArray × ByteArray × (List (gX)) × Bool)
 | 0, _, _, _, _, _, _, _ => none
 | k + 1, x7, x37, x38, x39, Dz, DC, Bz => if x39 < x38 then (if 0 ≤ x39 then (if x39 < (x37.length : Int) then ((strings_Cut.f (mX ByteArray.empty x37 x39) (⟨#[61]⟩ : ByteArray)).bind fun Vp => ((dH.f k Vp.2.1).bind fun Vq => (if Vp.2.2 = true then (if Vq.2 = true then (bQ.j1 k x7 Vp.1 Vq.1 x37 x38 x39 ((Vq.1.length : Int) != 1) Dz DC Bz) else (bQ.j1 k x7 Vp.1 Vq.1 x37 x38 x39 true Dz DC Bz)) else (bQ.j1 k x7 Vp.1 Vq.1 x37 x38 x39 true Dz DC Bz)))) else (none)) else (none)) else (if x7 = true then ((bJ.f k Dz DC Bz).bind fun aqw => (if aqw = true then (some (Dz, DC, Bz, true)) else (some ((⟨#[]⟩ : ByteArray), (⟨#[]⟩ : ByteArray), ([] : List (gX)), false)))) else (some ((⟨#[]⟩ : ByteArray), (⟨#[]⟩ : ByteArray), ([] : List (gX)), false)))
def bQ.j1 : Nat → Bool → ByteArray → List ByteArray → List ByteArray → Int → Int → Bool → ByteArray → ByteArray → List (gX) → Option (ByteArray × ByteArray × (List (gX)) × Bool)
 | 0, _, _, _, _, _, _, _, _, _, _ => none
 | k + 1, x7, x11, x14, x37, x38, x39, x64, Dz, DC, Bz => if x64 = true then (some ((⟨#[]⟩ : ByteArray), (⟨#[]⟩ : ByteArray), ([] : List (gX)), false)) else ((kH.f x11 (⟨#[32]⟩ : ByteArray)).bind fun al0 => ((iW.f al0).bind fun abr => (if 0 < (x14.length : Int) then (if Bz.length < 4398046511104 then (bQ.l0 k x7 x37 x38 (wrap64 (x39 + 1)) Dz DC (Bz ++ [(⟨abr, mX ByteArray.empty x14 0⟩ : gX)])) else (none)) else (none))))
end
def bQ.f (k : Nat) (a0 : ByteArray) : Option (ByteArray × ByteArray × (List (gX)) × Bool) := (bg.f k a0).bind fun aqx => (if aqx = true then ((dJ.f k a0 59).bind fun EW => (if 0 < (EW.length : Int) then ((kH.f (mX ByteArray.empty EW 0) (⟨#[32]⟩ : ByteArray)).bind fun aqy => ((strings_Cut.f aqy (⟨#[47]⟩ : ByteArray)).bind fun adF => ((iW.f adF.1).bind fun NS => ((iW.f adF.2.1).bind fun NT => (if 1 ≤ (EW.length : Int) then ((some (EW.drop 1 : List ByteArray)).bind fun DF => (bQ.l0 k adF.2.2 DF (DF.length : Int) 0 NS NT ([] : List (gX)))) else (none)))))) else (none))) else (some ((⟨#[]⟩ : ByteArray), (⟨#[]⟩ : ByteArray), ([] : List (gX)), false)))
def bQ.T13 : Bool × List (List Nat × List Nat) := (true, [([], []), ([0], [0]), ([], []), ([2], [2]), ([3, 3], [3]), ([], []), ([5], [5]), ([6], [6]), ([4, 7], [4, 7]), ([8], [8]), ([1, 9, 4], [1, 9]), ([0, 1, 2, 3, 4, 5, 6, 7, 8, 9, 10], []), ([11, 10, 10, 0, 1, 2, 3, 4, 5, 6, 7, 8, 9, 10], [10, 11])])
def bQ.B13 : List Nat := [0, 1, 0, 4, 12, 0, 32, 96, 252, 508, 1023, 2047, 4095]
theorem bQ.Y3 : rU .any (opsOf Tryz.f48 13) = bQ.T13 := by kernel_rfl
theorem bQ.TF : nD bQ.T13.2 bQ.B13 = true := by kernel_rfl
theorem bQ.calls {k : Nat} {a0 r1 r2 : ByteArray} {r3 : List (gX)} {r4 : Bool} {w : World} (CB : MaxOk w) (h : bQ.f k a0 = some (r1, r2, r3, r4)) :
  Calls Tryz.prog 48 #[.string a0] w fun e w' => ∃ EG : Value, e = .returned (.tuple #[.agg #[.string r1, .string r2, EG], .bool r4]) ∧ Kd.R qI 69 w' w.heap.size (fun _ => True) EG r3 ∧ Below w.heap.size w w' := by
 have Vm := Tryz.underlying61
 have Dn := Tryz.underlying69
 have HG := ak CB
 clear CB
 have HB := ak (Below.refl w.heap.size w)
 unfold bQ.f at h; have H := h
 clear h
 replace H := bd H; obtain ⟨aqx, A2, H⟩ := H; replace H := sb H
 rcases H with ⟨rfl, H⟩ | ⟨rfl, H⟩
 ·
  replace H := bd H; obtain ⟨EW, A4, H⟩ := H; replace H := nn H; obtain ⟨c5, H⟩ := H
  have mW := decide_eq_true c5
  have IY : decide (0 < EW.length) = true := decide_eq_true (by omega)
  clear c5
  replace H := bd H; obtain ⟨aqy, A6, H⟩ := H; replace H := bd H
  obtain ⟨⟨aEQ, aER, aqz⟩, A7, H⟩ := H
  (try dsimp only at H)
  replace H := bd H; obtain ⟨NS, A8, H⟩ := H; replace H := bd H; obtain ⟨NT, A9, H⟩ := H; replace H := yL H; obtain ⟨nY, rX, H⟩ := H
  replace H := ny H
  obtain ⟨DF, aiU, H⟩ := H
  have H' := ak H; clear H
  go_enter Tryz.func48, Tryz.ntmps48
  go_wp2_with (first | (refine gG 2 ?_; refine bX HB 2 #[.string (⟨#[]⟩ : ByteArray), .string (⟨#[]⟩ : ByteArray), .slice none 0 0] 61 ?_; intro CQ U3 kY aqA hb; replace HB := bs HB hb; clear hb) | (refine gD Tryz.func89 (bg.calls A2.out) ?_; intro U3 hb; replace kY := kb kY hb; replace HB := bz HB hb; clear hb) | (refine gV Tryz.func90 (dJ.calls A4.out) ?_; rintro aES w12 ⟨ho0, hb⟩; have yV := ak (Kd.aC ho0 (aj bb)); replace kY := kb kY hb; replace HB := bz HB hb; clear hb; (try clear ho0); obtain ⟨W9, IU, SY⟩ := Kd.aI yV.out; subst SY; have adG : 0 ≤ (0 : Int) := (by omega); have adH : 0 < (EW.length : Int) := of_decide_eq_true (by assumption); obtain ⟨Vr, ayw, Om⟩ := Kd.iU (Kd.ay yV.out).2.2 0 adG adH; cases ayw; have aBo : (0 < EW.length) = True := eq_true (by omega); (try rw [show ((0 : Int)).toNat = 0 from rfl] at Om); (try rw [Addr.add_zero'] at Om); replace adG := eq_true adG; replace adH := eq_true adH) | (refine gD Tryz.func92 (kH.calls A6.out) ?_; intro w12 hb; replace yV := rb yV hb; replace kY := kb kY hb; replace HB := bz HB hb; clear hb) | (refine gD Tryz.func91 (strings_Cut.calls ?fZ A7.out) ?_; (case fZ => first | exact HG.out | exact MaxOk.below HG.out bb | (repeat (first | exact HG.out | apply MaxOk.drewN | apply MaxOk.drew))); intro w12 hb; replace yV := rb yV hb; replace kY := kb kY hb; replace HB := bz HB hb; clear hb) | (refine gB Tryz.func93 (iW.calls A8.out) ?_; intro SS hb; replace yV := rb yV hb; replace kY := kb kY hb; replace HB := bz HB hb; clear hb) | (refine gB Tryz.func93 (iW.calls A9.out) ?_; intro w15 hb; replace yV := rb yV hb; replace kY := kb kY hb; replace HB := bz HB hb; clear hb) | (refine gG 8 ?_; refine bY HB 8 #[.string (⟨#[]⟩ : ByteArray), .string (⟨#[]⟩ : ByteArray), .slice none 0 0] 61 ?_; intro wW w16 mG aBp hg hb; have zS := Ba kY hg; have zT := Bc kY hg; replace yV := rb yV hb; replace kY := kb kY hb; replace HB := bz HB hb; clear hb hg; have ah7 := zT.out; have ah8 := zS.out; have z18 := kK mG.out) | ((with_reducible refine Xq (t := 61) (p := 8) rfl ?_); refine Vs (t := 61) (p := 8) (v := ?ayx) (w1 := (((w16.setCell ⟨wW, 0, none⟩ (.string NS)).setCell ⟨wW, 1, none⟩ (.string NT)).setCell ⟨wW, 2, none⟩ (.slice none 0 0))) ?hg ?ho ?hn ?hr ?_; (case ho => rfl); (case hg => rfl); (case hn => rfl); (case hr => first | (go_simp; done) | (go_simp; rfl)); intro Zb hw; have yQ : ah (Kd.R Kd.string 9 Zb w.heap.size (fun _ => True) (.slice (some Vr) EW.length IU) EW) := ⟨(by rw [hw]; exact (ur (Kd.aY (Kd.lK (p := ⟨wW, 2, none⟩) (Kd.lK (p := ⟨wW, 1, none⟩) (Kd.lK (p := ⟨wW, 0, none⟩) (Kd.lV yV.out mG.out (by decide)) (fun _ hk => hk.2) (.string NS)) (fun _ hk => hk.2) (.string NT)) (fun _ hk => hk.2) (.slice none 0 0)) (fun _ hk => trivial))))⟩; have yR : ah (Zb.heap[CQ]? = some (.cells #[.string (⟨#[]⟩ : ByteArray), .string (⟨#[]⟩ : ByteArray), .slice none 0 0] 61 (0, 0))) := ⟨(by rw [hw]; exact bq)⟩; have zB : ah (Zb.heap[wW]? = some (.cells #[.string NS, .string NT, .slice none 0 0] 61 (0, 0))) := ⟨(by rw [hw]; exact bq)⟩; have CJ : ah (Below w.heap.size w Zb) := ⟨(by rw [hw]; exact bb)⟩; clear hw; clear yV; clear kY; clear mG; clear HB; have yV := yQ; have kY := yR; have mG := zB; have HB := CJ; clear yQ yR zB CJ; have q20 : (1 : Int) ≤ ((EW.length : Int) : Int) := of_decide_eq_true (by assumption); obtain ⟨aET, aiV, _, aiW, _⟩ := info_parts info9; have Oo : EW.length ≤ IU := (Kd.ay yV.out).2.1; have aqB : Kd.F Kd.string _ _ (some Vr) EW.length EW := (Kd.agy (base := w.heap.size) (Kd.R_V (Kd.lV (Kd.lV (yV.out) kY.out (by decide)) mG.out (by decide)))).2.2; have al1 := Vt (P := Tryz.prog) 23 9 .i64 Tryz.underlying23 aiV 1 aiW (some Vr) EW.length IU 1 (by omega) q20; have adI := Kd.aqC (m := (1 : Int).toNat) (c := IU) aqB (by omega) Oo; obtain ⟨A20, hA20⟩ : ∃ A1, A1 = (if IU = (1 : Int).toNat then (some Vr) else ((some Vr) : Option Addr).map (·.add ((1 : Int).toNat * 1))) := ⟨_, rfl⟩; obtain ⟨c20, agz⟩ : ∃ c1, c1 = IU - (1 : Int).toNat := ⟨_, rfl⟩; have adJ : DF.length = EW.length - (1 : Int).toNat := (by rw [aiU.out, List.length_drop] <;> omega); rw [show (EW).drop (1 : Int).toNat = DF from aiU.out.symm] at adI; replace adI : Kd.F Kd.string _ _ A20 DF.length DF := (by rw [hA20]; exact adI); rw [← adJ, ← hA20, ← agz] at al1; have aqD := ak (show Kd.V Kd.string 9 _ w.heap.size _ (.slice A20 DF.length c20) DF from Kd.ayy (by rw [adJ, agz]; exact Nat.sub_le_sub_right Oo _) adI); have aBq := ak (show DF.length ≤ c20 from by rw [adJ, agz]; exact Nat.sub_le_sub_right Oo _); clear adI aqB Oo aiV aiW agz; have aEU := ak adJ; have aEV := ak hA20; clear adJ hA20; replace q20 := eq_true q20))
  go_loopg [39] k (fun kq v39 w' => ∃ (Pn : Int) (F6 : ByteArray) (F7 : ByteArray) (wB : List (gX)) (wX : Value), v39 = .int .i64 Pn ∧ ah (bQ.l0 kq aqz DF (DF.length : Int) Pn NS NT wB = some (r1, r2, r3, r4)) ∧ ah (kq ≤ k) ∧ ah (Kd.V Kd.string 9 w' w.heap.size (fun k_ => some k_ ≠ (wX : Value).ownBlock ∧ k_ ≠ CQ ∧ k_ ≠ wW) (.slice A20 DF.length c20) DF) ∧ ah (Kd.R qI 69 w' w.heap.size (fun _ => True) wX wB) ∧ ah (w'.heap[CQ]? = some (.cells #[.string F6, .string F7, (.slice none 0 0)] 61 (0, 0))) ∧ ah (w'.heap[wW]? = some (.cells #[.string NS, .string NT, wX] 61 (0, 0))) ∧ ah (Below w.heap.size w w'))
  case atStart => exact ⟨_, _, _, _, _, rs, H', ⟨Nat.le_refl _⟩, ⟨by (with_reducible repeat (first | apply Kd.DI | apply Kd.DJ | apply Kd.EX)); exact Kd.H_ aqD.out (fun _ hk => ⟨(by simp [Value.ownBlock]), ⟨hk.1.2, hk.2⟩⟩)⟩, ⟨nx⟩, ⟨ub kY.out⟩, ⟨ub mG.out⟩, ⟨bb⟩⟩
  case round =>
   clear H'
   try clear c1
   try clear c5
   try clear mW
   try clear IY
   try clear nY
   try clear rX
   try clear c20
   try clear q20
   try clear Om
   try clear adG
   try clear q20
   try clear adH
   obtain ⟨Pn, F6, F7, wB, wX, rfl, HA, xI, wC, jq, kY, mG, HB⟩ := hrel
   cases gk with
   | zero => exact zz HA.out
   | succ k1 =>
    obtain ⟨H⟩ := HA
    simp only [bQ.l0] at H
    replace H := sd H
    rcases H with ⟨D_, H⟩ | ⟨D_, H⟩
    ·
     replace H := oq H; obtain ⟨ES, H⟩ := H; replace H := oq H; obtain ⟨Ad, H⟩ := H; replace H := bd H
     obtain ⟨⟨aqE, aEW, aEX⟩, Xp, H⟩ := H
     (try dsimp only at H)
     replace H := bd H
     obtain ⟨⟨Po, aEY⟩, A25, H⟩ := H
     (try dsimp only at H)
     have al2 := ak H
     clear H
     have agA := zi Pn
     have agB := zj Pn DF.length
     obtain ⟨aqF, ayz, agC⟩ := Kd.iU (Kd.adK wC.out).2.2 Pn agA agB
     cases ayz
     replace agA := eq_true agA
     replace agB := eq_true agB
     go_upto_region 11 with (first | (refine gA Tryz.func91 (strings_Cut.calls ?fZ Xp.out) ?_; (case fZ => first | exact HG.out | exact MaxOk.below HG.out bb | (repeat (first | exact HG.out | apply MaxOk.drewN | apply MaxOk.drew))); intro nd) | (refine gV Tryz.func94 (dH.calls A25.out) ?_; rintro aqG w27 ⟨ho0, hb⟩; have Zm := ak (Kd.aC ho0 (aj bb)); replace wC := ak (Kd.adL (by (with_reducible repeat (first | apply Kd.DI | apply Kd.DJ | apply Kd.EX)); exact wC.out) (Kd.bZ ho0) hb); replace jq := rb jq hb; replace kY := kb kY hb; replace mG := kb mG hb; replace HB := bz HB hb; clear hb; (try clear ho0)))
     (try simp only [Act.put, yT, yU, l_c])
     go_cut [64] (fun v64 wc => ∃ (kq : Nat) (Xr : Bool), v64 = .bool Xr ∧ ah (bQ.j1 kq aqz aqE Po DF (DF.length : Int) Pn Xr NS NT wB = some (r1, r2, r3, r4)) ∧ ah (kq ≤ k1) ∧ ah (Kd.R Kd.string 9 wc w.heap.size (fun _ => True) aqG Po) ∧ ah (Kd.V Kd.string 9 wc w.heap.size (fun k_ => some k_ ≠ (aqG : Value).ownBlock ∧ some k_ ≠ (wX : Value).ownBlock ∧ k_ ≠ CQ ∧ k_ ≠ wW) (.slice (some aqF) DF.length c20) DF) ∧ ah (Kd.R qI 69 wc w.heap.size (fun _ => True) wX wB) ∧ ah (wc.heap[CQ]? = some (.cells #[.string F6, .string F7, (.slice none 0 0)] 61 (0, 0))) ∧ ah (wc.heap[wW]? = some (.cells #[.string NS, .string NT, wX] 61 (0, 0))) ∧ ah (Below w.heap.size w wc))
     case first =>
      have H := al2.out
      clear al2
      replace H := sb H
      rcases H with ⟨rfl, H⟩ | ⟨rfl, H⟩
      ·
       replace H := sb H
       rcases H with ⟨rfl, H⟩ | ⟨rfl, H⟩
       ·
        have H' := ak H; clear H
        obtain ⟨al3, al4, abt⟩ := Kd.aI Zm.out
        subst abt
        go_wp2
        go_meet
        case rel => exact ⟨_, _, rs, H', ⟨kl⟩, ⟨ur Zm.out⟩, ⟨by (with_reducible repeat (first | apply Kd.DI | apply Kd.DJ | apply Kd.EX)); exact Kd.H_ wC.out (fun _ hk => ⟨hk.2, ⟨hk.1.1, ⟨hk.1.2.1, hk.1.2.2⟩⟩⟩)⟩, ⟨ur jq.out⟩, ⟨ub kY.out⟩, ⟨ub mG.out⟩, ⟨bb⟩⟩
       ·
        have H' := ak H; clear H
        go_wp2
        go_meet
        case rel => exact ⟨_, _, rs, H', ⟨kl⟩, ⟨ur Zm.out⟩, ⟨by (with_reducible repeat (first | apply Kd.DI | apply Kd.DJ | apply Kd.EX)); exact Kd.H_ wC.out (fun _ hk => ⟨hk.2, ⟨hk.1.1, ⟨hk.1.2.1, hk.1.2.2⟩⟩⟩)⟩, ⟨ur jq.out⟩, ⟨ub kY.out⟩, ⟨ub mG.out⟩, ⟨bb⟩⟩
      ·
       have H' := ak H; clear H
       go_wp2
       go_meet
       case rel => exact ⟨_, _, rs, H', ⟨kl⟩, ⟨ur Zm.out⟩, ⟨by (with_reducible repeat (first | apply Kd.DI | apply Kd.DJ | apply Kd.EX)); exact Kd.H_ wC.out (fun _ hk => ⟨hk.2, ⟨hk.1.1, ⟨hk.1.2.1, hk.1.2.2⟩⟩⟩)⟩, ⟨ur jq.out⟩, ⟨ub kY.out⟩, ⟨ub mG.out⟩, ⟨bb⟩⟩
     case rest =>
      clear al2
      try clear c1
      try clear c5
      try clear mW
      try clear IY
      try clear nY
      try clear rX
      try clear c20
      try clear q20
      try clear D_
      try clear ES
      try clear Ad
      try clear Om
      try clear agC
      try clear adG
      try clear agA
      try clear q20
      try clear adH
      try clear agB
      obtain ⟨kq, Xr, rfl, HA, aqH, G_, wC, jq, kY, mG, HB⟩ := hcut
      cases kq with
      | zero => exact zz HA.out
      | succ ayA =>
       obtain ⟨H⟩ := HA
       simp only [bQ.j1] at H
       replace H := sb H
       rcases H with ⟨rfl, H⟩ | ⟨rfl, H⟩
       ·
        obtain ⟨rfl, rfl, rfl, rfl⟩ := s4 H
        have ah9 := zS.out
        have ah_ := zT.out
        have z33 := kK kY.out
        go_wp2
        refine bodyPost_ret (lC rfl _ _ CQ 61 #[.string (⟨#[]⟩ : ByteArray), .string (⟨#[]⟩ : ByteArray), .slice none 0 0] (0, 0) _ rfl bq Tryz.underlying61 rfl (by kernel_rfl)) rfl ?_
        exact ⟨_, er, nx, bb⟩
       ·
        replace H := bd H; obtain ⟨al0, A34, H⟩ := H; replace H := bd H; obtain ⟨abr, A35, H⟩ := H; replace H := nn H; obtain ⟨c36, H⟩ := H
        have adn := decide_eq_true c36
        have aiR : decide (0 < Po.length) = true := decide_eq_true (by omega)
        clear c36
        replace H := nl H; obtain ⟨acR, H⟩ := H
        obtain ⟨ayB, aiX⟩ := nm (wB ++ [(⟨abr, mX ByteArray.empty Po 0⟩ : gX)])
        rw [← aiX.out] at H
        have H' := ak H; clear H
        try go_wp2
        replace G_ := ak (Kd.fV G_.out)
        replace wC := ak (Kd.EX wC.out)
        replace jq := ak (Kd.fV jq.out)
        replace kY := ak (iQ kY.out)
        replace mG := ak (iQ mG.out)
        replace HB := ak (fQ HB.out)
        obtain ⟨aqI, al5, adM⟩ := Kd.aI G_.out
        (first | subst adM | (injection adM with oM uz oN; have uD := oM.symm; have uF := oN.symm; clear oM uz oN; subst uD; subst uF))
        have al6 : 0 ≤ (0 : Int) := (by omega)
        have al7 : 0 < (Po.length : Int) := of_decide_eq_true (by assumption)
        obtain ⟨aiY, ayC, Oq⟩ := Kd.iU (Kd.ay G_.out).2.2 0 al6 al7
        cases ayC
        have aBr : (0 < Po.length) = True := eq_true (by omega)
        (try rw [show ((0 : Int)).toNat = 0 from rfl] at Oq)
        (try rw [Addr.add_zero'] at Oq)
        replace al6 := eq_true al6
        replace al7 := eq_true al7
        refine Ce (n := 13) (S := fun w' => w'.cell? ⟨wW, 0, none⟩ = some (.string NS) ∧ w'.cell? ⟨wW, 1, none⟩ = some (.string NT) ∧ w'.cell? ⟨wW, 2, none⟩ = some (wX) ∧ w'.cell? aiY = some (.string (mX ByteArray.empty Po 0))) (ds := [10, 12]) #[false, false, false, false, false, false, false, false, false, false, false, false, false] (by kernel_rfl) rfl rfl ⟨(aA mG.out 0).trans rfl, (aA mG.out 1).trans rfl, (aA mG.out 2).trans rfl, Oq⟩ (fun hHeld => ?_); refine tN bQ.Y3 bQ.TF (fun D8 HW_ => ?_)
        generalize wc.drew = w38 at G_ wC jq kY mG HB Oq hHeld ⊢
        refine pl 0 ?_
        refine pl 2 ?_
        refine pl 5 ?_
        refine pl 6 ?_
        refine tk 1 ?_
        refine tk 7 ?_
        refine o1 3 (fun K hK => ?_)
        refine yN Tryz.func92 (by kernel_rfl) rfl #[.string aqE, .string (⟨#[32]⟩ : ByteArray)] (by rfl) rfl rfl ma ?_
        with_reducible refine (kH.calls A34.out).mono ?_
        rintro e w' ⟨rfl, ⟨nd, rfl⟩⟩
        refine ⟨_, rfl, ?_⟩
        refine hK.out _ _ ⟨(aA mG.out 0).trans rfl, (aA mG.out 1).trans rfl, (aA mG.out 2).trans rfl, hHeld.2.2.2⟩ (fun hHeld => ?_)
        clear hK K
        refine nrm ?_
        refine o1 4 (fun K hK => ?_)
        refine yN Tryz.func93 (by kernel_rfl) rfl #[.string al0] (by rfl) rfl rfl ma ?_
        with_reducible refine (iW.calls A35.out).mono ?_
        rintro e w40 ⟨rfl, hb⟩
        have al8 := (hb.cell (World.block_lt_of_cell? _ _ (hHeld.2.2.2))).trans (hHeld.2.2.2)
        refine ⟨_, rfl, ?_⟩
        replace G_ := rb G_ hb
        replace wC := vb wC hb
        replace jq := rb jq hb
        replace kY := kb kY hb
        replace mG := kb mG hb
        replace HB := bz HB hb
        try clear hb
        refine hK.out _ _ ⟨(aA mG.out 0).trans rfl, (aA mG.out 1).trans rfl, (aA mG.out 2).trans rfl, al8⟩ (fun hHeld => ?_)
        clear hK K
        refine nrm ?_
        refine pl 8 ?_
        refine o1 9 (fun K hK => ?_)
        refine Ci (w1 := ?_) (v := ?_) (by rfl) rfl ?_ ?_
        rotate_left 2
        ·
         go_simp
         constructor
         ·
          rfl
         ·
          rfl
        refine hK.out _ _ ⟨(aA (iV mG.out _) 0).trans rfl, (aA (iV mG.out _) 1).trans rfl, (aA (iV mG.out _) 2).trans rfl, (World.cell?_alloc_lt _ _ _ (World.block_lt_of_cell? _ _ (hHeld.2.2.2))).trans (hHeld.2.2.2)⟩ (fun hHeld => ?_)
        clear hK K
        refine nrm ?_
        refine GY (i := 10) (N := some 76) #[true, true, true, true, true, true, true, true, true, true, true, false, false] rfl rfl (Ac D8.out (by kernel_rfl)) (by decide) (fun K hK => ?_)
        refine Kd.nJ qI (w0 := w) w.heap.size (by rfl) (.tmp 67) (.tmp 75) 25 69 (.agg #[(.string ⟨#[]⟩), (.string ⟨#[]⟩)]) 32 rfl Tryz.underlying25 Cc rfl (by decide) (by omega) wX wB (⟨abr, mX ByteArray.empty Po 0⟩ : gX) [.string abr, .string (mX ByteArray.empty Po 0)] (fun _ => True) (fun _ => False) rfl rfl ?aP (fun _ hk => hk.elim) ?aF ?aO ?aB ?aS ?aL ?_
        (case aP => exact vW _ _ _ (⟨abr, mX ByteArray.empty Po 0⟩ : gX))
        (case aB => exact bb)
        (case aF => exact (fun _ _ => trivial))
        (case aO => exact (ur jq.out))
        (case aS => exact (aj bb))
        (case aL => have := acR.out; omega)
        intro aEZ w41 ho hb hg hat
        rw [← aiX.out] at ho
        have yQ := ak (Kd.qc (ur G_.out) (Kd.kG (ur jq.out)) (by decide) hg)
        have yR := ak (Kd.adN (ok := (fun k_ => some k_ ≠ (.slice (some aiY) Po.length al5 : Value).ownBlock ∧ k_ ≠ CQ ∧ k_ ≠ wW)) (by (with_reducible repeat (first | apply Kd.DI | apply Kd.DJ | apply Kd.EX)); exact Kd.H_ wC.out (fun _ hk => ⟨⟨hk.1, ⟨hk.2.2.1, hk.2.2.2⟩⟩, hk.2.1⟩)) hg hat)
        have zB := ak (cZ (g := CQ) (o := .cells #[.string F6, .string F7, .slice none 0 0] 61 (0, 0)) (ub kY.out) hg (Kd.oG jq.out kY.out (by decide)))
        have CJ := ak (cZ (g := wW) (o := .cells #[.string NS, .string NT, wX] 61 (0, 0)) (ub mG.out) hg (Kd.oG jq.out mG.out (by decide)))
        have GX := ak (hb)
        have IZ := ak (ho)
        clear G_ wC kY mG HB jq
        have G_ := yQ
        have wC := yR
        have kY := zB
        have mG := CJ
        have HB := GX
        have aqJ := IZ
        clear yQ yR zB CJ GX IZ ho hb hg hat
        obtain ⟨aqK, aqL, adO⟩ := Kd.aI aqJ.out
        (first | subst adO | (injection adO with oM uz oN; have uD := oM.symm; have uF := oN.symm; clear oM uz oN; subst uD; subst uF))
        refine hK.out _ _ ?_
        clear hK K
        refine D9 (a' := ?_) ?_ ?_
        rotate_left
        ·
         show Act.put _ (some 76) _ = _
         simp only [Act.put, yT, yU, l_c, iK, jI]
         rfl
        refine pl 11 ?_
        refine GY (i := 12) (N := none) #[true, true, true, true, true, true, true, true, true, true, true, true, true] rfl rfl (Ac D8.out (by kernel_rfl)) (by decide) (fun K hK => ?_)
        have ayD : w41.cell? ⟨wW, 2, none⟩ = some (wX) := (aA mG.out 2).trans rfl
        have aqM := gY mG.out 2
        have agD := zS.out
        have agE := zT.out
        refine GZ (w1 := ?_) (by rfl) rfl ?_ ?_
        rotate_left
        ·
         go_simp
         rfl
        refine hK.out _ _ ?_
        clear hK K
        refine G5 (yA D8.out (by kernel_rfl)) ?_
        try go_wp2
        go_roundg ayA
        case measure => have := xI.out; have := aqH.out; omega
        case rel => exact ⟨_, _, _, _, _, rs, H', ⟨by have := xI.out; have := aqH.out; omega⟩, ⟨by (with_reducible repeat (first | apply Kd.DI | apply Kd.DJ | apply Kd.EX)); exact Kd.H_ (Kd.aqN (p := ⟨wW, 2, none⟩) (Kd.H_ wC.out (fun k_ hk => (⟨hk, hk.1.2.2⟩ : _ ∧ k_ ≠ wW))) (fun _ hk => hk.2) (.slice aqK ayB.length aqL)) (fun _ hk => ⟨hk.1.2, ⟨hk.1.1.2.1, hk.1.1.2.2⟩⟩)⟩, ⟨rr⟩, ⟨bq⟩, ⟨bq⟩, ⟨bb⟩⟩
    ·
     replace H := sb H
     rcases H with ⟨rfl, H⟩ | ⟨rfl, H⟩
     ·
      replace H := bd H; obtain ⟨aqw, A45, H⟩ := H; replace H := sb H
      rcases H with ⟨rfl, H⟩ | ⟨rfl, H⟩
      ·
       obtain ⟨rfl, rfl, rfl, rfl⟩ := s4 H
       have aie := zT.out
       have aif := zS.out
       have z48 := kK mG.out
       obtain ⟨abu, abv, adP⟩ := Kd.aI jq.out
       subst adP
       go_wp2_with (go_at_call 95; refine mB (bJ.calls (cu ((Kd.ay jq.out).2.2)) ((Kd.ay jq.out).2.1) A45.out) ?_; intro w50 hb; replace wC := vb wC hb; replace jq := rb jq hb; replace kY := kb kY hb; replace mG := kb mG hb; replace HB := bz HB hb; clear hb; have z51 := kK mG.out; have z52 := kK kY.out)
       refine bodyPost_ret (lC rfl _ _ CQ 61 #[.string NS, .string NT, .slice abu wB.length abv] (0, 0) _ rfl bq Tryz.underlying61 rfl (by kernel_rfl)) rfl ?_
       exact ⟨_, er, rr, bb⟩
      ·
       obtain ⟨rfl, rfl, rfl, rfl⟩ := s4 H
       have aqO := zT.out
       have aqP := zS.out
       have z54 := kK mG.out
       obtain ⟨aE0, aE1, ayE⟩ := Kd.aI jq.out
       subst ayE
       go_wp2_with (go_at_call 95; refine mB (bJ.calls (cu ((Kd.ay jq.out).2.2)) ((Kd.ay jq.out).2.1) A45.out) ?_; intro w56 hb; replace wC := vb wC hb; replace jq := rb jq hb; replace kY := kb kY hb; replace mG := kb mG hb; replace HB := bz HB hb; clear hb; have z57 := kK kY.out)
       refine bodyPost_ret (lC rfl _ _ CQ 61 #[.string (⟨#[]⟩ : ByteArray), .string (⟨#[]⟩ : ByteArray), .slice none 0 0] (0, 0) _ rfl bq Tryz.underlying61 rfl (by kernel_rfl)) rfl ?_
       exact ⟨_, er, nx, bb⟩
     ·
      obtain ⟨rfl, rfl, rfl, rfl⟩ := s4 H
      have aBs := zS.out
      have aBt := zT.out
      have z59 := kK kY.out
      go_wp2
      refine bodyPost_ret (lC rfl _ _ CQ 61 #[.string (⟨#[]⟩ : ByteArray), .string (⟨#[]⟩ : ByteArray), .slice none 0 0] (0, 0) _ rfl bq Tryz.underlying61 rfl (by kernel_rfl)) rfl ?_
      exact ⟨_, er, nx, bb⟩
 ·
  obtain ⟨rfl, rfl, rfl, rfl⟩ := s4 H
  go_enter Tryz.func48, Tryz.ntmps48
  go_wp2_with (first | (refine gG 2 ?_; refine bX HB 2 #[.string (⟨#[]⟩ : ByteArray), .string (⟨#[]⟩ : ByteArray), .slice none 0 0] 61 ?_; intro CQ QC kY aqA hb; replace HB := bs HB hb; clear hb) | (refine gD Tryz.func89 (bg.calls A2.out) ?_; intro QC hb; replace kY := kb kY hb; replace HB := bz HB hb; clear hb; have aJy := kK kY.out))
  refine bodyPost_ret (lC rfl _ _ CQ 61 #[.string (⟨#[]⟩ : ByteArray), .string (⟨#[]⟩ : ByteArray), .slice none 0 0] (0, 0) _ rfl bq Tryz.underlying61 rfl (by kernel_rfl)) rfl ?_
  exact ⟨_, er, nx, bb⟩
def lY.f (a0 : Int) : Option (Bool) := (bC.f a0).bind fun aqQ => (if aqQ = true then (some true) else ((dF.f a0).bind fun aqR => (some aqR)))
theorem lY.calls {a0 : Int} {r : Bool} {w : World} (h : lY.f a0 = some r) :
  Calls Tryz.prog 139 #[.int .u8 a0] w fun e w' => e = .returned (.bool r) ∧ dP w w' := by
 unfold lY.f at h; have H := h
 clear h
 replace H := bd H; obtain ⟨aqQ, A2, H⟩ := H; replace H := sb H
 rcases H with ⟨rfl, H⟩ | ⟨rfl, H⟩
 ·
  obtain rfl := s1 H
  go_enter Tryz.func139, Tryz.ntmps139
  go_wp2_with (refine gA Tryz.func140 (bC.calls A2.out) ?_; intro nd)
  go_ret
  exact ⟨rs, dn⟩
 ·
  replace H := bd H; obtain ⟨aqR, A4, H⟩ := H
  obtain rfl := s1 H
  go_enter Tryz.func139, Tryz.ntmps139
  go_wp2_with (first | (refine gA Tryz.func140 (bC.calls A2.out) ?_; intro nd) | (go_at_call 141; refine mA (dF.calls A4.out) ?_; intro nd))
  go_ret
  exact ⟨rs, dn⟩
def dw.l0 : Nat → ByteArray → Int → Int → Option (Bool)
 | 0, _, _, _ => none
 | k + 1, x0, x7, x8 => if x8 < x7 then (if 0 ≤ x8 then (if x8 < (x0.size : Int) then ((lY.f (bt x0 x8)).bind fun aqS => (if aqS = true then (dw.l0 k x0 x7 (wrap64 (x8 + 1))) else (some false))) else (none)) else (none)) else (some true)
def dw.f (k : Nat) (a0 : ByteArray)  : Option (Bool) := dw.l0 k a0 (a0.size : Int) 0
theorem dw.calls {k : Nat} {a0 : ByteArray} {r : Bool} {w : World} (h : dw.f k a0 = some r) :
  Calls Tryz.prog 138 #[.string a0, .func (.func 139) #[] #[]] w fun e w' => e = .returned (.bool r) ∧ dP w w' := by
 unfold dw.f at h; have H := h
 clear h
 have H' := ak H; clear H
 go_enter Tryz.func138, Tryz.ntmps138
 go_wp2
 go_loopg [8] k (fun kq v8 w' => ∃ (kL : Int), v8 = .int .i64 kL ∧ ah (dw.l0 kq a0 (a0.size : Int) kL = some r) ∧ ah (kq ≤ k) ∧ dP w w')
 case atStart => exact ⟨_, rs, H', ⟨Nat.le_refl _⟩, dn⟩
 case round =>
  clear H'
  obtain ⟨kL, rfl, HA, xI, ⟨m1, rfl⟩⟩ := hrel
  cases gk with
  | zero => exact zz HA.out
  | succ k1 =>
   obtain ⟨H⟩ := HA
   simp only [dw.l0] at H
   replace H := sd H
   rcases H with ⟨iO, H⟩ | ⟨iO, H⟩
   ·
    replace H := oq H; obtain ⟨qR, H⟩ := H; replace H := oq H; obtain ⟨mW, H⟩ := H; replace H := bd H; obtain ⟨aqS, A7, H⟩ := H; replace H := sb H
    rcases H with ⟨rfl, H⟩ | ⟨rfl, H⟩
    ·
     have H' := ak H; clear H
     obtain ⟨p6, q6, hx6⟩ := bx a0 kL
     go_wp2_with (go_at_call 139; refine mA (lY.calls A7.out) ?_; intro nd)
     go_roundg k1
     case measure => exact kl
     case rel => exact ⟨_, rs, H', ⟨kl⟩, dn⟩
    ·
     obtain rfl := s1 H
     obtain ⟨p6, q6, hx6⟩ := bx a0 kL
     go_wp2_with (go_at_call 139; refine mA (lY.calls A7.out) ?_; intro nd)
     go_ret
     exact ⟨rs, dn⟩
   ·
    obtain rfl := s1 H
    go_wp2
    go_ret
    exact ⟨rs, dn⟩
def jU.f (k : Nat) (a0 : ByteArray) : Option (Bool) := if (a0.size : Int) ≥ 1 then (if (a0.size : Int) ≤ 20 then ((dw.f k a0).bind fun aqT => (some aqT)) else (some false)) else (some false)
theorem jU.calls {k : Nat} {a0 : ByteArray} {r : Bool} {w : World} (h : jU.f k a0 = some r) :
  Calls Tryz.prog 96 #[.string a0] w fun e w' => e = .returned (.bool r) ∧ dP w w' := by
 unfold jU.f at h; have H := h
 clear h
 replace H := sp H
 rcases H with ⟨c2, H⟩ | ⟨c2, H⟩
 ·
  have ou : decide (1 ≤ (a0.size : Int)) = true := decide_eq_true c2
  have vK : decide (1 ≤ a0.size) = true := decide_eq_true (by omega)
  clear c2
  replace H := sp H
  rcases H with ⟨c3, H⟩ | ⟨c3, H⟩
  ·
   have iO := decide_eq_true c3
   have yK : decide (a0.size ≤ 20) = true := decide_eq_true (by omega)
   clear c3
   replace H := bd H; obtain ⟨aqT, A4, H⟩ := H
   obtain rfl := s1 H
   go_enter Tryz.func96, Tryz.ntmps96
   go_wp2_with (go_at_call 138; refine mA (dw.calls A4.out) ?_; intro nd)
   go_ret
   exact ⟨rs, dn⟩
  ·
   have iO := decide_eq_false c3
   have yK : decide (a0.size ≤ 20) = false := decide_eq_false (by omega)
   clear c3
   obtain rfl := s1 H
   go_enter Tryz.func96, Tryz.ntmps96
   go_wp2
   go_ret
   exact ⟨rs, dn⟩
 ·
  have ou : decide (1 ≤ (a0.size : Int)) = false := decide_eq_false c2
  have vK : decide (1 ≤ a0.size) = false := decide_eq_false (by omega)
  clear c2
  obtain rfl := s1 H
  go_enter Tryz.func96, Tryz.ntmps96
  go_wp2
  go_ret
  exact ⟨rs, dn⟩
end Go.Proofs.YtncdadcmghglkaaGreatDoor.PFnPartLines
