/- Printed walks; conditions: those in each statement. -/
import Derived.Test.YtncdadcmghglkaaGreatDoorVFnCountPartsQt
import Derived.Test.YtncdadcmghglkaaGreatDoorVFnCountPartsYt
import Derived.Test.YtncdadcmghglkaaGreatDoorPFnCountPartsx0
import Derived.Test.YtncdadcmghglkaaGreatDoorPFnCountPartsx1
import Derived.Test.YtncdadcmghglkaaGreatDoorPFnCountPartsx2
import Derived.Test.YtncdadcmghglkaaGreatDoorPFnCountPartsx3
import Derived.Test.YtncdadcmghglkaaGreatDoorPFnCountPartsx4
import Derived.Test.YtncdadcmghglkaaGreatDoorPFnCountPartsx5
-- short
-- dense
-- sq
-- sq2
namespace Go.Proofs.YtncdadcmghglkaaGreatDoor.PFnCountParts
open Go.RowKit Go.Proofs.YtncdadcmghglkaaGreatDoor.X Go.Proofs.YtncdadcmghglkaaGreatDoorW.bI Go.Proofs.YtncdadcmghglkaaGreatDoorW.gI Go.Proofs.YtncdadcmghglkaaGreatDoorW.iL
attribute [local go_sem] kN kP mF mG jB jC kQ kR   -- for this text's walks alone
set_option linter.unusedVariables false
set_option maxHeartbeats 8000000
set_option maxRecDepth 100000
set_option linter.unusedSimpArgs false
mutual
def bV.l0 : Nat → Bool → List ByteArray → Int → Int → ByteArray → ByteArray → List (gY) → Option (ByteArray × ByteArray × (List (gY)) × Bool)
 | 0, _, _, _, _, _, _, _ => none
 | k + 1, x7, x37, x38, x39, DV, DW, BL => if x39 < x38 then (if 0 ≤ x39 then (if x39 < (x37.length : Int) then ((strings_Cut.f (o8 ByteArray.empty x37 x39) (⟨#[61]⟩ : ByteArray)).bind fun V9 => ((dK.f k V9.2.1).bind fun V_ => (if V9.2.2 = true then (if V_.2 = true then (bV.j1 k x7 V9.1 V_.1 x37 x38 x39 ((V_.1.length : Int) != 1) DV DW BL) else (bV.j1 k x7 V9.1 V_.1 x37 x38 x39 true DV DW BL)) else (bV.j1 k x7 V9.1 V_.1 x37 x38 x39 true DV DW BL)))) else (none)) else (none)) else (if x7 = true then ((bM.f k DV DW BL).bind fun auA => (if auA = true then (some (DV, DW, BL, true)) else (some ((⟨#[]⟩ : ByteArray), (⟨#[]⟩ : ByteArray), ([] : List (gY)), false)))) else (some ((⟨#[]⟩ : ByteArray), (⟨#[]⟩ : ByteArray), ([] : List (gY)), false)))
def bV.j1 : Nat → Bool → ByteArray → List ByteArray → List ByteArray → Int → Int → Bool → ByteArray → ByteArray → List (gY) → Option (ByteArray × ByteArray × (List (gY)) × Bool)
 | 0, _, _, _, _, _, _, _, _, _, _ => none
 | k + 1, x7, x11, x14, x37, x38, x39, x64, DV, DW, BL => if x64 = true then (some ((⟨#[]⟩ : ByteArray), (⟨#[]⟩ : ByteArray), ([] : List (gY)), false)) else ((kV.f x11 (⟨#[32]⟩ : ByteArray)).bind fun anA => ((iU.f anA).bind fun abY => (if 0 < (x14.length : Int) then (if BL.length < 4398046511104 then (bV.l0 k x7 x37 x38 (wrap64 (x39 + 1)) DV DW (BL ++ [(⟨abY, o8 ByteArray.empty x14 0⟩ : gY)])) else (none)) else (none))))
end
def bV.f (k : Nat) (a0 : ByteArray) : Option (ByteArray × ByteArray × (List (gY)) × Bool) := (bC.f k a0).bind fun auB => (if auB = true then ((dL.f k a0 59).bind fun Fe => (if 0 < (Fe.length : Int) then ((kV.f (o8 ByteArray.empty Fe 0) (⟨#[32]⟩ : ByteArray)).bind fun auC => ((strings_Cut.f auC (⟨#[47]⟩ : ByteArray)).bind fun ae9 => ((iU.f ae9.1).bind fun NT => ((iU.f ae9.2.1).bind fun NU => (if 1 ≤ (Fe.length : Int) then ((some (Fe.drop 1 : List ByteArray)).bind fun DX => (bV.l0 k ae9.2.2 DX (DX.length : Int) 0 NT NU ([] : List (gY)))) else (none)))))) else (none))) else (some ((⟨#[]⟩ : ByteArray), (⟨#[]⟩ : ByteArray), ([] : List (gY)), false)))
def bV.T13 : Bool × List (List Nat × List Nat) := (true, [([], []), ([0], [0]), ([], []), ([2], [2]), ([3, 3], [3]), ([], []), ([5], [5]), ([6], [6]), ([4, 7], [4, 7]), ([8], [8]), ([1, 9, 4], [1, 9]), ([0, 1, 2, 3, 4, 5, 6, 7, 8, 9, 10], []), ([11, 10, 10, 0, 1, 2, 3, 4, 5, 6, 7, 8, 9, 10], [10, 11])])
def bV.B13 : List Nat := [0, 1, 0, 4, 12, 0, 32, 96, 252, 508, 1023, 2047, 4095]
theorem bV.Y3 : sJ .any (opsOf Tryz.f48 13) = bV.T13 := by kernel_rfl
theorem bV.TJ : nV bV.T13.2 bV.B13 = true := by kernel_rfl
theorem bV.calls {k : Nat} {a0 r1 r2 : ByteArray} {r3 : List (gY)} {r4 : Bool} {w : World} (Bl : MaxOk w) (h : bV.f k a0 = some (r1, r2, r3, r4)) :
  Calls Tryz.prog 48 #[.string a0] w fun e w' => ∃ EK : Value, e = .returned (.tuple #[.agg #[.string r1, .string r2, EK], .bool r4]) ∧ Kd.R qJ 69 w' w.heap.size (fun _ => True) EK r3 ∧ Below w.heap.size w w' := by
 have Vu := Tryz.underlying61
 have Dt := Tryz.underlying69
 have HG := ak Bl
 clear Bl
 have HB := ak (Below.refl w.heap.size w)
 unfold bV.f at h; have H := h
 clear h
 replace H := bd H; obtain ⟨auB, A2, H⟩ := H; replace H := sb H
 rcases H with ⟨rfl, H⟩ | ⟨rfl, H⟩
 ·
  replace H := bd H; obtain ⟨Fe, A4, H⟩ := H; replace H := nn H; obtain ⟨c5, H⟩ := H
  have nR := decide_eq_true c5
  have Ji : decide (0 < Fe.length) = true := decide_eq_true (by omega)
  clear c5
  replace H := bd H; obtain ⟨auC, A6, H⟩ := H; replace H := bd H
  obtain ⟨⟨aH5, aH6, auD⟩, A7, H⟩ := H
  (try dsimp only at H)
  replace H := bd H; obtain ⟨NT, A8, H⟩ := H; replace H := bd H; obtain ⟨NU, A9, H⟩ := H; replace H := zK H; obtain ⟨oC, sK, H⟩ := H
  replace H := ny H
  obtain ⟨DX, ak1, H⟩ := H
  have H' := ak H; clear H
  go_enter Tryz.func48, Tryz.ntmps48
  go_wp2_with (first | (refine gG 2 ?_; refine bX HB 2 #[.string (⟨#[]⟩ : ByteArray), .string (⟨#[]⟩ : ByteArray), .slice none 0 0] 61 ?_; intro C9 SN lI auE hb; replace HB := bs HB hb; clear hb) | (refine gD Tryz.func89 (bC.calls A2.out) ?_; intro SN hb; replace lI := kb lI hb; replace HB := bz HB hb; clear hb) | (refine gV Tryz.func90 (dL.calls A4.out) ?_; rintro aH7 w12 ⟨ho0, hb⟩; have yV := ak (Kd.aA ho0 (aj bb)); replace lI := kb lI hb; replace HB := bz HB hb; clear hb; (try clear ho0); obtain ⟨NH, CO, OL⟩ := Kd.aN yV.out; subst OL; have ae_ : 0 ≤ (0 : Int) := (by omega); have afa : 0 < (Fe.length : Int) := of_decide_eq_true (by assumption); obtain ⟨Wh, e241, OA⟩ := Kd.kF (Kd.au yV.out).2.2 0 ae_ afa; cases e241; have aCM : (0 < Fe.length) = True := eq_true (by omega); (try rw [show ((0 : Int)).toNat = 0 from rfl] at OA); (try rw [Addr.add_zero'] at OA); replace ae_ := eq_true ae_; replace afa := eq_true afa) | (refine gD Tryz.func92 (kV.calls A6.out) ?_; intro w12 hb; replace yV := rb yV hb; replace lI := kb lI hb; replace HB := bz HB hb; clear hb) | (refine gD Tryz.func91 (strings_Cut.calls ?fG A7.out) ?_; (case fG => first | exact HG.out | exact MaxOk.below HG.out bb | (repeat (first | exact HG.out | apply MaxOk.drewN | apply MaxOk.drew))); intro w12 hb; replace yV := rb yV hb; replace lI := kb lI hb; replace HB := bz HB hb; clear hb) | (refine gB Tryz.func93 (iU.calls A8.out) ?_; intro Q8 hb; replace yV := rb yV hb; replace lI := kb lI hb; replace HB := bz HB hb; clear hb) | (refine gB Tryz.func93 (iU.calls A9.out) ?_; intro w15 hb; replace yV := rb yV hb; replace lI := kb lI hb; replace HB := bz HB hb; clear hb) | (refine gG 8 ?_; refine bY HB 8 #[.string (⟨#[]⟩ : ByteArray), .string (⟨#[]⟩ : ByteArray), .slice none 0 0] 61 ?_; intro xO w16 nC aCN hg hb; have zX := AZ lI hg; have zY := A_ lI hg; replace yV := rb yV hb; replace lI := kb lI hb; replace HB := bz HB hb; clear hb hg; have aj7 := zY.out; have aj8 := zX.out; have z18 := jW nC.out) | ((with_reducible refine XY (t := 61) (p := 8) rfl ?_); refine Wi (t := 61) (p := 8) (v := ?azK) (w1 := (((w16.setCell ⟨xO, 0, none⟩ (.string NT)).setCell ⟨xO, 1, none⟩ (.string NU)).setCell ⟨xO, 2, none⟩ (.slice none 0 0))) ?hg ?ho ?hn ?hr ?_; (case ho => rfl); (case hg => rfl); (case hn => rfl); (case hr => first | (go_simp; done) | (go_simp; rfl)); intro Xq hw; have yP : ah (Kd.R Kd.string 9 Xq w.heap.size (fun _ => True) (.slice (some Wh) Fe.length CO) Fe) := ⟨(by rw [hw]; exact (ur (Kd.aZ (Kd.iW (p := ⟨xO, 2, none⟩) (Kd.iW (p := ⟨xO, 1, none⟩) (Kd.iW (p := ⟨xO, 0, none⟩) (Kd.mJ yV.out nC.out (by decide)) (fun _ hk => hk.2) (.string NT)) (fun _ hk => hk.2) (.string NU)) (fun _ hk => hk.2) (.slice none 0 0)) (fun _ hk => trivial))))⟩; have yQ : ah (Xq.heap[C9]? = some (.cells #[.string (⟨#[]⟩ : ByteArray), .string (⟨#[]⟩ : ByteArray), .slice none 0 0] 61 (0, 0))) := ⟨(by rw [hw]; exact bq)⟩; have zA : ah (Xq.heap[xO]? = some (.cells #[.string NT, .string NU, .slice none 0 0] 61 (0, 0))) := ⟨(by rw [hw]; exact bq)⟩; have CS : ah (Below w.heap.size w Xq) := ⟨(by rw [hw]; exact bb)⟩; clear hw; clear yV; clear lI; clear nC; clear HB; have yV := yP; have lI := yQ; have nC := zA; have HB := CS; clear yP yQ zA CS; have q20 : (1 : Int) ≤ ((Fe.length : Int) : Int) := of_decide_eq_true (by assumption); obtain ⟨aH8, ak2, _, ak3, _⟩ := info_parts info9; have OB : Fe.length ≤ CO := (Kd.au yV.out).2.1; have auF : Kd.F Kd.string _ _ (some Wh) Fe.length Fe := (Kd.ahJ (base := w.heap.size) (Kd.R_V (Kd.mJ (Kd.mJ (yV.out) lI.out (by decide)) nC.out (by decide)))).2.2; have anB := afb (P := Tryz.prog) 23 9 .i64 Tryz.underlying23 ak2 1 ak3 (some Wh) Fe.length CO 1 (by omega) q20; have afc := Kd.auG (m := (1 : Int).toNat) (c := CO) auF (by omega) OB; obtain ⟨A20, hA20⟩ : ∃ A1, A1 = (if CO = (1 : Int).toNat then (some Wh) else ((some Wh) : Option Addr).map (·.add ((1 : Int).toNat * 1))) := ⟨_, rfl⟩; obtain ⟨c20, ahK⟩ : ∃ c1, c1 = CO - (1 : Int).toNat := ⟨_, rfl⟩; have afd : DX.length = Fe.length - (1 : Int).toNat := (by rw [ak1.out, List.length_drop] <;> omega); rw [show (Fe).drop (1 : Int).toNat = DX from ak1.out.symm] at afc; replace afc : Kd.F Kd.string _ _ A20 DX.length DX := (by rw [hA20]; exact afc); rw [← afd, ← hA20, ← ahK] at anB; have auH := ak (show Kd.V Kd.string 9 _ w.heap.size _ (.slice A20 DX.length c20) DX from Kd.azL (by rw [afd, ahK]; exact Nat.sub_le_sub_right OB _) afc); have aCO := ak (show DX.length ≤ c20 from by rw [afd, ahK]; exact Nat.sub_le_sub_right OB _); clear afc auF OB ak2 ak3 ahK; have aH9 := ak afd; have aH_ := ak hA20; clear afd hA20; replace q20 := eq_true q20))
  go_loopg [39] k (fun kq v39 w' => ∃ (PY : Int) (Gf : ByteArray) (Gg : ByteArray) (wV : List (gY)) (xP : Value), v39 = .int .i64 PY ∧ ah (bV.l0 kq auD DX (DX.length : Int) PY NT NU wV = some (r1, r2, r3, r4)) ∧ ah (kq ≤ k) ∧ ah (Kd.V Kd.string 9 w' w.heap.size (fun k_ => some k_ ≠ (xP : Value).ownBlock ∧ k_ ≠ C9 ∧ k_ ≠ xO) (.slice A20 DX.length c20) DX) ∧ ah (Kd.R qJ 69 w' w.heap.size (fun _ => True) xP wV) ∧ ah (w'.heap[C9]? = some (.cells #[.string Gf, .string Gg, (.slice none 0 0)] 61 (0, 0))) ∧ ah (w'.heap[xO]? = some (.cells #[.string NT, .string NU, xP] 61 (0, 0))) ∧ ah (Below w.heap.size w w'))
  case atStart => exact ⟨_, _, _, _, _, rs, H', ⟨Nat.le_refl _⟩, ⟨by (with_reducible repeat (first | apply Kd.DY | apply Kd.DZ | apply Kd.Fg)); exact Kd.Ih auH.out (fun _ hk => ⟨(by simp [Value.ownBlock]), ⟨hk.1.2, hk.2⟩⟩)⟩, ⟨nx⟩, ⟨ub lI.out⟩, ⟨ub nC.out⟩, ⟨bb⟩⟩
  case round =>
   clear H'
   try clear c1
   try clear c5
   try clear nR
   try clear Ji
   try clear oC
   try clear sK
   try clear c20
   try clear q20
   try clear OA
   try clear ae_
   try clear q20
   try clear afa
   obtain ⟨PY, Gf, Gg, wV, xP, rfl, HA, xu, wW, jF, lI, nC, HB⟩ := hrel
   cases gk with
   | zero => exact zz HA.out
   | succ k1 =>
    obtain ⟨H⟩ := HA
    simp only [bV.l0] at H
    replace H := sd H
    rcases H with ⟨Bo, H⟩ | ⟨Bo, H⟩
    ·
     replace H := oM H; obtain ⟨EW, H⟩ := H; replace H := oM H; obtain ⟨Ae, H⟩ := H; replace H := bd H
     obtain ⟨⟨auI, aIa, aIb⟩, XM, H⟩ := H
     (try dsimp only at H)
     replace H := bd H
     obtain ⟨⟨PZ, aIc⟩, A25, H⟩ := H
     (try dsimp only at H)
     have anC := ak H
     clear H
     have ahL := zi PY
     have ahM := zj PY DX.length
     obtain ⟨auJ, azM, ahN⟩ := Kd.kF (Kd.afe wW.out).2.2 PY ahL ahM
     cases azM
     replace ahL := eq_true ahL
     replace ahM := eq_true ahM
     go_upto_region 11 with (first | (refine gA Tryz.func91 (strings_Cut.calls ?fG XM.out) ?_; (case fG => first | exact HG.out | exact MaxOk.below HG.out bb | (repeat (first | exact HG.out | apply MaxOk.drewN | apply MaxOk.drew))); intro nd) | (refine gV Tryz.func94 (dK.calls A25.out) ?_; rintro auK w27 ⟨ho0, hb⟩; have aaU := ak (Kd.aA ho0 (aj bb)); replace wW := ak (Kd.aff (by (with_reducible repeat (first | apply Kd.DY | apply Kd.DZ | apply Kd.Fg)); exact wW.out) (Kd.fQ ho0) hb); replace jF := rb jF hb; replace lI := kb lI hb; replace nC := kb nC hb; replace HB := bz HB hb; clear hb; (try clear ho0)))
     (try simp only [Act.put, qW, qX, l_c])
     go_cut [64] (fun v64 wc => ∃ (kq : Nat) (XZ : Bool), v64 = .bool XZ ∧ ah (bV.j1 kq auD auI PZ DX (DX.length : Int) PY XZ NT NU wV = some (r1, r2, r3, r4)) ∧ ah (kq ≤ k1) ∧ ah (Kd.R Kd.string 9 wc w.heap.size (fun _ => True) auK PZ) ∧ ah (Kd.V Kd.string 9 wc w.heap.size (fun k_ => some k_ ≠ (auK : Value).ownBlock ∧ some k_ ≠ (xP : Value).ownBlock ∧ k_ ≠ C9 ∧ k_ ≠ xO) (.slice (some auJ) DX.length c20) DX) ∧ ah (Kd.R qJ 69 wc w.heap.size (fun _ => True) xP wV) ∧ ah (wc.heap[C9]? = some (.cells #[.string Gf, .string Gg, (.slice none 0 0)] 61 (0, 0))) ∧ ah (wc.heap[xO]? = some (.cells #[.string NT, .string NU, xP] 61 (0, 0))) ∧ ah (Below w.heap.size w wc))
     case first =>
      have H := anC.out
      clear anC
      replace H := sb H
      rcases H with ⟨rfl, H⟩ | ⟨rfl, H⟩
      ·
       replace H := sb H
       rcases H with ⟨rfl, H⟩ | ⟨rfl, H⟩
       ·
        have H' := ak H; clear H
        obtain ⟨ash, asi, ahc⟩ := Kd.aN aaU.out
        subst ahc
        go_wp2
        go_meet
        case rel => exact ⟨_, _, rs, H', ⟨kl⟩, ⟨ur aaU.out⟩, ⟨by (with_reducible repeat (first | apply Kd.DY | apply Kd.DZ | apply Kd.Fg)); exact Kd.Ih wW.out (fun _ hk => ⟨hk.2, ⟨hk.1.1, ⟨hk.1.2.1, hk.1.2.2⟩⟩⟩)⟩, ⟨ur jF.out⟩, ⟨ub lI.out⟩, ⟨ub nC.out⟩, ⟨bb⟩⟩
       ·
        have H' := ak H; clear H
        go_wp2
        go_meet
        case rel => exact ⟨_, _, rs, H', ⟨kl⟩, ⟨ur aaU.out⟩, ⟨by (with_reducible repeat (first | apply Kd.DY | apply Kd.DZ | apply Kd.Fg)); exact Kd.Ih wW.out (fun _ hk => ⟨hk.2, ⟨hk.1.1, ⟨hk.1.2.1, hk.1.2.2⟩⟩⟩)⟩, ⟨ur jF.out⟩, ⟨ub lI.out⟩, ⟨ub nC.out⟩, ⟨bb⟩⟩
      ·
       have H' := ak H; clear H
       go_wp2
       go_meet
       case rel => exact ⟨_, _, rs, H', ⟨kl⟩, ⟨ur aaU.out⟩, ⟨by (with_reducible repeat (first | apply Kd.DY | apply Kd.DZ | apply Kd.Fg)); exact Kd.Ih wW.out (fun _ hk => ⟨hk.2, ⟨hk.1.1, ⟨hk.1.2.1, hk.1.2.2⟩⟩⟩)⟩, ⟨ur jF.out⟩, ⟨ub lI.out⟩, ⟨ub nC.out⟩, ⟨bb⟩⟩
     case rest =>
      clear anC
      try clear c1
      try clear c5
      try clear nR
      try clear Ji
      try clear oC
      try clear sK
      try clear c20
      try clear q20
      try clear Bo
      try clear EW
      try clear Ae
      try clear OA
      try clear ahN
      try clear ae_
      try clear ahL
      try clear q20
      try clear afa
      try clear ahM
      obtain ⟨kq, XZ, rfl, HA, auL, Hg, wW, jF, lI, nC, HB⟩ := hcut
      cases kq with
      | zero => exact zz HA.out
      | succ azN =>
       obtain ⟨H⟩ := HA
       simp only [bV.j1] at H
       replace H := sb H
       rcases H with ⟨rfl, H⟩ | ⟨rfl, H⟩
       ·
        obtain ⟨rfl, rfl, rfl, rfl⟩ := s4 H
        have aj_ := zX.out
        have akb := zY.out
        have z33 := jW lI.out
        go_wp2
        refine bodyPost_ret (lM rfl _ _ C9 61 #[.string (⟨#[]⟩ : ByteArray), .string (⟨#[]⟩ : ByteArray), .slice none 0 0] (0, 0) _ rfl bq Tryz.underlying61 rfl (by kernel_rfl)) rfl ?_
        exact ⟨_, er, nx, bb⟩
       ·
        replace H := bd H; obtain ⟨anA, A34, H⟩ := H; replace H := bd H; obtain ⟨abY, A35, H⟩ := H; replace H := nn H; obtain ⟨c36, H⟩ := H
        have ajh := decide_eq_true c36
        have auu : decide (0 < PZ.length) = true := decide_eq_true (by omega)
        clear c36
        replace H := nl H; obtain ⟨aeJ, H⟩ := H
        obtain ⟨azO, ak4⟩ := nm (wV ++ [(⟨abY, o8 ByteArray.empty PZ 0⟩ : gY)])
        rw [← ak4.out] at H
        have H' := ak H; clear H
        try go_wp2
        replace Hg := ak (Kd.mD Hg.out)
        replace wW := ak (Kd.Fg wW.out)
        replace jF := ak (Kd.mD jF.out)
        replace lI := ak (bn lI.out)
        replace nC := ak (bn nC.out)
        replace HB := ak (iH HB.out)
        obtain ⟨abT, VZ, XO⟩ := Kd.aN Hg.out
        (first | subst XO | (injection XO with qR wZ qU; have xg := qR.symm; have xk := qU.symm; clear qR wZ qU; subst xg; subst xk))
        have anD : 0 ≤ (0 : Int) := (by omega)
        have anE : 0 < (PZ.length : Int) := of_decide_eq_true (by assumption)
        obtain ⟨ak5, azP, OC⟩ := Kd.kF (Kd.au Hg.out).2.2 0 anD anE
        cases azP
        have aCP : (0 < PZ.length) = True := eq_true (by omega)
        (try rw [show ((0 : Int)).toNat = 0 from rfl] at OC)
        (try rw [Addr.add_zero'] at OC)
        replace anD := eq_true anD
        replace anE := eq_true anE
        refine Ci (n := 13) (S := fun w' => w'.cell? ⟨xO, 0, none⟩ = some (.string NT) ∧ w'.cell? ⟨xO, 1, none⟩ = some (.string NU) ∧ w'.cell? ⟨xO, 2, none⟩ = some (xP) ∧ w'.cell? ak5 = some (.string (o8 ByteArray.empty PZ 0))) (ds := [10, 12]) #[false, false, false, false, false, false, false, false, false, false, false, false, false] (by kernel_rfl) rfl rfl ⟨(aG nC.out 0).trans rfl, (aG nC.out 1).trans rfl, (aG nC.out 2).trans rfl, OC⟩ (fun hHeld => ?_); refine uq bV.Y3 bV.TJ (fun t_ Xp => ?_)
        generalize wc.drew = w38 at Hg wW jF lI nC HB OC hHeld ⊢
        refine pl 0 ?_
        refine pl 2 ?_
        refine pl 5 ?_
        refine pl 6 ?_
        refine tk 1 ?_
        refine tk 7 ?_
        refine o1 3 (fun K hK => ?_)
        refine yR Tryz.func92 (by kernel_rfl) rfl #[.string auI, .string (⟨#[32]⟩ : ByteArray)] (by rfl) rfl rfl ma ?_
        with_reducible refine (kV.calls A34.out).mono ?_
        rintro e w' ⟨rfl, ⟨nd, rfl⟩⟩
        refine ⟨_, rfl, ?_⟩
        refine hK.out _ _ ⟨(aG nC.out 0).trans rfl, (aG nC.out 1).trans rfl, (aG nC.out 2).trans rfl, hHeld.2.2.2⟩ (fun hHeld => ?_)
        clear hK K
        refine nrm ?_
        refine o1 4 (fun K hK => ?_)
        refine yR Tryz.func93 (by kernel_rfl) rfl #[.string anA] (by rfl) rfl rfl ma ?_
        with_reducible refine (iU.calls A35.out).mono ?_
        rintro e w40 ⟨rfl, hb⟩
        have alW := (hb.cell (World.block_lt_of_cell? _ _ (hHeld.2.2.2))).trans (hHeld.2.2.2)
        refine ⟨_, rfl, ?_⟩
        replace Hg := rb Hg hb
        replace wW := vb wW hb
        replace jF := rb jF hb
        replace lI := kb lI hb
        replace nC := kb nC hb
        replace HB := bz HB hb
        try clear hb
        refine hK.out _ _ ⟨(aG nC.out 0).trans rfl, (aG nC.out 1).trans rfl, (aG nC.out 2).trans rfl, alW⟩ (fun hHeld => ?_)
        clear hK K
        refine nrm ?_
        refine pl 8 ?_
        refine o1 9 (fun K hK => ?_)
        refine Cj (w1 := ?_) (v := ?_) (by rfl) rfl ?_ ?_
        rotate_left 2
        ·
         go_simp
         constructor
         ·
          rfl
         ·
          rfl
        refine hK.out _ _ ⟨(aG (aX nC.out _) 0).trans rfl, (aG (aX nC.out _) 1).trans rfl, (aG (aX nC.out _) 2).trans rfl, (World.cell?_alloc_lt _ _ _ (World.block_lt_of_cell? _ _ (hHeld.2.2.2))).trans (hHeld.2.2.2)⟩ (fun hHeld => ?_)
        clear hK K
        refine nrm ?_
        refine GX (i := 10) (N := some 76) #[true, true, true, true, true, true, true, true, true, true, true, false, false] rfl rfl (oL t_.out (by kernel_rfl)) (by decide) (fun K hK => ?_)
        refine Kd.nU qJ (w0 := w) w.heap.size (by rfl) (.tmp 67) (.tmp 75) 25 69 (.agg #[(.string ⟨#[]⟩), (.string ⟨#[]⟩)]) 32 rfl Tryz.underlying25 Cc rfl (by decide) (by omega) xP wV (⟨abY, o8 ByteArray.empty PZ 0⟩ : gY) [.string abY, .string (o8 ByteArray.empty PZ 0)] (fun _ => True) (fun _ => False) rfl rfl ?aP (fun _ hk => hk.elim) ?aF ?aO ?aB ?aS ?aL ?_
        (case aP => exact wC _ _ _ (⟨abY, o8 ByteArray.empty PZ 0⟩ : gY))
        (case aB => exact bb)
        (case aF => exact (fun _ _ => trivial))
        (case aO => exact (ur jF.out))
        (case aS => exact (aj bb))
        (case aL => have := aeJ.out; omega)
        intro aId w41 ho hb hg hat
        rw [← ak4.out] at ho
        have yP := ak (Kd.qo (ur Hg.out) (Kd.kU (ur jF.out)) (by decide) hg)
        have yQ := ak (Kd.afg (ok := (fun k_ => some k_ ≠ (.slice (some ak5) PZ.length VZ : Value).ownBlock ∧ k_ ≠ C9 ∧ k_ ≠ xO)) (by (with_reducible repeat (first | apply Kd.DY | apply Kd.DZ | apply Kd.Fg)); exact Kd.Ih wW.out (fun _ hk => ⟨⟨hk.1, ⟨hk.2.2.1, hk.2.2.2⟩⟩, hk.2.1⟩)) hg hat)
        have zA := ak (dw (g := C9) (o := .cells #[.string Gf, .string Gg, .slice none 0 0] 61 (0, 0)) (ub lI.out) hg (Kd.oQ jF.out lI.out (by decide)))
        have CS := ak (dw (g := xO) (o := .cells #[.string NT, .string NU, xP] 61 (0, 0)) (ub nC.out) hg (Kd.oQ jF.out nC.out (by decide)))
        have GY := ak (hb)
        have JE := ak (ho)
        clear Hg wW lI nC HB jF
        have Hg := yP
        have wW := yQ
        have lI := zA
        have nC := CS
        have HB := GY
        have auM := JE
        clear yP yQ zA CS GY JE ho hb hg hat
        obtain ⟨as2, as3, aeh⟩ := Kd.aN auM.out
        (first | subst aeh | (injection aeh with qR wZ qU; have xg := qR.symm; have xk := qU.symm; clear qR wZ qU; subst xg; subst xk))
        refine hK.out _ _ ?_
        clear hK K
        refine qF (a' := ?_) ?_ ?_
        rotate_left
        ·
         show Act.put _ (some 76) _ = _
         simp only [Act.put, qW, qX, l_c, dU, fU]
         rfl
        refine pl 11 ?_
        refine GX (i := 12) (N := none) #[true, true, true, true, true, true, true, true, true, true, true, true, true] rfl rfl (oL t_.out (by kernel_rfl)) (by decide) (fun K hK => ?_)
        have ayT : w41.cell? ⟨xO, 2, none⟩ = some (xP) := (aG nC.out 2).trans rfl
        have as4 := iq nC.out 2
        have aho := zX.out
        have ahp := zY.out
        refine GZ (w1 := ?_) (by rfl) rfl ?_ ?_
        rotate_left
        ·
         go_simp
         rfl
        refine hK.out _ _ ?_
        clear hK K
        refine G5 (yH t_.out (by kernel_rfl)) ?_
        try go_wp2
        go_roundg azN
        case measure => have := xu.out; have := auL.out; omega
        case rel => exact ⟨_, _, _, _, _, rs, H', ⟨by have := xu.out; have := auL.out; omega⟩, ⟨by (with_reducible repeat (first | apply Kd.DY | apply Kd.DZ | apply Kd.Fg)); exact Kd.Ih (Kd.auN (p := ⟨xO, 2, none⟩) (Kd.Ih wW.out (fun k_ hk => (⟨hk, hk.1.2.2⟩ : _ ∧ k_ ≠ xO))) (fun _ hk => hk.2) (.slice as2 azO.length as3)) (fun _ hk => ⟨hk.1.2, ⟨hk.1.1.2.1, hk.1.1.2.2⟩⟩)⟩, ⟨rr⟩, ⟨bq⟩, ⟨bq⟩, ⟨bb⟩⟩
    ·
     replace H := sb H
     rcases H with ⟨rfl, H⟩ | ⟨rfl, H⟩
     ·
      replace H := bd H; obtain ⟨auA, A45, H⟩ := H; replace H := sb H
      rcases H with ⟨rfl, H⟩ | ⟨rfl, H⟩
      ·
       obtain ⟨rfl, rfl, rfl, rfl⟩ := s4 H
       have akk := zY.out
       have akl := zX.out
       have z48 := jW nC.out
       obtain ⟨PK, NS, XK⟩ := Kd.aN jF.out
       subst XK
       go_wp2_with (go_at_call 95; refine mB (bM.calls (cu ((Kd.au jF.out).2.2)) ((Kd.au jF.out).2.1) A45.out) ?_; intro w50 hb; replace wW := vb wW hb; replace jF := rb jF hb; replace lI := kb lI hb; replace nC := kb nC hb; replace HB := bz HB hb; clear hb; have z51 := jW nC.out; have z52 := jW lI.out)
       refine bodyPost_ret (lM rfl _ _ C9 61 #[.string NT, .string NU, .slice PK wV.length NS] (0, 0) _ rfl bq Tryz.underlying61 rfl (by kernel_rfl)) rfl ?_
       exact ⟨_, er, rr, bb⟩
      ·
       obtain ⟨rfl, rfl, rfl, rfl⟩ := s4 H
       have apW := zY.out
       have apX := zX.out
       have z54 := jW nC.out
       obtain ⟨aIe, aIf, azQ⟩ := Kd.aN jF.out
       subst azQ
       go_wp2_with (go_at_call 95; refine mB (bM.calls (cu ((Kd.au jF.out).2.2)) ((Kd.au jF.out).2.1) A45.out) ?_; intro w56 hb; replace wW := vb wW hb; replace jF := rb jF hb; replace lI := kb lI hb; replace nC := kb nC hb; replace HB := bz HB hb; clear hb; have z57 := jW lI.out)
       refine bodyPost_ret (lM rfl _ _ C9 61 #[.string (⟨#[]⟩ : ByteArray), .string (⟨#[]⟩ : ByteArray), .slice none 0 0] (0, 0) _ rfl bq Tryz.underlying61 rfl (by kernel_rfl)) rfl ?_
       exact ⟨_, er, nx, bb⟩
     ·
      obtain ⟨rfl, rfl, rfl, rfl⟩ := s4 H
      have aCQ := zX.out
      have aCR := zY.out
      have z59 := jW lI.out
      go_wp2
      refine bodyPost_ret (lM rfl _ _ C9 61 #[.string (⟨#[]⟩ : ByteArray), .string (⟨#[]⟩ : ByteArray), .slice none 0 0] (0, 0) _ rfl bq Tryz.underlying61 rfl (by kernel_rfl)) rfl ?_
      exact ⟨_, er, nx, bb⟩
 ·
  obtain ⟨rfl, rfl, rfl, rfl⟩ := s4 H
  go_enter Tryz.func48, Tryz.ntmps48
  go_wp2_with (first | (refine gG 2 ?_; refine bX HB 2 #[.string (⟨#[]⟩ : ByteArray), .string (⟨#[]⟩ : ByteArray), .slice none 0 0] 61 ?_; intro C9 Q_ lI auE hb; replace HB := bs HB hb; clear hb) | (refine gD Tryz.func89 (bC.calls A2.out) ?_; intro Q_ hb; replace lI := kb lI hb; replace HB := bz HB hb; clear hb; have z61 := jW lI.out))
  refine bodyPost_ret (lM rfl _ _ C9 61 #[.string (⟨#[]⟩ : ByteArray), .string (⟨#[]⟩ : ByteArray), .slice none 0 0] (0, 0) _ rfl bq Tryz.underlying61 rfl (by kernel_rfl)) rfl ?_
  exact ⟨_, er, nx, bb⟩
def mV.f (a0 : Int) : Option (Bool) := (bH.f a0).bind fun auO => (if auO = true then (some true) else ((dH.f a0).bind fun auP => (some auP)))
theorem mV.calls {a0 : Int} {r : Bool} {w : World} (h : mV.f a0 = some r) :
  Calls Tryz.prog 139 #[.int .u8 a0] w fun e w' => e = .returned (.bool r) ∧ dS w w' := by
 unfold mV.f at h; have H := h
 clear h
 replace H := bd H; obtain ⟨auO, A2, H⟩ := H; replace H := sb H
 rcases H with ⟨rfl, H⟩ | ⟨rfl, H⟩
 ·
  obtain rfl := s1 H
  go_enter Tryz.func139, Tryz.ntmps139
  go_wp2_with (refine gA Tryz.func140 (bH.calls A2.out) ?_; intro nd)
  go_ret
  exact ⟨rs, dn⟩
 ·
  replace H := bd H; obtain ⟨auP, A4, H⟩ := H
  obtain rfl := s1 H
  go_enter Tryz.func139, Tryz.ntmps139
  go_wp2_with (first | (refine gA Tryz.func140 (bH.calls A2.out) ?_; intro nd) | (go_at_call 141; refine mA (dH.calls A4.out) ?_; intro nd))
  go_ret
  exact ⟨rs, dn⟩
def dF.l0 : Nat → ByteArray → Int → Int → Option (Bool)
 | 0, _, _, _ => none
 | k + 1, x0, x7, x8 => if x8 < x7 then (if 0 ≤ x8 then (if x8 < (x0.size : Int) then ((mV.f (bt x0 x8)).bind fun auQ => (if auQ = true then (dF.l0 k x0 x7 (wrap64 (x8 + 1))) else (some false))) else (none)) else (none)) else (some true)
def dF.f (k : Nat) (a0 : ByteArray)  : Option (Bool) := dF.l0 k a0 (a0.size : Int) 0
theorem dF.calls {k : Nat} {a0 : ByteArray} {r : Bool} {w : World} (h : dF.f k a0 = some r) :
  Calls Tryz.prog 138 #[.string a0, .func (.func 139) #[] #[]] w fun e w' => e = .returned (.bool r) ∧ dS w w' := by
 unfold dF.f at h; have H := h
 clear h
 have H' := ak H; clear H
 go_enter Tryz.func138, Tryz.ntmps138
 go_wp2
 go_loopg [8] k (fun kq v8 w' => ∃ (kY : Int), v8 = .int .i64 kY ∧ ah (dF.l0 kq a0 (a0.size : Int) kY = some r) ∧ ah (kq ≤ k) ∧ dS w w')
 case atStart => exact ⟨_, rs, H', ⟨Nat.le_refl _⟩, dn⟩
 case round =>
  clear H'
  obtain ⟨kY, rfl, HA, xu, ⟨m1, rfl⟩⟩ := hrel
  cases gk with
  | zero => exact zz HA.out
  | succ k1 =>
   obtain ⟨H⟩ := HA
   simp only [dF.l0] at H
   replace H := sd H
   rcases H with ⟨iQ, H⟩ | ⟨iQ, H⟩
   ·
    replace H := oM H; obtain ⟨rX, H⟩ := H; replace H := oM H; obtain ⟨nR, H⟩ := H; replace H := bd H; obtain ⟨auQ, A7, H⟩ := H; replace H := sb H
    rcases H with ⟨rfl, H⟩ | ⟨rfl, H⟩
    ·
     have H' := ak H; clear H
     obtain ⟨p6, q6, hx6⟩ := bx a0 kY
     go_wp2_with (go_at_call 139; refine mA (mV.calls A7.out) ?_; intro nd)
     go_roundg k1
     case measure => exact kl
     case rel => exact ⟨_, rs, H', ⟨kl⟩, dn⟩
    ·
     obtain rfl := s1 H
     obtain ⟨p6, q6, hx6⟩ := bx a0 kY
     go_wp2_with (go_at_call 139; refine mA (mV.calls A7.out) ?_; intro nd)
     go_ret
     exact ⟨rs, dn⟩
   ·
    obtain rfl := s1 H
    go_wp2
    go_ret
    exact ⟨rs, dn⟩
def kD.f (k : Nat) (a0 : ByteArray) : Option (Bool) := if (a0.size : Int) ≥ 1 then (if (a0.size : Int) ≤ 20 then ((dF.f k a0).bind fun auR => (some auR)) else (some false)) else (some false)
theorem kD.calls {k : Nat} {a0 : ByteArray} {r : Bool} {w : World} (h : kD.f k a0 = some r) :
  Calls Tryz.prog 96 #[.string a0] w fun e w' => e = .returned (.bool r) ∧ dS w w' := by
 unfold kD.f at h; have H := h
 clear h
 replace H := sp H
 rcases H with ⟨c2, H⟩ | ⟨c2, H⟩
 ·
  have oI : decide (1 ≤ (a0.size : Int)) = true := decide_eq_true c2
  have uP : decide (1 ≤ a0.size) = true := decide_eq_true (by omega)
  clear c2
  replace H := sp H
  rcases H with ⟨c3, H⟩ | ⟨c3, H⟩
  ·
   have iQ := decide_eq_true c3
   have zZ : decide (a0.size ≤ 20) = true := decide_eq_true (by omega)
   clear c3
   replace H := bd H; obtain ⟨auR, A4, H⟩ := H
   obtain rfl := s1 H
   go_enter Tryz.func96, Tryz.ntmps96
   go_wp2_with (go_at_call 138; refine mA (dF.calls A4.out) ?_; intro nd)
   go_ret
   exact ⟨rs, dn⟩
  ·
   have iQ := decide_eq_false c3
   have zZ : decide (a0.size ≤ 20) = false := decide_eq_false (by omega)
   clear c3
   obtain rfl := s1 H
   go_enter Tryz.func96, Tryz.ntmps96
   go_wp2
   go_ret
   exact ⟨rs, dn⟩
 ·
  have oI : decide (1 ≤ (a0.size : Int)) = false := decide_eq_false c2
  have uP : decide (1 ≤ a0.size) = false := decide_eq_false (by omega)
  clear c2
  obtain rfl := s1 H
  go_enter Tryz.func96, Tryz.ntmps96
  go_wp2
  go_ret
  exact ⟨rs, dn⟩
end Go.Proofs.YtncdadcmghglkaaGreatDoor.PFnCountParts
