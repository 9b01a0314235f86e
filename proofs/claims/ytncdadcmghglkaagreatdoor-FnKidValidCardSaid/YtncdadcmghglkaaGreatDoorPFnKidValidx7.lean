/- Printed walks; conditions: those in each statement. -/
import Derived.Test.YtncdadcmghglkaaGreatDoorVFnKidValidQt
import Derived.Test.YtncdadcmghglkaaGreatDoorVFnKidValidYt
import Derived.Test.YtncdadcmghglkaaGreatDoorPFnKidValidx0
import Derived.Test.YtncdadcmghglkaaGreatDoorPFnKidValidx1
import Derived.Test.YtncdadcmghglkaaGreatDoorPFnKidValidx2
import Derived.Test.YtncdadcmghglkaaGreatDoorPFnKidValidx3
import Derived.Test.YtncdadcmghglkaaGreatDoorPFnKidValidx4
import Derived.Test.YtncdadcmghglkaaGreatDoorPFnKidValidx5
-- short
-- dense
-- sq
-- sq2
namespace Go.Proofs.YtncdadcmghglkaaGreatDoor.PFnKidValid
open Go.RowKit Go.Proofs.YtncdadcmghglkaaGreatDoor.X Go.Proofs.YtncdadcmghglkaaGreatDoorW.bI Go.Proofs.YtncdadcmghglkaaGreatDoorW.gq Go.Proofs.YtncdadcmghglkaaGreatDoorW.iJ
attribute [local go_sem] kJ kK mD mF jv jw kL kM   -- for this text's walks alone
set_option linter.unusedVariables false
set_option maxHeartbeats 8000000
set_option maxRecDepth 100000
set_option linter.unusedSimpArgs false
mutual
def bV.l0 : Nat → Bool → List ByteArray → Int → Int → ByteArray → ByteArray → List (gU) → Option (ByteArray × ByteArray × (List (gU)) × Bool)
 | 0, _, _, _, _, _, _, _ => none
 | k + 1, x7, x37, x38, x39, Eh, Ei, CO => if x39 < x38 then (if 0 ≤ x39 then (if x39 < (x37.length : Int) then ((strings_Cut.f (o9 ByteArray.empty x37 x39) (⟨#[61]⟩ : ByteArray)).bind fun Xi => ((dJ.f k Xi.2.1).bind fun Xj => (if Xi.2.2 = true then (if Xj.2 = true then (bV.j1 k x7 Xi.1 Xj.1 x37 x38 x39 ((Xj.1.length : Int) != 1) Eh Ei CO) else (bV.j1 k x7 Xi.1 Xj.1 x37 x38 x39 true Eh Ei CO)) else (bV.j1 k x7 Xi.1 Xj.1 x37 x38 x39 true Eh Ei CO)))) else (none)) else (none)) else (if x7 = true then ((bM.f k Eh Ei CO).bind fun avV => (if avV = true then (some (Eh, Ei, CO, true)) else (some ((⟨#[]⟩ : ByteArray), (⟨#[]⟩ : ByteArray), ([] : List (gU)), false)))) else (some ((⟨#[]⟩ : ByteArray), (⟨#[]⟩ : ByteArray), ([] : List (gU)), false)))
def bV.j1 : Nat → Bool → ByteArray → List ByteArray → List ByteArray → Int → Int → Bool → ByteArray → ByteArray → List (gU) → Option (ByteArray × ByteArray × (List (gU)) × Bool)
 | 0, _, _, _, _, _, _, _, _, _, _ => none
 | k + 1, x7, x11, x14, x37, x38, x39, x64, Eh, Ei, CO => if x64 = true then (some ((⟨#[]⟩ : ByteArray), (⟨#[]⟩ : ByteArray), ([] : List (gU)), false)) else ((kR.f x11 (⟨#[32]⟩ : ByteArray)).bind fun aoF => ((iQ.f aoF).bind fun acM => (if 0 < (x14.length : Int) then (if CO.length < 4398046511104 then (bV.l0 k x7 x37 x38 (wrap64 (x39 + 1)) Eh Ei (CO ++ [(⟨acM, o9 ByteArray.empty x14 0⟩ : gU)])) else (none)) else (none))))
end
def bV.f (k : Nat) (a0 : ByteArray) : Option (ByteArray × ByteArray × (List (gU)) × Bool) := (bD.f k a0).bind fun avW => (if avW = true then ((dL.f k a0 59).bind fun F8 => (if 0 < (F8.length : Int) then ((kR.f (o9 ByteArray.empty F8 0) (⟨#[32]⟩ : ByteArray)).bind fun avX => ((strings_Cut.f avX (⟨#[47]⟩ : ByteArray)).bind fun afY => ((iQ.f afY.1).bind fun OG => ((iQ.f afY.2.1).bind fun OH => (if 1 ≤ (F8.length : Int) then ((some (F8.drop 1 : List ByteArray)).bind fun Ej => (bV.l0 k afY.2.2 Ej (Ej.length : Int) 0 OG OH ([] : List (gU)))) else (none)))))) else (none))) else (some ((⟨#[]⟩ : ByteArray), (⟨#[]⟩ : ByteArray), ([] : List (gU)), false)))
def bV.T13 : Bool × List (List Nat × List Nat) := (true, [([], []), ([0], [0]), ([], []), ([2], [2]), ([3, 3], [3]), ([], []), ([5], [5]), ([6], [6]), ([4, 7], [4, 7]), ([8], [8]), ([1, 9, 4], [1, 9]), ([0, 1, 2, 3, 4, 5, 6, 7, 8, 9, 10], []), ([11, 10, 10, 0, 1, 2, 3, 4, 5, 6, 7, 8, 9, 10], [10, 11])])
def bV.B13 : List Nat := [0, 1, 0, 4, 12, 0, 32, 96, 252, 508, 1023, 2047, 4095]
theorem bV.ZJ : sQ .any (opsOf Tryz.f48 13) = bV.T13 := by kernel_rfl
theorem bV.UD : nU bV.T13.2 bV.B13 = true := by kernel_rfl
theorem bV.calls {k : Nat} {a0 r1 r2 : ByteArray} {r3 : List (gU)} {r4 : Bool} {w : World} (BX : MaxOk w) (h : bV.f k a0 = some (r1, r2, r3, r4)) :
  Calls Tryz.prog 48 #[.string a0] w fun e w' => ∃ E8 : Value, e = .returned (.tuple #[.agg #[.string r1, .string r2, E8], .bool r4]) ∧ Kd.R qj 69 w' w.heap.size (fun _ => True) E8 r3 ∧ Below w.heap.size w w' := by
 have Wj := Tryz.underlying61
 have DU := Tryz.underlying69
 have HG := ak BX
 clear BX
 have HB := ak (Below.refl w.heap.size w)
 unfold bV.f at h; have H := h
 clear h
 replace H := bd H; obtain ⟨avW, A2, H⟩ := H; replace H := sb H
 rcases H with ⟨rfl, H⟩ | ⟨rfl, H⟩
 ·
  replace H := bd H; obtain ⟨F8, A4, H⟩ := H; replace H := nn H; obtain ⟨c5, H⟩ := H
  have nO := decide_eq_true c5
  have JM : decide (0 < F8.length) = true := decide_eq_true (by omega)
  clear c5
  replace H := bd H; obtain ⟨avX, A6, H⟩ := H; replace H := bd H
  obtain ⟨⟨aJA, aJB, avY⟩, A7, H⟩ := H
  (try dsimp only at H)
  replace H := bd H; obtain ⟨OG, A8, H⟩ := H; replace H := bd H; obtain ⟨OH, A9, H⟩ := H; replace H := Ac H; obtain ⟨oC, sS, H⟩ := H
  replace H := ny H
  obtain ⟨Ej, al1, H⟩ := H
  have H' := ak H; clear H
  go_enter Tryz.func48, Tryz.ntmps48
  go_wp2_with (first | (refine gG 2 ?_; refine bX HB 2 #[.string (⟨#[]⟩ : ByteArray), .string (⟨#[]⟩ : ByteArray), .slice none 0 0] 61 ?_; intro Dy Ub lu avZ hb; replace HB := bs HB hb; clear hb) | (refine gD Tryz.func89 (bD.calls A2.out) ?_; intro Ub hb; replace lu := kb lu hb; replace HB := bz HB hb; clear hb) | (refine gV Tryz.func90 (dL.calls A4.out) ?_; rintro aJC w12 ⟨ho0, hb⟩; have zu := ak (Kd.aC ho0 (aj bb)); replace lu := kb lu hb; replace HB := bz HB hb; clear hb; (try clear ho0); obtain ⟨XU, Jk, Ud⟩ := Kd.aV zu.out; subst Ud; have afZ : 0 ≤ (0 : Int) := (by omega); have af0 : 0 < (F8.length : Int) := of_decide_eq_true (by assumption); obtain ⟨Xk, e241, Pv⟩ := Kd.jZ (Kd.aH zu.out).2.2 0 afZ af0; cases e241; have aEe : (0 < F8.length) = True := eq_true (by omega); (try rw [show ((0 : Int)).toNat = 0 from rfl] at Pv); (try rw [Addr.add_zero'] at Pv); replace afZ := eq_true afZ; replace af0 := eq_true af0) | (refine gD Tryz.func92 (kR.calls A6.out) ?_; intro w12 hb; replace zu := rb zu hb; replace lu := kb lu hb; replace HB := bz HB hb; clear hb) | (refine gD Tryz.func91 (strings_Cut.calls ?fU A7.out) ?_; (case fU => first | exact HG.out | exact MaxOk.below HG.out bb | (repeat (first | exact HG.out | apply MaxOk.drewN | apply MaxOk.drew))); intro w12 hb; replace zu := rb zu hb; replace lu := kb lu hb; replace HB := bz HB hb; clear hb) | (refine gB Tryz.func93 (iQ.calls A8.out) ?_; intro SA hb; replace zu := rb zu hb; replace lu := kb lu hb; replace HB := bz HB hb; clear hb) | (refine gB Tryz.func93 (iQ.calls A9.out) ?_; intro w15 hb; replace zu := rb zu hb; replace lu := kb lu hb; replace HB := bz HB hb; clear hb) | (refine gG 8 ?_; refine bY HB 8 #[.string (⟨#[]⟩ : ByteArray), .string (⟨#[]⟩ : ByteArray), .slice none 0 0] 61 ?_; intro xY w16 nC aEf hg hb; have Aq := BL lu hg; have Ar := BM lu hg; replace zu := rb zu hb; replace lu := kb lu hb; replace HB := bz HB hb; clear hb hg; have ak2 := Ar.out; have ak3 := Aq.out; have z18 := jW nC.out) | ((with_reducible refine YD (t := 61) (p := 8) rfl ?_); refine Xl (t := 61) (p := 8) (v := ?aBa) (w1 := (((w16.setCell ⟨xY, 0, none⟩ (.string OG)).setCell ⟨xY, 1, none⟩ (.string OH)).setCell ⟨xY, 2, none⟩ (.slice none 0 0))) ?hg ?ho ?hn ?hr ?_; (case ho => rfl); (case hg => rfl); (case hn => rfl); (case hr => first | (go_simp; done) | (go_simp; rfl)); intro ZN hw; have y5 : ah (Kd.R Kd.string 9 ZN w.heap.size (fun _ => True) (.slice (some Xk) F8.length Jk) F8) := ⟨(by rw [hw]; exact (ur (Kd.bn (Kd.lS (p := ⟨xY, 2, none⟩) (Kd.lS (p := ⟨xY, 1, none⟩) (Kd.lS (p := ⟨xY, 0, none⟩) (Kd.mG zu.out nC.out (by decide)) (fun _ hk => hk.2) (.string OG)) (fun _ hk => hk.2) (.string OH)) (fun _ hk => hk.2) (.slice none 0 0)) (fun _ hk => trivial))))⟩; have y7 : ah (ZN.heap[Dy]? = some (.cells #[.string (⟨#[]⟩ : ByteArray), .string (⟨#[]⟩ : ByteArray), .slice none 0 0] 61 (0, 0))) := ⟨(by rw [hw]; exact bq)⟩; have zT : ah (ZN.heap[xY]? = some (.cells #[.string OG, .string OH, .slice none 0 0] 61 (0, 0))) := ⟨(by rw [hw]; exact bq)⟩; have Dq : ah (Below w.heap.size w ZN) := ⟨(by rw [hw]; exact bb)⟩; clear hw; clear zu; clear lu; clear nC; clear HB; have zu := y5; have lu := y7; have nC := zT; have HB := Dq; clear y5 y7 zT Dq; have q20 : (1 : Int) ≤ ((F8.length : Int) : Int) := of_decide_eq_true (by assumption); obtain ⟨aJD, al2, _, al3, _⟩ := info_parts info9; have Px : F8.length ≤ Jk := (Kd.aH zu.out).2.1; have av1 : Kd.F Kd.string _ _ (some Xk) F8.length F8 := (Kd.aiH (base := w.heap.size) (Kd.R_V (Kd.mG (Kd.mG (zu.out) lu.out (by decide)) nC.out (by decide)))).2.2; have aoG := af2 (P := Tryz.prog) 23 9 .i64 Tryz.underlying23 al2 1 al3 (some Xk) F8.length Jk 1 (by omega) q20; have af4 := Kd.av2 (m := (1 : Int).toNat) (c := Jk) av1 (by omega) Px; obtain ⟨A20, hA20⟩ : ∃ A1, A1 = (if Jk = (1 : Int).toNat then (some Xk) else ((some Xk) : Option Addr).map (·.add ((1 : Int).toNat * 1))) := ⟨_, rfl⟩; obtain ⟨c20, aiI⟩ : ∃ c1, c1 = Jk - (1 : Int).toNat := ⟨_, rfl⟩; have af5 : Ej.length = F8.length - (1 : Int).toNat := (by rw [al1.out, List.length_drop] <;> omega); rw [show (F8).drop (1 : Int).toNat = Ej from al1.out.symm] at af4; replace af4 : Kd.F Kd.string _ _ A20 Ej.length Ej := (by rw [hA20]; exact af4); rw [← af5, ← hA20, ← aiI] at aoG; have av3 := ak (show Kd.V Kd.string 9 _ w.heap.size _ (.slice A20 Ej.length c20) Ej from Kd.aBb (by rw [af5, aiI]; exact Nat.sub_le_sub_right Px _) af4); have aEg := ak (show Ej.length ≤ c20 from by rw [af5, aiI]; exact Nat.sub_le_sub_right Px _); clear af4 av1 Px al2 al3 aiI; have aJE := ak af5; have aJF := ak hA20; clear af5 hA20; replace q20 := eq_true q20))
  go_loopg [39] k (fun kq v39 w' => ∃ (QK : Int) (GY : ByteArray) (GZ : ByteArray) (xk : List (gU)) (xZ : Value), v39 = .int .i64 QK ∧ ah (bV.l0 kq avY Ej (Ej.length : Int) QK OG OH xk = some (r1, r2, r3, r4)) ∧ ah (kq ≤ k) ∧ ah (Kd.V Kd.string 9 w' w.heap.size (fun k_ => some k_ ≠ (xZ : Value).ownBlock ∧ k_ ≠ Dy ∧ k_ ≠ xY) (.slice A20 Ej.length c20) Ej) ∧ ah (Kd.R qj 69 w' w.heap.size (fun _ => True) xZ xk) ∧ ah (w'.heap[Dy]? = some (.cells #[.string GY, .string GZ, (.slice none 0 0)] 61 (0, 0))) ∧ ah (w'.heap[xY]? = some (.cells #[.string OG, .string OH, xZ] 61 (0, 0))) ∧ ah (Below w.heap.size w w'))
  case atStart => exact ⟨_, _, _, _, _, rs, H', ⟨Nat.le_refl _⟩, ⟨by (with_reducible repeat (first | apply Kd.Em | apply Kd.En | apply Kd.F9)); exact Kd.IZ av3.out (fun _ hk => ⟨(by simp [Value.ownBlock]), ⟨hk.1.2, hk.2⟩⟩)⟩, ⟨nx⟩, ⟨ub lu.out⟩, ⟨ub nC.out⟩, ⟨bb⟩⟩
  case round =>
   clear H'
   try clear c1
   try clear c5
   try clear nO
   try clear JM
   try clear oC
   try clear sS
   try clear c20
   try clear q20
   try clear Pv
   try clear afZ
   try clear q20
   try clear af0
   obtain ⟨QK, GY, GZ, xk, xZ, rfl, HA, xG, xq, jB, lu, nC, HB⟩ := hrel
   cases gk with
   | zero => exact zz HA.out
   | succ k1 =>
    obtain ⟨H⟩ := HA
    simp only [bV.l0] at H
    replace H := sd H
    rcases H with ⟨Ez, H⟩ | ⟨Ez, H⟩
    ·
     replace H := oL H; obtain ⟨Fv, H⟩ := H; replace H := oL H; obtain ⟨zh, H⟩ := H; replace H := bd H
     obtain ⟨⟨av4, aJG, aJH⟩, Yx, H⟩ := H
     (try dsimp only at H)
     replace H := bd H
     obtain ⟨⟨QL, aJI⟩, Ya, H⟩ := H
     (try dsimp only at H)
     have aoH := ak H
     clear H
     have aiJ := zi QK
     have aiK := zj QK Ej.length
     obtain ⟨av5, aBd, aiL⟩ := Kd.jZ (Kd.af6 xq.out).2.2 QK aiJ aiK
     cases aBd
     replace aiJ := eq_true aiJ
     replace aiK := eq_true aiK
     go_upto_region 11 with (first | (refine gA Tryz.func91 (strings_Cut.calls ?fU Yx.out) ?_; (case fU => first | exact HG.out | exact MaxOk.below HG.out bb | (repeat (first | exact HG.out | apply MaxOk.drewN | apply MaxOk.drew))); intro nd) | (refine gV Tryz.func94 (dJ.calls Ya.out) ?_; rintro av6 w27 ⟨ho0, hb⟩; have abB := ak (Kd.aC ho0 (aj bb)); replace xq := ak (Kd.af7 (by (with_reducible repeat (first | apply Kd.Em | apply Kd.En | apply Kd.F9)); exact xq.out) (Kd.fO ho0) hb); replace jB := rb jB hb; replace lu := kb lu hb; replace nC := kb nC hb; replace HB := bz HB hb; clear hb; (try clear ho0)))
     (try simp only [Act.put, qQ, qR, l_c])
     go_cut [64] (fun v64 wc => ∃ (kq : Nat) (YE : Bool), v64 = .bool YE ∧ ah (bV.j1 kq avY av4 QL Ej (Ej.length : Int) QK YE OG OH xk = some (r1, r2, r3, r4)) ∧ ah (kq ≤ k1) ∧ ah (Kd.R Kd.string 9 wc w.heap.size (fun _ => True) av6 QL) ∧ ah (Kd.V Kd.string 9 wc w.heap.size (fun k_ => some k_ ≠ (av6 : Value).ownBlock ∧ some k_ ≠ (xZ : Value).ownBlock ∧ k_ ≠ Dy ∧ k_ ≠ xY) (.slice (some av5) Ej.length c20) Ej) ∧ ah (Kd.R qj 69 wc w.heap.size (fun _ => True) xZ xk) ∧ ah (wc.heap[Dy]? = some (.cells #[.string GY, .string GZ, (.slice none 0 0)] 61 (0, 0))) ∧ ah (wc.heap[xY]? = some (.cells #[.string OG, .string OH, xZ] 61 (0, 0))) ∧ ah (Below w.heap.size w wc))
     case first =>
      have H := aoH.out
      clear aoH
      replace H := sb H
      rcases H with ⟨rfl, H⟩ | ⟨rfl, H⟩
      ·
       replace H := sb H
       rcases H with ⟨rfl, H⟩ | ⟨rfl, H⟩
       ·
        have H' := ak H; clear H
        obtain ⟨atD, atE, ah2⟩ := Kd.aV abB.out
        subst ah2
        go_wp2
        go_meet
        case rel => exact ⟨_, _, rs, H', ⟨kl⟩, ⟨ur abB.out⟩, ⟨by (with_reducible repeat (first | apply Kd.Em | apply Kd.En | apply Kd.F9)); exact Kd.IZ xq.out (fun _ hk => ⟨hk.2, ⟨hk.1.1, ⟨hk.1.2.1, hk.1.2.2⟩⟩⟩)⟩, ⟨ur jB.out⟩, ⟨ub lu.out⟩, ⟨ub nC.out⟩, ⟨bb⟩⟩
       ·
        have H' := ak H; clear H
        go_wp2
        go_meet
        case rel => exact ⟨_, _, rs, H', ⟨kl⟩, ⟨ur abB.out⟩, ⟨by (with_reducible repeat (first | apply Kd.Em | apply Kd.En | apply Kd.F9)); exact Kd.IZ xq.out (fun _ hk => ⟨hk.2, ⟨hk.1.1, ⟨hk.1.2.1, hk.1.2.2⟩⟩⟩)⟩, ⟨ur jB.out⟩, ⟨ub lu.out⟩, ⟨ub nC.out⟩, ⟨bb⟩⟩
      ·
       have H' := ak H; clear H
       go_wp2
       go_meet
       case rel => exact ⟨_, _, rs, H', ⟨kl⟩, ⟨ur abB.out⟩, ⟨by (with_reducible repeat (first | apply Kd.Em | apply Kd.En | apply Kd.F9)); exact Kd.IZ xq.out (fun _ hk => ⟨hk.2, ⟨hk.1.1, ⟨hk.1.2.1, hk.1.2.2⟩⟩⟩)⟩, ⟨ur jB.out⟩, ⟨ub lu.out⟩, ⟨ub nC.out⟩, ⟨bb⟩⟩
     case rest =>
      clear aoH
      try clear c1
      try clear c5
      try clear nO
      try clear JM
      try clear oC
      try clear sS
      try clear c20
      try clear q20
      try clear Ez
      try clear Fv
      try clear zh
      try clear Pv
      try clear aiL
      try clear afZ
      try clear aiJ
      try clear q20
      try clear af0
      try clear aiK
      obtain ⟨kq, YE, rfl, HA, av7, Ip, xq, jB, lu, nC, HB⟩ := hcut
      cases kq with
      | zero => exact zz HA.out
      | succ aBe =>
       obtain ⟨H⟩ := HA
       simp only [bV.j1] at H
       replace H := sb H
       rcases H with ⟨rfl, H⟩ | ⟨rfl, H⟩
       ·
        obtain ⟨rfl, rfl, rfl, rfl⟩ := s4 H
        have ak5 := Aq.out
        have ak6 := Ar.out
        have z33 := jW lu.out
        go_wp2
        refine bodyPost_ret (lG rfl _ _ Dy 61 #[.string (⟨#[]⟩ : ByteArray), .string (⟨#[]⟩ : ByteArray), .slice none 0 0] (0, 0) _ rfl bq Tryz.underlying61 rfl (by kernel_rfl)) rfl ?_
        exact ⟨_, er, nx, bb⟩
       ·
        replace H := bd H; obtain ⟨aoF, A34, H⟩ := H; replace H := bd H; obtain ⟨acM, A35, H⟩ := H; replace H := nn H; obtain ⟨c36, H⟩ := H
        have ake := decide_eq_true c36
        have avQ : decide (0 < QL.length) = true := decide_eq_true (by omega)
        clear c36
        replace H := nl H; obtain ⟨afj, H⟩ := H
        obtain ⟨aBf, al4⟩ := nm (xk ++ [(⟨acM, o9 ByteArray.empty QL 0⟩ : gU)])
        rw [← al4.out] at H
        have H' := ak H; clear H
        try go_wp2
        replace Ip := ak (Kd.l9 Ip.out)
        replace xq := ak (Kd.F9 xq.out)
        replace jB := ak (Kd.l9 jB.out)
        replace lu := ak (bC lu.out)
        replace nC := ak (bC nC.out)
        replace HB := ak (iF HB.out)
        obtain ⟨aum, aoc, aeT⟩ := Kd.aV Ip.out
        (first | subst aeT | (injection aeT with qV xB qW; have xC := qV.symm; have xE := qW.symm; clear qV xB qW; subst xC; subst xE))
        have aoI : 0 ≤ (0 : Int) := (by omega)
        have aoJ : 0 < (QL.length : Int) := of_decide_eq_true (by assumption)
        obtain ⟨al5, aBg, Py⟩ := Kd.jZ (Kd.aH Ip.out).2.2 0 aoI aoJ
        cases aBg
        have aEh : (0 < QL.length) = True := eq_true (by omega)
        (try rw [show ((0 : Int)).toNat = 0 from rfl] at Py)
        (try rw [Addr.add_zero'] at Py)
        replace aoI := eq_true aoI
        replace aoJ := eq_true aoJ
        refine Df (n := 13) (S := fun w' => w'.cell? ⟨xY, 0, none⟩ = some (.string OG) ∧ w'.cell? ⟨xY, 1, none⟩ = some (.string OH) ∧ w'.cell? ⟨xY, 2, none⟩ = some (xZ) ∧ w'.cell? al5 = some (.string (o9 ByteArray.empty QL 0))) (ds := [10, 12]) #[false, false, false, false, false, false, false, false, false, false, false, false, false] (by kernel_rfl) rfl rfl ⟨(aA nC.out 0).trans rfl, (aA nC.out 1).trans rfl, (aA nC.out 2).trans rfl, Py⟩ (fun hHeld => ?_); refine uo bV.ZJ bV.UD (fun ug Yd => ?_)
        generalize wc.drew = w38 at Ip xq jB lu nC HB Py hHeld ⊢
        refine pl 0 ?_
        refine pl 2 ?_
        refine pl 5 ?_
        refine pl 6 ?_
        refine tk 1 ?_
        refine tk 7 ?_
        refine o1 3 (fun K hK => ?_)
        refine y8 Tryz.func92 (by kernel_rfl) rfl #[.string av4, .string (⟨#[32]⟩ : ByteArray)] (by rfl) rfl rfl ma ?_
        with_reducible refine (kR.calls A34.out).mono ?_
        rintro e w' ⟨rfl, ⟨nd, rfl⟩⟩
        refine ⟨_, rfl, ?_⟩
        refine hK.out _ _ ⟨(aA nC.out 0).trans rfl, (aA nC.out 1).trans rfl, (aA nC.out 2).trans rfl, hHeld.2.2.2⟩ (fun hHeld => ?_)
        clear hK K
        refine nrm ?_
        refine o1 4 (fun K hK => ?_)
        refine y8 Tryz.func93 (by kernel_rfl) rfl #[.string aoF] (by rfl) rfl rfl ma ?_
        with_reducible refine (iQ.calls A35.out).mono ?_
        rintro e w40 ⟨rfl, hb⟩
        have amX := (hb.cell (World.block_lt_of_cell? _ _ (hHeld.2.2.2))).trans (hHeld.2.2.2)
        refine ⟨_, rfl, ?_⟩
        replace Ip := rb Ip hb
        replace xq := vb xq hb
        replace jB := rb jB hb
        replace lu := kb lu hb
        replace nC := kb nC hb
        replace HB := bz HB hb
        try clear hb
        refine hK.out _ _ ⟨(aA nC.out 0).trans rfl, (aA nC.out 1).trans rfl, (aA nC.out 2).trans rfl, amX⟩ (fun hHeld => ?_)
        clear hK K
        refine nrm ?_
        refine pl 8 ?_
        refine o1 9 (fun K hK => ?_)
        refine Dh (w1 := ?_) (v := ?_) (by rfl) rfl ?_ ?_
        rotate_left 2
        ·
         go_simp
         constructor
         ·
          rfl
         ·
          rfl
        refine hK.out _ _ ⟨(aA (aX nC.out _) 0).trans rfl, (aA (aX nC.out _) 1).trans rfl, (aA (aX nC.out _) 2).trans rfl, (World.cell?_alloc_lt _ _ _ (World.block_lt_of_cell? _ _ (hHeld.2.2.2))).trans (hHeld.2.2.2)⟩ (fun hHeld => ?_)
        clear hK K
        refine nrm ?_
        refine Ia (i := 10) (N := some 76) #[true, true, true, true, true, true, true, true, true, true, true, false, false] rfl rfl (oK ug.out (by kernel_rfl)) (by decide) (fun K hK => ?_)
        refine Kd.nS qj (w0 := w) w.heap.size (by rfl) (.tmp 67) (.tmp 75) 25 69 (.agg #[(.string ⟨#[]⟩), (.string ⟨#[]⟩)]) 32 rfl Tryz.underlying25 Dc rfl (by decide) (by omega) xZ xk (⟨acM, o9 ByteArray.empty QL 0⟩ : gU) [.string acM, .string (o9 ByteArray.empty QL 0)] (fun _ => True) (fun _ => False) rfl rfl ?aP (fun _ hk => hk.elim) ?aF ?aO ?aB ?aS ?aL ?_
        (case aP => exact wM _ _ _ (⟨acM, o9 ByteArray.empty QL 0⟩ : gU))
        (case aB => exact bb)
        (case aF => exact (fun _ _ => trivial))
        (case aO => exact (ur jB.out))
        (case aS => exact (aj bb))
        (case aL => have := afj.out; omega)
        intro aJJ w41 ho hb hg hat
        rw [← al4.out] at ho
        have y5 := ak (Kd.qm (ur Ip.out) (Kd.kQ (ur jB.out)) (by decide) hg)
        have y7 := ak (Kd.af8 (ok := (fun k_ => some k_ ≠ (.slice (some al5) QL.length aoc : Value).ownBlock ∧ k_ ≠ Dy ∧ k_ ≠ xY)) (by (with_reducible repeat (first | apply Kd.Em | apply Kd.En | apply Kd.F9)); exact Kd.IZ xq.out (fun _ hk => ⟨⟨hk.1, ⟨hk.2.2.1, hk.2.2.2⟩⟩, hk.2.1⟩)) hg hat)
        have zT := ak (dw (g := Dy) (o := .cells #[.string GY, .string GZ, .slice none 0 0] 61 (0, 0)) (ub lu.out) hg (Kd.oU jB.out lu.out (by decide)))
        have Dq := ak (dw (g := xY) (o := .cells #[.string OG, .string OH, xZ] 61 (0, 0)) (ub nC.out) hg (Kd.oU jB.out nC.out (by decide)))
        have Ib := ak (hb)
        have Kr := ak (ho)
        clear Ip xq lu nC HB jB
        have Ip := y5
        have xq := y7
        have lu := zT
        have nC := Dq
        have HB := Ib
        have av8 := Kr
        clear y5 y7 zT Dq Ib Kr ho hb hg hat
        obtain ⟨auq, aur, aeU⟩ := Kd.aV av8.out
        (first | subst aeU | (injection aeU with qV xB qW; have xC := qV.symm; have xE := qW.symm; clear qV xB qW; subst xC; subst xE))
        refine hK.out _ _ ?_
        clear hK K
        refine qF (a' := ?_) ?_ ?_
        rotate_left
        ·
         show Act.put _ (some 76) _ = _
         simp only [Act.put, qQ, qR, l_c, dP, fG]
         rfl
        refine pl 11 ?_
        refine Ia (i := 12) (N := none) #[true, true, true, true, true, true, true, true, true, true, true, true, true] rfl rfl (oK ug.out (by kernel_rfl)) (by decide) (fun K hK => ?_)
        have aAl : w41.cell? ⟨xY, 2, none⟩ = some (xZ) := (aA nC.out 2).trans rfl
        have aus := gX nC.out 2
        have aie := Aq.out
        have aif := Ar.out
        refine Ic (w1 := ?_) (by rfl) rfl ?_ ?_
        rotate_left
        ·
         go_simp
         rfl
        refine hK.out _ _ ?_
        clear hK K
        refine Ie (yQ ug.out (by kernel_rfl)) ?_
        try go_wp2
        go_roundg aBe
        case measure => have := xG.out; have := av7.out; omega
        case rel => exact ⟨_, _, _, _, _, rs, H', ⟨by have := xG.out; have := av7.out; omega⟩, ⟨by (with_reducible repeat (first | apply Kd.Em | apply Kd.En | apply Kd.F9)); exact Kd.IZ (Kd.av9 (p := ⟨xY, 2, none⟩) (Kd.IZ xq.out (fun k_ hk => (⟨hk, hk.1.2.2⟩ : _ ∧ k_ ≠ xY))) (fun _ hk => hk.2) (.slice auq aBf.length aur)) (fun _ hk => ⟨hk.1.2, ⟨hk.1.1.2.1, hk.1.1.2.2⟩⟩)⟩, ⟨rr⟩, ⟨bq⟩, ⟨bq⟩, ⟨bb⟩⟩
    ·
     replace H := sb H
     rcases H with ⟨rfl, H⟩ | ⟨rfl, H⟩
     ·
      replace H := bd H; obtain ⟨avV, A45, H⟩ := H; replace H := sb H
      rcases H with ⟨rfl, H⟩ | ⟨rfl, H⟩
      ·
       obtain ⟨rfl, rfl, rfl, rfl⟩ := s4 H
       have ale := Ar.out
       have alf := Aq.out
       have z48 := jW nC.out
       obtain ⟨acD, acE, aez⟩ := Kd.aV jB.out
       subst aez
       go_wp2_with (go_at_call 95; refine mB (bM.calls (cu ((Kd.aH jB.out).2.2)) ((Kd.aH jB.out).2.1) A45.out) ?_; intro w50 hb; replace xq := vb xq hb; replace jB := rb jB hb; replace lu := kb lu hb; replace nC := kb nC hb; replace HB := bz HB hb; clear hb; have z51 := jW nC.out; have z52 := jW lu.out)
       refine bodyPost_ret (lG rfl _ _ Dy 61 #[.string OG, .string OH, .slice acD xk.length acE] (0, 0) _ rfl bq Tryz.underlying61 rfl (by kernel_rfl)) rfl ?_
       exact ⟨_, er, rr, bb⟩
      ·
       obtain ⟨rfl, rfl, rfl, rfl⟩ := s4 H
       have aq5 := Ar.out
       have aq6 := Aq.out
       have z54 := jW nC.out
       obtain ⟨aJK, aJL, aBh⟩ := Kd.aV jB.out
       subst aBh
       go_wp2_with (go_at_call 95; refine mB (bM.calls (cu ((Kd.aH jB.out).2.2)) ((Kd.aH jB.out).2.1) A45.out) ?_; intro w56 hb; replace xq := vb xq hb; replace jB := rb jB hb; replace lu := kb lu hb; replace nC := kb nC hb; replace HB := bz HB hb; clear hb; have z57 := jW lu.out)
       refine bodyPost_ret (lG rfl _ _ Dy 61 #[.string (⟨#[]⟩ : ByteArray), .string (⟨#[]⟩ : ByteArray), .slice none 0 0] (0, 0) _ rfl bq Tryz.underlying61 rfl (by kernel_rfl)) rfl ?_
       exact ⟨_, er, nx, bb⟩
     ·
      obtain ⟨rfl, rfl, rfl, rfl⟩ := s4 H
      have aEi := Aq.out
      have aEj := Ar.out
      have z59 := jW lu.out
      go_wp2
      refine bodyPost_ret (lG rfl _ _ Dy 61 #[.string (⟨#[]⟩ : ByteArray), .string (⟨#[]⟩ : ByteArray), .slice none 0 0] (0, 0) _ rfl bq Tryz.underlying61 rfl (by kernel_rfl)) rfl ?_
      exact ⟨_, er, nx, bb⟩
 ·
  obtain ⟨rfl, rfl, rfl, rfl⟩ := s4 H
  go_enter Tryz.func48, Tryz.ntmps48
  go_wp2_with (first | (refine gG 2 ?_; refine bX HB 2 #[.string (⟨#[]⟩ : ByteArray), .string (⟨#[]⟩ : ByteArray), .slice none 0 0] 61 ?_; intro Dy SC lu avZ hb; replace HB := bs HB hb; clear hb) | (refine gD Tryz.func89 (bD.calls A2.out) ?_; intro SC hb; replace lu := kb lu hb; replace HB := bz HB hb; clear hb; have aKd := jW lu.out))
  refine bodyPost_ret (lG rfl _ _ Dy 61 #[.string (⟨#[]⟩ : ByteArray), .string (⟨#[]⟩ : ByteArray), .slice none 0 0] (0, 0) _ rfl bq Tryz.underlying61 rfl (by kernel_rfl)) rfl ?_
  exact ⟨_, er, nx, bb⟩
def mQ.f (a0 : Int) : Option (Bool) := (bH.f a0).bind fun av_ => (if av_ = true then (some true) else ((dH.f a0).bind fun awc => (some awc)))
theorem mQ.calls {a0 : Int} {r : Bool} {w : World} (h : mQ.f a0 = some r) :
  Calls Tryz.prog 139 #[.int .u8 a0] w fun e w' => e = .returned (.bool r) ∧ dS w w' := by
 unfold mQ.f at h; have H := h
 clear h
 replace H := bd H; obtain ⟨av_, A2, H⟩ := H; replace H := sb H
 rcases H with ⟨rfl, H⟩ | ⟨rfl, H⟩
 ·
  obtain rfl := s1 H
  go_enter Tryz.func139, Tryz.ntmps139
  go_wp2_with (refine gA Tryz.func140 (bH.calls A2.out) ?_; intro nd)
  go_ret
  exact ⟨rs, dn⟩
 ·
  replace H := bd H; obtain ⟨awc, A4, H⟩ := H
  obtain rfl := s1 H
  go_enter Tryz.func139, Tryz.ntmps139
  go_wp2_with (first | (refine gA Tryz.func140 (bH.calls A2.out) ?_; intro nd) | (go_at_call 141; refine mA (dH.calls A4.out) ?_; intro nd))
  go_ret
  exact ⟨rs, dn⟩
def dF.l0 : Nat → ByteArray → Int → Int → Option (Bool)
 | 0, _, _, _ => none
 | k + 1, x0, x7, x8 => if x8 < x7 then (if 0 ≤ x8 then (if x8 < (x0.size : Int) then ((mQ.f (bt x0 x8)).bind fun awd => (if awd = true then (dF.l0 k x0 x7 (wrap64 (x8 + 1))) else (some false))) else (none)) else (none)) else (some true)
def dF.f (k : Nat) (a0 : ByteArray)  : Option (Bool) := dF.l0 k a0 (a0.size : Int) 0
theorem dF.calls {k : Nat} {a0 : ByteArray} {r : Bool} {w : World} (h : dF.f k a0 = some r) :
  Calls Tryz.prog 138 #[.string a0, .func (.func 139) #[] #[]] w fun e w' => e = .returned (.bool r) ∧ dS w w' := by
 unfold dF.f at h; have H := h
 clear h
 have H' := ak H; clear H
 go_enter Tryz.func138, Tryz.ntmps138
 go_wp2
 go_loopg [8] k (fun kq v8 w' => ∃ (kV : Int), v8 = .int .i64 kV ∧ ah (dF.l0 kq a0 (a0.size : Int) kV = some r) ∧ ah (kq ≤ k) ∧ dS w w')
 case atStart => exact ⟨_, rs, H', ⟨Nat.le_refl _⟩, dn⟩
 case round =>
  clear H'
  obtain ⟨kV, rfl, HA, xG, ⟨m1, rfl⟩⟩ := hrel
  cases gk with
  | zero => exact zz HA.out
  | succ k1 =>
   obtain ⟨H⟩ := HA
   simp only [dF.l0] at H
   replace H := sd H
   rcases H with ⟨iO, H⟩ | ⟨iO, H⟩
   ·
    replace H := oL H; obtain ⟨su, H⟩ := H; replace H := oL H; obtain ⟨nO, H⟩ := H; replace H := bd H; obtain ⟨awd, A7, H⟩ := H; replace H := sb H
    rcases H with ⟨rfl, H⟩ | ⟨rfl, H⟩
    ·
     have H' := ak H; clear H
     obtain ⟨p6, q6, hx6⟩ := bx a0 kV
     go_wp2_with (go_at_call 139; refine mA (mQ.calls A7.out) ?_; intro nd)
     go_roundg k1
     case measure => exact kl
     case rel => exact ⟨_, rs, H', ⟨kl⟩, dn⟩
    ·
     obtain rfl := s1 H
     obtain ⟨p6, q6, hx6⟩ := bx a0 kV
     go_wp2_with (go_at_call 139; refine mA (mQ.calls A7.out) ?_; intro nd)
     go_ret
     exact ⟨rs, dn⟩
   ·
    obtain rfl := s1 H
    go_wp2
    go_ret
    exact ⟨rs, dn⟩
def jY.f (k : Nat) (a0 : ByteArray) : Option (Bool) := if (a0.size : Int) ≥ 1 then (if (a0.size : Int) ≤ 20 then ((dF.f k a0).bind fun awe => (some awe)) else (some false)) else (some false)
theorem jY.calls {k : Nat} {a0 : ByteArray} {r : Bool} {w : World} (h : jY.f k a0 = some r) :
  Calls Tryz.prog 96 #[.string a0] w fun e w' => e = .returned (.bool r) ∧ dS w w' := by
 unfold jY.f at h; have H := h
 clear h
 replace H := sp H
 rcases H with ⟨c2, H⟩ | ⟨c2, H⟩
 ·
  have nT : decide (1 ≤ (a0.size : Int)) = true := decide_eq_true c2
  have uF : decide (1 ≤ a0.size) = true := decide_eq_true (by omega)
  clear c2
  replace H := sp H
  rcases H with ⟨c3, H⟩ | ⟨c3, H⟩
  ·
   have iO := decide_eq_true c3
   have Au : decide (a0.size ≤ 20) = true := decide_eq_true (by omega)
   clear c3
   replace H := bd H; obtain ⟨awe, A4, H⟩ := H
   obtain rfl := s1 H
   go_enter Tryz.func96, Tryz.ntmps96
   go_wp2_with (go_at_call 138; refine mA (dF.calls A4.out) ?_; intro nd)
   go_ret
   exact ⟨rs, dn⟩
  ·
   have iO := decide_eq_false c3
   have Au : decide (a0.size ≤ 20) = false := decide_eq_false (by omega)
   clear c3
   obtain rfl := s1 H
   go_enter Tryz.func96, Tryz.ntmps96
   go_wp2
   go_ret
   exact ⟨rs, dn⟩
 ·
  have nT : decide (1 ≤ (a0.size : Int)) = false := decide_eq_false c2
  have uF : decide (1 ≤ a0.size) = false := decide_eq_false (by omega)
  clear c2
  obtain rfl := s1 H
  go_enter Tryz.func96, Tryz.ntmps96
  go_wp2
  go_ret
  exact ⟨rs, dn⟩
end Go.Proofs.YtncdadcmghglkaaGreatDoor.PFnKidValid
