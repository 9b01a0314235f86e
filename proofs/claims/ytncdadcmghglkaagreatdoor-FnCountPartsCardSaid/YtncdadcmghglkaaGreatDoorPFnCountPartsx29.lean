/- Printed walks; conditions: those in each statement. -/
import Derived.Test.YtncdadcmghglkaaGreatDoorVFnCountPartsQt
import Derived.Test.YtncdadcmghglkaaGreatDoorVFnCountPartsYt
import Derived.Test.YtncdadcmghglkaaGreatDoorPFnCountPartsx0
import Derived.Test.YtncdadcmghglkaaGreatDoorPFnCountPartsx10
import Derived.Test.YtncdadcmghglkaaGreatDoorPFnCountPartsx19
import Derived.Test.YtncdadcmghglkaaGreatDoorPFnCountPartsx20
import Derived.Test.YtncdadcmghglkaaGreatDoorPFnCountPartsx26
import Derived.Test.YtncdadcmghglkaaGreatDoorPFnCountPartsx28
-- short
-- dense
-- sq
-- sq2
namespace Go.Proofs.YtncdadcmghglkaaGreatDoor.PFnCountParts
open Go.RowKit Go.Proofs.YtncdadcmghglkaaGreatDoor.X Go.Proofs.YtncdadcmghglkaaGreatDoorW.bI Go.Proofs.YtncdadcmghglkaaGreatDoorW.gI Go.Proofs.YtncdadcmghglkaaGreatDoorW.iL
attribute [local go_sem] kN kP mF mG jB jC kQ kR   -- for this text's walks alone
set_option linter.unusedVariables false
set_option maxHeartbeats 8000000
set_option maxRecDepth 100000
set_option linter.unusedSimpArgs false
def vw.f (k : Nat) (l0 : List Int) : Option ((List (gY)) × List ByteArray × (List (nG))) := (tV.f l0).bind fun aeT => ((dR.f k aeT.1 aeT.2 3).bind fun aaL => ((dO.f k aeT.1 aaL.2.2.2 aaL.1 aaL.2.1 aaL.2.2.1).bind fun aeU => (some (aeU.1, aeU.2.1, aeU.2.2.1))))
theorem vw.calls {k c0 : Nat} {A0 : Option Addr} {l0 : List Int} {r1 : List (gY)} {r2 : List ByteArray} {r3 : List (nG)} {w : World} (hr0 : Kd.C (Kd.int .u8) w A0 l0.length l0) (hc0 : l0.length ≤ c0) (h : vw.f k l0 = some (r1, r2, r3)) :
  Calls Tryz.prog 65 #[.slice A0 l0.length c0] w fun e w' => ∃ qj Dq EK : Value, e = .returned (.agg #[qj, Dq, EK]) ∧ Kd.R qJ 69 w' w.heap.size (fun _ => True) qj r1 ∧ Kd.R Kd.string 9 w' w.heap.size (fun _ => True) Dq r2 ∧ Kd.R k28 28 w' w.heap.size (fun k_ => some k_ ≠ (qj : Value).ownBlock ∧ some k_ ≠ (Dq : Value).ownBlock) EK r3 ∧ Below w.heap.size w w' := by
 have CG := Tryz.underlying28
 have HR0 := ak hr0
 have xq := ak hc0
 clear hr0 hc0
 have HB := ak (Below.refl w.heap.size w)
 unfold vw.f at h; have H := h
 clear h
 replace H := bd H
 obtain ⟨⟨ahC, azu⟩, A2, H⟩ := H
 (try dsimp only at H)
 replace H := bd H
 obtain ⟨⟨atz, atA, atC, ahD⟩, A3, H⟩ := H
 (try dsimp only at H)
 replace H := bd H
 obtain ⟨⟨azv, azw, azx, aHm⟩, A4, H⟩ := H
 (try dsimp only at H)
 obtain ⟨rfl, rfl, rfl⟩ := s3 H
 go_enter Tryz.func65, Tryz.ntmps65
 go_wp2_with (first | (refine bX HB 2 #[.slice none 0 0, .slice none 0 0, .slice none 0 0] 28 ?_; intro aeV w5 Fb aCs hb; replace HB := bs HB hb; clear hb) | (refine gL 55 5 Tryz.func55 #[.slice A0 l0.length c0] ?_; (with_reducible refine (tV.calls w ?fG HR0.out xq.out A2.out).mono ?_); (case fG => exact oZ); rintro e w6 ⟨abV, rfl, hi, hb, hb2⟩; refine ⟨_, rfl, ?_⟩; have aeW := ak (hi); have abW := ak (aK.adG hi (lY (ub Fb.out) hb2) (by decide)); have Lu := ak (Ne.symm (aK.adG hi (lY (ub Fb.out) hb2) (by decide))); replace Fb := kb Fb hb2; replace HB := ak (hb); clear hb; (try clear hb2); (try clear hi)) | (refine gL 56 8 Tryz.func56 #[.pointer (some ⟨abV, 0, none⟩), .int .i64 3] ?_; (with_reducible refine (dR.calls k abV ahC azu 3 atz atA atC ahD w _ ?fG ?jc A3.out).mono ?_); (case fG => exact oW); (case jc => exact oZ); rintro e w7 ⟨aHn, aHo, aHp, rfl, ho0, ho1, ho2, hi, hb, hk⟩; refine ⟨_, rfl, ?_⟩; have PV := ak (Kd.aA ho0 (aj oZ)); have Nb := ak (Kd.aA ho1 (aj oZ)); have RG := ak (Kd.aA (Kd.nP ho2 (g := aeV) (o := .cells #[.slice none 0 0, .slice none 0 0, .slice none 0 0] 28 (0, 0)) (ub Fb.out)) (aj oZ)); replace Fb := kc Fb hk Lu; replace HB := ak (hb); replace aeW := ak (hi); clear hb; (try clear hk); (try clear hi); (try clear ho0); (try clear ho1); (try clear ho2); obtain ⟨Ao8, co8, eo8⟩ := Kd.aN PV.out; subst eo8; obtain ⟨Ao9, co9, eo9⟩ := Kd.aN Nb.out; subst eo9; obtain ⟨azy, azz, azA⟩ := Kd.aN RG.out; subst azA) | (refine gL 68 9 Tryz.func68 #[.pointer (some ⟨abV, 0, none⟩), .agg #[.slice Ao8 atz.length co8, .slice Ao9 atA.length co9, .slice azy atC.length azz]] ?_; (with_reducible refine (dO.calls w ?fG ?jc (Kd.PW (aK.apart (show aK w _ abV ahC ahD from oW) (ur PV.out) (by decide)) (fun _ h_ => h_.2)) ((Kd.au PV.out).2.1) (cu ((Kd.au Nb.out).2.2)) ((Kd.au Nb.out).2.1) (oq (aK.own_ne aeW.out Nb.out (by decide))) (Kd.PW (aK.apart (show aK w _ abV ahC ahD from oW) (ur RG.out) (by decide)) (fun _ h_ => h_.2)) ((Kd.au RG.out).2.1) A4.out).mono ?_); (case fG => exact oW); (case jc => exact oZ); rintro e SN ⟨aHq, aHr, aHs, rfl, ho0, ho1, ho2, hi, hb, hk⟩; refine ⟨_, rfl, ?_⟩; have atD := ak (Kd.aA (Kd.gU ho0 (Kd.kX (ur PV.out))) (aj oZ)); have atE := ak (Kd.aA (Kd.gU ho1 (Kd.kX (ur Nb.out))) (aj oZ)); have atF := ak (Kd.aA (Kd.nP (Kd.gU (Kd.gU (Kd.gU ho2 (Kd.kX (ur PV.out))) (Kd.kX (ur Nb.out))) (Kd.kX (ur RG.out))) (g := aeV) (o := .cells #[.slice none 0 0, .slice none 0 0, .slice none 0 0] 28 (0, 0)) (ub Fb.out)) (aj oZ)); replace Fb := kc Fb hk Lu; replace PV := kj PV hk ho0; replace Nb := kj Nb hk ho1; replace RG := ak (Kd.aZ (Kd.tK (Kd.tK (Kd.tK (Kd.TY (aK.apart (show aK w _ abV ahC ahD from oW) (ur RG.out) (by decide)) hk) (Kd.fQ ho0)) (Kd.fQ ho1)) (Kd.fQ ho2)) (fun _ h_ => h_.1)); replace HB := ak (hb); replace aeW := ak (hi); clear hb; (try clear hk); (try clear hi); (try clear ho0); (try clear ho1); (try clear ho2); obtain ⟨EL, Ey, SQ⟩ := Kd.aN atD.out; subst SQ; have aiS := Lu.out; have aiT := abW.out; have z14 := jW Fb.out; obtain ⟨KP, KQ, SV⟩ := Kd.aN atE.out; subst SV; obtain ⟨VI, VJ, TV⟩ := Kd.aN atF.out; subst TV))
 refine bodyPost_ret (results_cell_row rfl _ _ aeV 28 #[.slice EL azv.length Ey, .slice KP azw.length KQ, .slice VI azx.length VJ] (0, 0) _ rfl bq Tryz.underlying28 rfl (by kernel_rfl)) rfl ?_
 exact ⟨_, _, _, er, rr, rr, rr, oZ⟩
def jl.f (k : Nat) (l0 : List Int) : Option ((List (gY)) × List ByteArray × (List (nG))) := (vw.f k l0).bind fun aeX => (some (aeX.1, aeX.2.1, aeX.2.2))
theorem jl.calls {k c0 : Nat} {A0 : Option Addr} {l0 : List Int} {r1 : List (gY)} {r2 : List ByteArray} {r3 : List (nG)} {w : World} (hr0 : Kd.C (Kd.int .u8) w A0 l0.length l0) (hc0 : l0.length ≤ c0) (h : jl.f k l0 = some (r1, r2, r3)) :
  Calls Tryz.prog 40 #[.slice A0 l0.length c0] w fun e w' => ∃ qj Dq EK : Value, e = .returned (.agg #[qj, Dq, EK]) ∧ Kd.R qJ 69 w' w.heap.size (fun _ => True) qj r1 ∧ Kd.R Kd.string 9 w' w.heap.size (fun _ => True) Dq r2 ∧ Kd.R k28 28 w' w.heap.size (fun k_ => some k_ ≠ (qj : Value).ownBlock ∧ some k_ ≠ (Dq : Value).ownBlock) EK r3 ∧ Below w.heap.size w w' := by
 have CG := Tryz.underlying28
 have HR0 := ak hr0
 have xq := ak hc0
 clear hr0 hc0
 have HB := ak (Below.refl w.heap.size w)
 unfold jl.f at h; have H := h
 clear h
 replace H := bd H
 obtain ⟨⟨azB, azC, azD⟩, A2, H⟩ := H
 (try dsimp only at H)
 obtain ⟨rfl, rfl, rfl⟩ := s3 H
 go_enter Tryz.func40, Tryz.ntmps40
 go_wp2_with (first | (refine bX HB 2 #[.slice none 0 0, .slice none 0 0, .slice none 0 0] 28 ?_; intro akE w3 aaM aCt hb; replace HB := bs HB hb; clear hb) | (refine gL 65 4 Tryz.func65 #[.slice A0 l0.length c0] ?_; (with_reducible refine (vw.calls (cu (Kd.aW HR0.out HB.out)) xq.out A2.out).mono ?_); rintro e w4 ⟨aHt, aHu, aHv, rfl, ho0, ho1, ho2, hb⟩; refine ⟨_, rfl, ?_⟩; have atG := ak (Kd.aA ho0 (aj bb)); have atH := ak (Kd.aA ho1 (aj bb)); have atI := ak (Kd.aA (Kd.nP ho2 (g := akE) (o := .cells #[.slice none 0 0, .slice none 0 0, .slice none 0 0] 28 (0, 0)) (ub aaM.out)) (aj bb)); replace aaM := kb aaM hb; replace HB := bz HB hb; clear hb; (try clear ho0); (try clear ho1); (try clear ho2); obtain ⟨Ao5, co5, eo5⟩ := Kd.aN atG.out; subst eo5; have z6 := jW aaM.out; obtain ⟨Ao7, co7, eo7⟩ := Kd.aN atH.out; subst eo7; obtain ⟨Ao8, co8, eo8⟩ := Kd.aN atI.out; subst eo8))
 refine bodyPost_ret (results_cell_row rfl _ _ akE 28 #[.slice Ao5 azB.length co5, .slice Ao7 azC.length co7, .slice Ao8 azD.length co8] (0, 0) _ rfl bq Tryz.underlying28 rfl (by kernel_rfl)) rfl ?_
 exact ⟨_, _, _, er, rr, rr, rr, bb⟩
def jS.f (k : Nat) (l0 : List Int) : Option (Bool) := if (l0.length : Int) > 1048576 then (some true) else ((jl.f k l0).bind fun Cm => ((lg.f k Cm.1 Cm.2.1 Cm.2.2).bind fun Ej => ((kZ.f k Cm.1 Cm.2.1 Cm.2.2).bind fun akF => (if Ej = akF then ((kE.f k Cm.1 Cm.2.1 Cm.2.2).bind fun JO => (if ((decide (Ej > 0)) != JO) = true then (some false) else (if Ej ≤ 16 then (if Ej = 1 then (some (decide ((Cm.2.2.length : Int) ≤ 1))) else (some true)) else (some false)))) else (some false)))))
theorem jS.calls {k c0 : Nat} {A0 : Option Addr} {l0 : List Int} {r : Bool} {w : World} (hr0 : Kd.C (Kd.int .u8) w A0 l0.length l0) (hc0 : l0.length ≤ c0) (Bl : MaxOk w) (h : jS.f k l0 = some r) :
  Calls Tryz.prog 10 #[.slice A0 l0.length c0] w fun e w' => e = .returned (.bool r) ∧ Below w.heap.size w w' := by
 have CG := Tryz.underlying28
 have HR0 := ak hr0
 have xq := ak hc0
 clear hr0 hc0
 have HG := ak Bl
 clear Bl
 have HB := ak (Below.refl w.heap.size w)
 unfold jS.f at h; have H := h
 clear h
 replace H := sp H
 rcases H with ⟨c2, H⟩ | ⟨c2, H⟩
 ·
  have oI : decide (1048576 < (l0.length : Int)) = true := decide_eq_true c2
  have uP : decide (1048576 < l0.length) = true := decide_eq_true (by omega)
  clear c2
  obtain rfl := s1 H
  go_enter Tryz.func10, Tryz.ntmps10
  go_wp2
  go_ret
  exact ⟨er, ul HB.out⟩
 ·
  have oI : decide (1048576 < (l0.length : Int)) = false := decide_eq_false c2
  have uP : decide (1048576 < l0.length) = false := decide_eq_false (by omega)
  clear c2
  replace H := bd H
  obtain ⟨⟨um, uo, wU⟩, A3, H⟩ := H
  (try dsimp only at H)
  replace H := bd H; obtain ⟨Ej, A4, H⟩ := H; replace H := bd H; obtain ⟨akF, A5, H⟩ := H; replace H := sq H
  rcases H with ⟨nT, wF, H⟩ | ⟨c6, nT, wF, H⟩
  ·
   replace H := bd H; obtain ⟨JO, A7, H⟩ := H; replace H := sp H
   rcases H with ⟨c8, H⟩ | ⟨c8, H⟩
   ·
    have sH : ((decide (Ej > 0)) != JO) = true := c8
    (try (have Ba : decide ((decide (Ej > 0)) = JO) = false := by simpa using c8))
    (try (have adA : ((decide (Ej > 0)) == JO) = false := by simpa using c8))
    (try (have ark : ¬ ((decide (Ej > 0)) = JO) := by simpa using c8))
    clear c8
    obtain rfl := s1 H
    go_enter Tryz.func10, Tryz.ntmps10
    go_wp2_with (first | (refine gL 40 9 Tryz.func40 #[.slice A0 l0.length c0] ?_; (with_reducible refine (jl.calls (cu HR0.out) xq.out A3.out).mono ?_); rintro e w9 ⟨aaN, aaO, aaP, rfl, ho0, ho1, ho2, hb⟩; refine ⟨_, rfl, ?_⟩; have fA := ak (Kd.aA ho0 (aj (ul HB.out))); have fB := ak (Kd.aA ho1 (aj (ul HB.out))); have fC := ak (Kd.aA ho2 (aj (ul HB.out))); replace HB := bs HB hb; clear hb; (try clear ho0); (try clear ho1); (try clear ho2)) | (refine gG 3 ?_; refine bY HB 3 #[.slice none 0 0, .slice none 0 0, .slice none 0 0] 28 ?_; intro iT w10 jy Uw hg hb; replace fA := rb fA hb; replace fB := rb fB hb; replace fC := ak (Kd.nO (Kd.uf (ur fC.out) iT (Nat.le_of_eq hg.symm)) hb); replace HB := bs HB hb; clear hb hg; obtain ⟨CU, Ad, O5⟩ := Kd.aN fA.out; subst O5; have z12 := jW jy.out; obtain ⟨NH, CO, OL⟩ := Kd.aN fB.out; subst OL; obtain ⟨QF, OM, SS⟩ := Kd.aN fC.out; subst SS) | (refine gB Tryz.func34 (lg.calls ?fG ((Kd.au fA.out).2.1) ?ug ((Kd.au fB.out).2.1) ?uh ((Kd.au fC.out).2.1) ?qc A4.out) ?_; (case fG => refine (Kd.au (e := 69) (base := w.heap.size) (ok := fun k_ => True) (n := um.length) (c := Ad) ?_).2.2; exact (rh fA)); (case ug => refine (Kd.au (e := 9) (base := w.heap.size) (ok := fun k_ => True) (n := uo.length) (c := CO) ?_).2.2; exact (rh fB)); (case uh => refine (Kd.au (e := 28) (base := w.heap.size) (ok := fun k_ => ((some k_ ≠ (.slice CU um.length Ad : Value).ownBlock ∧ some k_ ≠ (.slice NH uo.length CO : Value).ownBlock) ∧ k_ ≠ iT)) (n := wU.length) (c := OM) ?_).2.2; exact (ur (Kd.aZ (Kd.iW (p := ⟨iT, 2, none⟩) (Kd.iW (p := ⟨iT, 1, none⟩) (Kd.iW (p := ⟨iT, 0, none⟩) (Kd.aZ fC.out (fun k_ hk => (⟨hk, hk.2⟩ : _ ∧ k_ ≠ iT))) (fun _ hk => hk.2) (.slice CU um.length Ad)) (fun _ hk => hk.2) (.slice NH uo.length CO)) (fun _ hk => hk.2) (.slice QF wU.length OM)) (fun _ h_ => h_.1)))); (case qc => first | exact HG.out | exact MaxOk.below HG.out bb | (repeat (first | exact HG.out | apply MaxOk.drewN | apply MaxOk.drew))); intro w15 hb; replace fA := rg fA hb; replace fB := rg fB hb; replace fC := ak (Kd.nO (ur (Kd.aZ (Kd.iW (p := ⟨iT, 2, none⟩) (Kd.iW (p := ⟨iT, 1, none⟩) (Kd.iW (p := ⟨iT, 0, none⟩) (Kd.aZ fC.out (fun k_ hk => (⟨hk, hk.2⟩ : _ ∧ k_ ≠ iT))) (fun _ hk => hk.2) (.slice CU um.length Ad)) (fun _ hk => hk.2) (.slice NH uo.length CO)) (fun _ hk => hk.2) (.slice QF wU.length OM)) (fun _ h_ => h_.1))) hb); replace jy := kp jy #[.slice CU um.length Ad, .slice NH uo.length CO, .slice QF wU.length OM] hb; replace HB := bz HB hb; clear hb; have z16 := jW jy.out) | (refine gB Tryz.func33 (kZ.calls (cu ((Kd.au fA.out).2.2)) ((Kd.au fA.out).2.1) (cu ((Kd.au fB.out).2.2)) ((Kd.au fB.out).2.1) (cu ((Kd.au fC.out).2.2)) ((Kd.au fC.out).2.1) A5.out) ?_; intro w17 hb; replace fA := rb fA hb; replace fB := rb fB hb; replace fC := rb fC hb; replace jy := kb jy hb; replace HB := bz HB hb; clear hb; have z18 := jW jy.out) | (go_at_call 26; refine mB (kE.calls (cu ((Kd.au fA.out).2.2)) ((Kd.au fA.out).2.1) (cu ((Kd.au fB.out).2.2)) ((Kd.au fB.out).2.1) (cu ((Kd.au fC.out).2.2)) ((Kd.au fC.out).2.1) ?qc A7.out) ?_; (case qc => first | exact HG.out | exact MaxOk.below HG.out bb | (repeat (first | exact HG.out | apply MaxOk.drewN | apply MaxOk.drew))); intro Xq hb; replace fA := rb fA hb; replace fB := rb fB hb; replace fC := rb fC hb; replace jy := kb jy hb; replace HB := bz HB hb; clear hb))
    go_ret
    exact ⟨er, bb⟩
   ·
    have sH : ((decide (Ej > 0)) != JO) = false := by simpa using c8
    (try (have Ba : decide ((decide (Ej > 0)) = JO) = true := by simpa using c8))
    (try (have adA : ((decide (Ej > 0)) == JO) = true := by simpa using c8))
    clear c8
    replace H := sd H
    rcases H with ⟨MP, H⟩ | ⟨MP, H⟩
    ·
     replace H := sq H
     rcases H with ⟨Bo, YR, H⟩ | ⟨c21, Bo, YR, H⟩
     ·
      obtain rfl := s1 H
      go_enter Tryz.func10, Tryz.ntmps10
      go_wp2_with (first | (refine gL 40 9 Tryz.func40 #[.slice A0 l0.length c0] ?_; (with_reducible refine (jl.calls (cu HR0.out) xq.out A3.out).mono ?_); rintro e Xm ⟨aaN, aaO, aaP, rfl, ho0, ho1, ho2, hb⟩; refine ⟨_, rfl, ?_⟩; have fA := ak (Kd.aA ho0 (aj (ul HB.out))); have fB := ak (Kd.aA ho1 (aj (ul HB.out))); have fC := ak (Kd.aA ho2 (aj (ul HB.out))); replace HB := bs HB hb; clear hb; (try clear ho0); (try clear ho1); (try clear ho2)) | (refine gG 3 ?_; refine bY HB 3 #[.slice none 0 0, .slice none 0 0, .slice none 0 0] 28 ?_; intro iT w23 jy Uw hg hb; replace fA := rb fA hb; replace fB := rb fB hb; replace fC := ak (Kd.nO (Kd.uf (ur fC.out) iT (Nat.le_of_eq hg.symm)) hb); replace HB := bs HB hb; clear hb hg; obtain ⟨EF, DJ, am9⟩ := Kd.aN fA.out; subst am9; have z25 := jW jy.out; obtain ⟨V3, Um, ahv⟩ := Kd.aN fB.out; subst ahv; obtain ⟨ag_, Ua, aha⟩ := Kd.aN fC.out; subst aha) | (refine gB Tryz.func34 (lg.calls ?fG ((Kd.au fA.out).2.1) ?ug ((Kd.au fB.out).2.1) ?uh ((Kd.au fC.out).2.1) ?qc A4.out) ?_; (case fG => refine (Kd.au (e := 69) (base := w.heap.size) (ok := fun k_ => True) (n := um.length) (c := DJ) ?_).2.2; exact (rh fA)); (case ug => refine (Kd.au (e := 9) (base := w.heap.size) (ok := fun k_ => True) (n := uo.length) (c := Um) ?_).2.2; exact (rh fB)); (case uh => refine (Kd.au (e := 28) (base := w.heap.size) (ok := fun k_ => ((some k_ ≠ (.slice EF um.length DJ : Value).ownBlock ∧ some k_ ≠ (.slice V3 uo.length Um : Value).ownBlock) ∧ k_ ≠ iT)) (n := wU.length) (c := Ua) ?_).2.2; exact (ur (Kd.aZ (Kd.iW (p := ⟨iT, 2, none⟩) (Kd.iW (p := ⟨iT, 1, none⟩) (Kd.iW (p := ⟨iT, 0, none⟩) (Kd.aZ fC.out (fun k_ hk => (⟨hk, hk.2⟩ : _ ∧ k_ ≠ iT))) (fun _ hk => hk.2) (.slice EF um.length DJ)) (fun _ hk => hk.2) (.slice V3 uo.length Um)) (fun _ hk => hk.2) (.slice ag_ wU.length Ua)) (fun _ h_ => h_.1)))); (case qc => first | exact HG.out | exact MaxOk.below HG.out bb | (repeat (first | exact HG.out | apply MaxOk.drewN | apply MaxOk.drew))); intro w28 hb; replace fA := rg fA hb; replace fB := rg fB hb; replace fC := ak (Kd.nO (ur (Kd.aZ (Kd.iW (p := ⟨iT, 2, none⟩) (Kd.iW (p := ⟨iT, 1, none⟩) (Kd.iW (p := ⟨iT, 0, none⟩) (Kd.aZ fC.out (fun k_ hk => (⟨hk, hk.2⟩ : _ ∧ k_ ≠ iT))) (fun _ hk => hk.2) (.slice EF um.length DJ)) (fun _ hk => hk.2) (.slice V3 uo.length Um)) (fun _ hk => hk.2) (.slice ag_ wU.length Ua)) (fun _ h_ => h_.1))) hb); replace jy := kp jy #[.slice EF um.length DJ, .slice V3 uo.length Um, .slice ag_ wU.length Ua] hb; replace HB := bz HB hb; clear hb; have z29 := jW jy.out) | (refine gB Tryz.func33 (kZ.calls (cu ((Kd.au fA.out).2.2)) ((Kd.au fA.out).2.1) (cu ((Kd.au fB.out).2.2)) ((Kd.au fB.out).2.1) (cu ((Kd.au fC.out).2.2)) ((Kd.au fC.out).2.1) A5.out) ?_; intro w30 hb; replace fA := rb fA hb; replace fB := rb fB hb; replace fC := rb fC hb; replace jy := kb jy hb; replace HB := bz HB hb; clear hb; have z31 := jW jy.out) | (go_at_call 26; refine mB (kE.calls (cu ((Kd.au fA.out).2.2)) ((Kd.au fA.out).2.1) (cu ((Kd.au fB.out).2.2)) ((Kd.au fB.out).2.1) (cu ((Kd.au fC.out).2.2)) ((Kd.au fC.out).2.1) ?qc A7.out) ?_; (case qc => first | exact HG.out | exact MaxOk.below HG.out bb | (repeat (first | exact HG.out | apply MaxOk.drewN | apply MaxOk.drew))); intro w32 hb; replace fA := rb fA hb; replace fB := rb fB hb; replace fC := rb fC hb; replace jy := kb jy hb; replace HB := bz HB hb; clear hb; have z33 := jW jy.out))
      go_ret
      exact ⟨er, bb⟩
     ·
      obtain rfl := s1 H
      go_enter Tryz.func10, Tryz.ntmps10
      go_wp2_with (first | (refine gL 40 9 Tryz.func40 #[.slice A0 l0.length c0] ?_; (with_reducible refine (jl.calls (cu HR0.out) xq.out A3.out).mono ?_); rintro e w34 ⟨aaN, aaO, aaP, rfl, ho0, ho1, ho2, hb⟩; refine ⟨_, rfl, ?_⟩; have fA := ak (Kd.aA ho0 (aj (ul HB.out))); have fB := ak (Kd.aA ho1 (aj (ul HB.out))); have fC := ak (Kd.aA ho2 (aj (ul HB.out))); replace HB := bs HB hb; clear hb; (try clear ho0); (try clear ho1); (try clear ho2)) | (refine gG 3 ?_; refine bY HB 3 #[.slice none 0 0, .slice none 0 0, .slice none 0 0] 28 ?_; intro iT w35 jy Uw hg hb; replace fA := rb fA hb; replace fB := rb fB hb; replace fC := ak (Kd.nO (Kd.uf (ur fC.out) iT (Nat.le_of_eq hg.symm)) hb); replace HB := bs HB hb; clear hb hg; obtain ⟨XB, VG, adx⟩ := Kd.aN fA.out; subst adx; have z37 := jW jy.out; obtain ⟨ady, abJ, amm⟩ := Kd.aN fB.out; subst amm; obtain ⟨abT, VZ, XO⟩ := Kd.aN fC.out; subst XO) | (refine gB Tryz.func34 (lg.calls ?fG ((Kd.au fA.out).2.1) ?ug ((Kd.au fB.out).2.1) ?uh ((Kd.au fC.out).2.1) ?qc A4.out) ?_; (case fG => refine (Kd.au (e := 69) (base := w.heap.size) (ok := fun k_ => True) (n := um.length) (c := VG) ?_).2.2; exact (rh fA)); (case ug => refine (Kd.au (e := 9) (base := w.heap.size) (ok := fun k_ => True) (n := uo.length) (c := abJ) ?_).2.2; exact (rh fB)); (case uh => refine (Kd.au (e := 28) (base := w.heap.size) (ok := fun k_ => ((some k_ ≠ (.slice XB um.length VG : Value).ownBlock ∧ some k_ ≠ (.slice ady uo.length abJ : Value).ownBlock) ∧ k_ ≠ iT)) (n := wU.length) (c := VZ) ?_).2.2; exact (ur (Kd.aZ (Kd.iW (p := ⟨iT, 2, none⟩) (Kd.iW (p := ⟨iT, 1, none⟩) (Kd.iW (p := ⟨iT, 0, none⟩) (Kd.aZ fC.out (fun k_ hk => (⟨hk, hk.2⟩ : _ ∧ k_ ≠ iT))) (fun _ hk => hk.2) (.slice XB um.length VG)) (fun _ hk => hk.2) (.slice ady uo.length abJ)) (fun _ hk => hk.2) (.slice abT wU.length VZ)) (fun _ h_ => h_.1)))); (case qc => first | exact HG.out | exact MaxOk.below HG.out bb | (repeat (first | exact HG.out | apply MaxOk.drewN | apply MaxOk.drew))); intro w40 hb; replace fA := rg fA hb; replace fB := rg fB hb; replace fC := ak (Kd.nO (ur (Kd.aZ (Kd.iW (p := ⟨iT, 2, none⟩) (Kd.iW (p := ⟨iT, 1, none⟩) (Kd.iW (p := ⟨iT, 0, none⟩) (Kd.aZ fC.out (fun k_ hk => (⟨hk, hk.2⟩ : _ ∧ k_ ≠ iT))) (fun _ hk => hk.2) (.slice XB um.length VG)) (fun _ hk => hk.2) (.slice ady uo.length abJ)) (fun _ hk => hk.2) (.slice abT wU.length VZ)) (fun _ h_ => h_.1))) hb); replace jy := kp jy #[.slice XB um.length VG, .slice ady uo.length abJ, .slice abT wU.length VZ] hb; replace HB := bz HB hb; clear hb; have z41 := jW jy.out) | (refine gB Tryz.func33 (kZ.calls (cu ((Kd.au fA.out).2.2)) ((Kd.au fA.out).2.1) (cu ((Kd.au fB.out).2.2)) ((Kd.au fB.out).2.1) (cu ((Kd.au fC.out).2.2)) ((Kd.au fC.out).2.1) A5.out) ?_; intro w42 hb; replace fA := rb fA hb; replace fB := rb fB hb; replace fC := rb fC hb; replace jy := kb jy hb; replace HB := bz HB hb; clear hb; have z43 := jW jy.out) | (go_at_call 26; refine mB (kE.calls (cu ((Kd.au fA.out).2.2)) ((Kd.au fA.out).2.1) (cu ((Kd.au fB.out).2.2)) ((Kd.au fB.out).2.1) (cu ((Kd.au fC.out).2.2)) ((Kd.au fC.out).2.1) ?qc A7.out) ?_; (case qc => first | exact HG.out | exact MaxOk.below HG.out bb | (repeat (first | exact HG.out | apply MaxOk.drewN | apply MaxOk.drew))); intro w44 hb; replace fA := rb fA hb; replace fB := rb fB hb; replace fC := rb fC hb; replace jy := kb jy hb; replace HB := bz HB hb; clear hb))
      go_ret
      exact ⟨er, bb⟩
    ·
     obtain rfl := s1 H
     go_enter Tryz.func10, Tryz.ntmps10
     go_wp2_with (first | (refine gL 40 9 Tryz.func40 #[.slice A0 l0.length c0] ?_; (with_reducible refine (jl.calls (cu HR0.out) xq.out A3.out).mono ?_); rintro e w45 ⟨aaN, aaO, aaP, rfl, ho0, ho1, ho2, hb⟩; refine ⟨_, rfl, ?_⟩; have fA := ak (Kd.aA ho0 (aj (ul HB.out))); have fB := ak (Kd.aA ho1 (aj (ul HB.out))); have fC := ak (Kd.aA ho2 (aj (ul HB.out))); replace HB := bs HB hb; clear hb; (try clear ho0); (try clear ho1); (try clear ho2)) | (refine gG 3 ?_; refine bY HB 3 #[.slice none 0 0, .slice none 0 0, .slice none 0 0] 28 ?_; intro iT w46 jy Uw hg hb; replace fA := rb fA hb; replace fB := rb fB hb; replace fC := ak (Kd.nO (Kd.uf (ur fC.out) iT (Nat.le_of_eq hg.symm)) hb); replace HB := bs HB hb; clear hb hg; obtain ⟨Vf, Tj, aby⟩ := Kd.aN fA.out; subst aby; have z48 := jW jy.out; obtain ⟨PK, NS, XK⟩ := Kd.aN fB.out; subst XK; obtain ⟨Ac, zM, adl⟩ := Kd.aN fC.out; subst adl) | (refine gB Tryz.func34 (lg.calls ?fG ((Kd.au fA.out).2.1) ?ug ((Kd.au fB.out).2.1) ?uh ((Kd.au fC.out).2.1) ?qc A4.out) ?_; (case fG => refine (Kd.au (e := 69) (base := w.heap.size) (ok := fun k_ => True) (n := um.length) (c := Tj) ?_).2.2; exact (rh fA)); (case ug => refine (Kd.au (e := 9) (base := w.heap.size) (ok := fun k_ => True) (n := uo.length) (c := NS) ?_).2.2; exact (rh fB)); (case uh => refine (Kd.au (e := 28) (base := w.heap.size) (ok := fun k_ => ((some k_ ≠ (.slice Vf um.length Tj : Value).ownBlock ∧ some k_ ≠ (.slice PK uo.length NS : Value).ownBlock) ∧ k_ ≠ iT)) (n := wU.length) (c := zM) ?_).2.2; exact (ur (Kd.aZ (Kd.iW (p := ⟨iT, 2, none⟩) (Kd.iW (p := ⟨iT, 1, none⟩) (Kd.iW (p := ⟨iT, 0, none⟩) (Kd.aZ fC.out (fun k_ hk => (⟨hk, hk.2⟩ : _ ∧ k_ ≠ iT))) (fun _ hk => hk.2) (.slice Vf um.length Tj)) (fun _ hk => hk.2) (.slice PK uo.length NS)) (fun _ hk => hk.2) (.slice Ac wU.length zM)) (fun _ h_ => h_.1)))); (case qc => first | exact HG.out | exact MaxOk.below HG.out bb | (repeat (first | exact HG.out | apply MaxOk.drewN | apply MaxOk.drew))); intro w51 hb; replace fA := rg fA hb; replace fB := rg fB hb; replace fC := ak (Kd.nO (ur (Kd.aZ (Kd.iW (p := ⟨iT, 2, none⟩) (Kd.iW (p := ⟨iT, 1, none⟩) (Kd.iW (p := ⟨iT, 0, none⟩) (Kd.aZ fC.out (fun k_ hk => (⟨hk, hk.2⟩ : _ ∧ k_ ≠ iT))) (fun _ hk => hk.2) (.slice Vf um.length Tj)) (fun _ hk => hk.2) (.slice PK uo.length NS)) (fun _ hk => hk.2) (.slice Ac wU.length zM)) (fun _ h_ => h_.1))) hb); replace jy := kp jy #[.slice Vf um.length Tj, .slice PK uo.length NS, .slice Ac wU.length zM] hb; replace HB := bz HB hb; clear hb; have z52 := jW jy.out) | (refine gB Tryz.func33 (kZ.calls (cu ((Kd.au fA.out).2.2)) ((Kd.au fA.out).2.1) (cu ((Kd.au fB.out).2.2)) ((Kd.au fB.out).2.1) (cu ((Kd.au fC.out).2.2)) ((Kd.au fC.out).2.1) A5.out) ?_; intro w53 hb; replace fA := rb fA hb; replace fB := rb fB hb; replace fC := rb fC hb; replace jy := kb jy hb; replace HB := bz HB hb; clear hb; have z54 := jW jy.out) | (go_at_call 26; refine mB (kE.calls (cu ((Kd.au fA.out).2.2)) ((Kd.au fA.out).2.1) (cu ((Kd.au fB.out).2.2)) ((Kd.au fB.out).2.1) (cu ((Kd.au fC.out).2.2)) ((Kd.au fC.out).2.1) ?qc A7.out) ?_; (case qc => first | exact HG.out | exact MaxOk.below HG.out bb | (repeat (first | exact HG.out | apply MaxOk.drewN | apply MaxOk.drew))); intro w55 hb; replace fA := rb fA hb; replace fB := rb fB hb; replace fC := rb fC hb; replace jy := kb jy hb; replace HB := bz HB hb; clear hb))
     go_ret
     exact ⟨er, bb⟩
  ·
   obtain rfl := s1 H
   go_enter Tryz.func10, Tryz.ntmps10
   go_wp2_with (first | (refine gL 40 9 Tryz.func40 #[.slice A0 l0.length c0] ?_; (with_reducible refine (jl.calls (cu HR0.out) xq.out A3.out).mono ?_); rintro e w56 ⟨aaN, aaO, aaP, rfl, ho0, ho1, ho2, hb⟩; refine ⟨_, rfl, ?_⟩; have fA := ak (Kd.aA ho0 (aj (ul HB.out))); have fB := ak (Kd.aA ho1 (aj (ul HB.out))); have fC := ak (Kd.aA ho2 (aj (ul HB.out))); replace HB := bs HB hb; clear hb; (try clear ho0); (try clear ho1); (try clear ho2)) | (refine gG 3 ?_; refine bY HB 3 #[.slice none 0 0, .slice none 0 0, .slice none 0 0] 28 ?_; intro iT w57 jy Uw hg hb; replace fA := rb fA hb; replace fB := rb fB hb; replace fC := ak (Kd.nO (Kd.uf (ur fC.out) iT (Nat.le_of_eq hg.symm)) hb); replace HB := bs HB hb; clear hb hg; obtain ⟨QT, PU, XR⟩ := Kd.aN fA.out; subst XR; have z59 := jW jy.out; obtain ⟨ahE, aeY, azE⟩ := Kd.aN fB.out; subst azE; obtain ⟨abU, XT, ahy⟩ := Kd.aN fC.out; subst ahy) | (refine gB Tryz.func34 (lg.calls ?fG ((Kd.au fA.out).2.1) ?ug ((Kd.au fB.out).2.1) ?uh ((Kd.au fC.out).2.1) ?qc A4.out) ?_; (case fG => refine (Kd.au (e := 69) (base := w.heap.size) (ok := fun k_ => True) (n := um.length) (c := PU) ?_).2.2; exact (rh fA)); (case ug => refine (Kd.au (e := 9) (base := w.heap.size) (ok := fun k_ => True) (n := uo.length) (c := aeY) ?_).2.2; exact (rh fB)); (case uh => refine (Kd.au (e := 28) (base := w.heap.size) (ok := fun k_ => ((some k_ ≠ (.slice QT um.length PU : Value).ownBlock ∧ some k_ ≠ (.slice ahE uo.length aeY : Value).ownBlock) ∧ k_ ≠ iT)) (n := wU.length) (c := XT) ?_).2.2; exact (ur (Kd.aZ (Kd.iW (p := ⟨iT, 2, none⟩) (Kd.iW (p := ⟨iT, 1, none⟩) (Kd.iW (p := ⟨iT, 0, none⟩) (Kd.aZ fC.out (fun k_ hk => (⟨hk, hk.2⟩ : _ ∧ k_ ≠ iT))) (fun _ hk => hk.2) (.slice QT um.length PU)) (fun _ hk => hk.2) (.slice ahE uo.length aeY)) (fun _ hk => hk.2) (.slice abU wU.length XT)) (fun _ h_ => h_.1)))); (case qc => first | exact HG.out | exact MaxOk.below HG.out bb | (repeat (first | exact HG.out | apply MaxOk.drewN | apply MaxOk.drew))); intro w62 hb; replace fA := rg fA hb; replace fB := rg fB hb; replace fC := ak (Kd.nO (ur (Kd.aZ (Kd.iW (p := ⟨iT, 2, none⟩) (Kd.iW (p := ⟨iT, 1, none⟩) (Kd.iW (p := ⟨iT, 0, none⟩) (Kd.aZ fC.out (fun k_ hk => (⟨hk, hk.2⟩ : _ ∧ k_ ≠ iT))) (fun _ hk => hk.2) (.slice QT um.length PU)) (fun _ hk => hk.2) (.slice ahE uo.length aeY)) (fun _ hk => hk.2) (.slice abU wU.length XT)) (fun _ h_ => h_.1))) hb); replace jy := kp jy #[.slice QT um.length PU, .slice ahE uo.length aeY, .slice abU wU.length XT] hb; replace HB := bz HB hb; clear hb; have z63 := jW jy.out) | (refine gB Tryz.func33 (kZ.calls (cu ((Kd.au fA.out).2.2)) ((Kd.au fA.out).2.1) (cu ((Kd.au fB.out).2.2)) ((Kd.au fB.out).2.1) (cu ((Kd.au fC.out).2.2)) ((Kd.au fC.out).2.1) A5.out) ?_; intro w64 hb; replace fA := rb fA hb; replace fB := rb fB hb; replace fC := rb fC hb; replace jy := kb jy hb; replace HB := bz HB hb; clear hb))
   go_ret
   exact ⟨er, bb⟩
/-- THE ONE PURE STATEMENT of laws_FnCountParts: yours. -/
def jS.Pure : Prop := ∀ (l0 : List Int), l0.length ≤ maxLen → l0.length * 1 ≤ 140737488351232 → (∀ x ∈ l0, (Lit.int .u8 x).wf = true) → ∃ k, jS.f k l0 = some true
theorem jS.walk (P : jS.Pure) (a0 : Option Addr) (len0 cap0 : Nat) (z0 : List Int) (w : World) (w0 : (a0 = none ∧ len0 = 0 ∧ cap0 = 0 ∧ z0 = []) ∨ ∃ x, a0 = some x ∧ len0 ≤ cap0 ∧ cap0 ≤ maxLen ∧ z0.length = cap0 ∧ (∀ i, i < z0.length → w.cell? (x.add i) = some (.int .u8 (z0.getD i 0))) ∧ ∀ n ∈ z0, (Lit.int .u8 n).wf = true) (y0 : len0 * 1 ≤ 140737488351232) (Bl : MaxOk w) :
  Calls Tryz.prog 10 #[.slice a0 len0 cap0] w fun e w' => e = .returned (.bool true) ∧ Below w.heap.size w w' := by
 obtain ⟨l0, rfl, hr0, hm0, hw0, hc0⟩ := lT.anl w0
 obtain ⟨k, h⟩ := P l0 hm0 y0 hw0
 refine (jS.calls (Kd.H_ (d := (0 : Int)) (h1 := fun _ => rfl) hr0) hc0 Bl h).mono ?_
 rintro e w' ⟨rfl, hd⟩
 exact ⟨rfl, hd⟩
end Go.Proofs.YtncdadcmghglkaaGreatDoor.PFnCountParts
