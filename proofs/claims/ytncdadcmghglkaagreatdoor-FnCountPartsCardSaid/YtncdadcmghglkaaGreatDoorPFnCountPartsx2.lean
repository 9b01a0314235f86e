/- Printed walks; conditions: those in each statement. -/
import Derived.Test.YtncdadcmghglkaaGreatDoorVFnCountPartsQt
import Derived.Test.YtncdadcmghglkaaGreatDoorVFnCountPartsYt
import Derived.Test.YtncdadcmghglkaaGreatDoorPFnCountPartsx0
import Derived.Test.YtncdadcmghglkaaGreatDoorPFnCountPartsx1
-- fixed
-- short
-- dense
-- sq
-- sq2
namespace Go.Proofs.YtncdadcmghglkaaGreatDoor.PFnCountParts
open Go.RowKit Go.Proofs.YtncdadcmghglkaaGreatDoor.X Go.Proofs.YtncdadcmghglkaaGreatDoorW.bI Go.Proofs.YtncdadcmghglkaaGreatDoorW.gI Go.Proofs.YtncdadcmghglkaaGreatDoorW.iL
attribute [local go_sem] kN kP mF mG jB jC kQ kR   -- for this text's walks alone
set_option linter.unusedVariables false
set_option maxHeartbeats 8000000
set_option maxRecDepth 100000
set_option linter.unusedSimpArgs false
mutual
def aI.j0 : Nat → ByteArray → Int → Option (List ByteArray)
 | 0, _, _ => none
 | k + 1, x3, x4 => aI.l0 k x3 x4 (([] : List ByteArray))
def aI.l0 : Nat → ByteArray → Int → List ByteArray → Option (List ByteArray)
 | 0, _, _, _ => none
 | k + 1, x3, x4, x5 => if (x3.size : Int) > 40 then (aI.l1 k x3 x5 (-1) x4) else (if x5.length < 8796093022208 then (some (x5 ++ [x3])) else (none))
def aI.l1 : Nat → ByteArray → List ByteArray → Int → Int → Option (List ByteArray)
 | 0, _, _, _, _ => none
 | k + 1, x3, x5, x6, x7 => if (wrap64 (x7 + 1)) < (x3.size : Int) then (if 0 ≤ x7 then (if x7 < (x3.size : Int) then (if (bt x3 x7) = 32 then (if 0 ≤ (wrap64 (x7 - 1)) then (if (wrap64 (x7 - 1)) < (x3.size : Int) then (if (bt x3 (wrap64 (x7 - 1))) = 32 then (aI.l1 k x3 x5 x6 (wrap64 (x7 + 1))) else (if 0 ≤ (wrap64 (x7 + 1)) then (if (bt x3 (wrap64 (x7 + 1))) = 32 then (aI.l1 k x3 x5 x6 (wrap64 (x7 + 1))) else (if x6 < 0 then (aI.l1 k x3 x5 x7 (wrap64 (x7 + 1))) else (if x7 ≤ 40 then (aI.l1 k x3 x5 x7 (wrap64 (x7 + 1))) else (aI.l1 k x3 x5 x6 (wrap64 (x7 + 1)))))) else (none))) else (none)) else (none)) else (aI.l1 k x3 x5 x6 (wrap64 (x7 + 1)))) else (none)) else (none)) else (if x6 < 0 then (if x5.length < 8796093022208 then (some (x5 ++ [x3])) else (none)) else (if 0 ≤ x6 then (if x6 ≤ (x3.size : Int) then (if x5.length < 8796093022208 then (aI.l0 k (x3.extract (x6 : Int).toNat x3.size) 2 (x5 ++ [x3.extract 0 (x6 : Int).toNat])) else (none)) else (none)) else (none)))
end
def aI.f (k : Nat) (eF : ByteArray) (eP : ByteArray) : Option (List ByteArray) := if eF.size + 1 ≤ 9223372036854775807 then (if eP.toList = ([] : List UInt8) then (aI.j0 k (eF ++ (⟨#[58]⟩ : ByteArray)) (wrap64 ((eF.size : Int) + 3))) else (if 1 + eP.size ≤ 9223372036854775807 then (if (eF ++ (⟨#[58]⟩ : ByteArray)).size + ((⟨#[32]⟩ : ByteArray) ++ eP).size ≤ 9223372036854775807 then (aI.j0 k ((eF ++ (⟨#[58]⟩ : ByteArray)) ++ ((⟨#[32]⟩ : ByteArray) ++ eP)) (wrap64 ((eF.size : Int) + 3))) else (none)) else (none))) else (none)
def aI.T1 : Bool × List (List Nat × List Nat) := (true, [([], []), ([0], [0]), ([1], [1]), ([], []), ([3], [3]), ([4], [4]), ([5], [5]), ([2, 0, 1, 2], [2]), ([6, 7, 0, 1, 2, 3, 4, 5, 6, 7], [6])])
def aI.B1 : List Nat := [0, 1, 3, 0, 8, 24, 56, 7, 255]
theorem aI.aqC : sJ .any (opsOf Tryz.f83 1) = aI.T1 := by kernel_rfl
theorem aI.ajd : nV aI.T1.2 aI.B1 = true := by kernel_rfl
def aI.T13 : Bool × List (List Nat × List Nat) := (true, [([], []), ([], []), ([], []), ([1, 2], [1, 2]), ([3], [3]), ([0, 4], [0, 4]), ([], []), ([], []), ([6, 7], [6, 7]), ([5, 5, 0, 1, 2, 3, 4, 5], [0, 5]), ([8, 9, 0, 1, 2, 3, 4, 5, 6, 7, 8, 9], [1, 6, 8]), ([10, 0, 1, 2, 3, 4, 5, 6, 7, 8, 9, 10], [])])
def aI.B13 : List Nat := [0, 0, 0, 6, 14, 31, 0, 0, 192, 63, 1023, 2047]
theorem aI.Y3 : sJ .any (opsOf Tryz.f83 13) = aI.T13 := by kernel_rfl
theorem aI.TJ : nV aI.T13.2 aI.B13 = true := by kernel_rfl
theorem aI.calls {k : Nat} {eF eP : ByteArray} {r : List ByteArray} {w : World} (h : aI.f k eF eP = some r) :
  Calls Tryz.prog 83 #[.agg #[.string eF, .string eP]] w fun e w' => ∃ qj : Value, e = .returned (qj) ∧ Kd.R Kd.string 9 w' w.heap.size (fun _ => True) qj r ∧ Below w.heap.size w w' := by
 have Dt := Tryz.underlying69
 have HB := ak (Below.refl w.heap.size w)
 unfold aI.f at h; have H := h
 clear h
 replace H := nn H; obtain ⟨c2, H⟩ := H
 have oI := eq_true c2
 have uP := decide_eq_true c2
 try have XE : (9223372036854775807 < eF.size + 1) = False := eq_false (Nat.not_lt.2 c2)
 have O7 := ak H
 clear H
 go_enter Tryz.func83, Tryz.ntmps83
 try go_wp2_with (refine bX HB 1 #[.string eF, .string eP] 69 ?_; intro MV w4 qg aA2 hb; replace HB := bs HB hb; clear hb)
 refine rO [] [0, 3, 1, 2, 7, 4, 5, 6, 8] (fun w' => w'.cell? ⟨MV, 0, none⟩ = some (.string eF) ∧ w'.cell? ⟨MV, 1, none⟩ = some (.string eP)) ?_
 intro w5 hb
 replace qg := kb qg hb
 replace HB := bs HB hb
 refine ⟨sx, ?_⟩
 repeat refine y8 ?_
 refine on ?_
 have z6 := zx qg.out
 go_upto_if 17 with (fail)
 go_cut [3] (fun v3 wc => ∃ (kq : Nat) (lF : ByteArray), v3 = .string lF ∧ ah (aI.j0 kq lF (wrap64 ((eF.size : Int) + 3)) = some r) ∧ ah (kq ≤ k) ∧ ah (wc.heap[MV]? = some (.cells #[.string eF, .string eP] 69 (0, 0))) ∧ ah (Below w.heap.size w wc))
 case first =>
  have H := O7.out
  clear O7
  replace H := sp H
  rcases H with ⟨c7, H⟩ | ⟨c7, H⟩
  ·
   have rY := beq_iff_eq.mpr c7
   have c7e : (eP.toList).isEmpty = true := List.isEmpty_iff.mpr c7
   have Lc := bne_eq_false_iff_eq.mpr c7
   clear c7
   (first | rw [rY] | (simp only [dU, fU]; rw [rY]) | skip)
   (first | (rw [c7e]; simp only [Bool.not_true, Bool.not_false]) | skip)
   have H' := ak H; clear H
   go_wp2
   go_meet
   case rel => exact ⟨_, _, rs, H', ⟨KR⟩, ⟨ub qg.out⟩, ⟨bb⟩⟩
  ·
   have rY := beq_eq_false_iff_ne.mpr c7
   have c7e : (eP.toList).isEmpty = false := List.isEmpty_eq_false_iff.mpr c7
   have Lc := bne_iff_ne.mpr c7
   (first | rw [rY] | (simp only [dU, fU]; rw [rY]) | skip)
   (first | (rw [c7e]; simp only [Bool.not_true, Bool.not_false]) | skip)
   replace H := nn H; obtain ⟨c8, H⟩ := H
   have sH := eq_true c8
   have Ba := decide_eq_true c8
   try have adA : (9223372036854775807 < 1 + eP.size) = False := eq_false (Nat.not_lt.2 c8)
   replace H := nn H; obtain ⟨c9, H⟩ := H
   have xU := eq_true c9
   have EX := decide_eq_true c9
   try have aEx : (9223372036854775807 < eF.size + 1 + (1 + eP.size)) = False := by have h_ := (eq_false (Nat.not_lt.2 c9) : (9223372036854775807 < (eF ++ (⟨#[58]⟩ : ByteArray)).size + ((⟨#[32]⟩ : ByteArray) ++ eP).size) = False); simp only [ByteArray.size_append] at h_; exact h_
   try have aqD : (9223372036854775807 < (eF ++ (⟨#[58]⟩ : ByteArray)).size + ((⟨#[32]⟩ : ByteArray) ++ eP).size) = False := eq_false (Nat.not_lt.2 c9)
   have H' := ak H; clear H
   have z10 := zx qg.out
   go_wp2
   go_meet
   case rel => exact ⟨_, _, rs, H', ⟨KR⟩, ⟨ub qg.out⟩, ⟨bb⟩⟩
 case rest =>
  clear O7
  try clear c2
  try clear oI
  try clear uP
  try clear XE
  obtain ⟨kq, lF, rfl, HA, HJ2, qg, HB⟩ := hcut
  cases kq with
  | zero => exact zz HA.out
  | succ Y9 =>
   obtain ⟨H⟩ := HA
   simp only [aI.j0] at H
   obtain ⟨aEy, aje⟩ := nm ([] : List ByteArray)
   rw [← aje.out] at H
   have H' := ak H; clear H
   go_wp2_with (refine GN 23 Kd.string 9 aje ?_; intro aEz SN ac9 hb; have aqE := ak (Kd.aA ac9 (aj bb)); replace qg := kb qg hb; replace HB := bz HB hb; clear hb ac9)
   go_loopg [3, 4, 5] Y9 (fun kq v3 v4 v5 w' => ∃ (lF : ByteArray) (oK : Int) (sV : List ByteArray), v3 = .string lF ∧ v4 = .int .i64 oK ∧ ah (aI.l0 kq lF oK sV = some r) ∧ ah (kq ≤ Y9) ∧ ah (Kd.R Kd.string 9 w' w.heap.size (fun _ => True) v5 sV) ∧ ah (w'.heap[MV]? = some (.cells #[.string eF, .string eP] 69 (0, 0))) ∧ ah (Below w.heap.size w w'))
   case atStart => exact ⟨_, _, _, rs, rs, H', ⟨Nat.le_refl _⟩, ⟨ur aqE.out⟩, ⟨ub qg.out⟩, ⟨bb⟩⟩
   case round =>
    clear H'
    try clear c2
    try clear oI
    try clear uP
    try clear XE
    obtain ⟨lF, oK, sV, rfl, rfl, HA, HK2, qp, qg, HB⟩ := hrel
    cases gk with
    | zero => exact zz HA.out
    | succ k2 =>
     obtain ⟨H⟩ := HA
     simp only [aI.l0] at H
     replace H := sp H
     rcases H with ⟨c13, H⟩ | ⟨c13, H⟩
     ·
      have vS : decide (40 < (lF.size : Int)) = true := decide_eq_true c13
      have zB : decide (40 < lF.size) = true := decide_eq_true (by omega)
      clear c13
      have H' := ak H; clear H
      go_wp2
      go_loopg [6, 7] k2 (fun kq v6 v7 w' => ∃ (CV : Int) (pW : Int), v6 = .int .i64 CV ∧ v7 = .int .i64 pW ∧ ah (aI.l1 kq lF sV CV pW = some r) ∧ ah (kq ≤ k2) ∧ ah (Kd.R Kd.string 9 w' w.heap.size (fun _ => True) u5 sV) ∧ ah (w'.heap[MV]? = some (.cells #[.string eF, .string eP] 69 (0, 0))) ∧ ah (Below w.heap.size w w'))
      case atStart => exact ⟨_, _, rs, rs, H', ⟨Nat.le_refl _⟩, ⟨ur qp.out⟩, ⟨ub qg.out⟩, ⟨bb⟩⟩
      case round =>
       clear H'
       try clear c2
       try clear oI
       try clear uP
       try clear XE
       try clear c13
       try clear vS
       try clear zB
       obtain ⟨CV, pW, rfl, rfl, HA, YL, qp, qg, HB⟩ := hrel
       cases gk with
       | zero => exact zz HA.out
       | succ k3 =>
        obtain ⟨H⟩ := HA
        simp only [aI.l1] at H
        replace H := sp H
        rcases H with ⟨c14, H⟩ | ⟨c14, H⟩
        ·
         have tu := decide_eq_true c14
         (try (have xA : decide ((pW + 1) < (lF.size : Int)) = true := decide_eq_true (by have h_ := c14; unfold wrap64 at h_; omega)))
         clear c14
         replace H := oM H; obtain ⟨vT, H⟩ := H; replace H := oM H; obtain ⟨zD, H⟩ := H; replace H := sq H
         rcases H with ⟨zC, OT, H⟩ | ⟨c18, zC, OT, H⟩
         ·
          obtain ⟨TU, adB⟩ : ∃ j_ : Int, (wrap64 (pW - 1)) = j_ := ⟨_, rfl⟩
          replace H : (if 0 ≤ (TU) then (if (TU) < (lF.size : Int) then (if (bt lF (TU)) = 32 then (aI.l1 k3 lF sV CV (wrap64 (pW + 1))) else (if 0 ≤ (wrap64 (pW + 1)) then (if (bt lF (wrap64 (pW + 1))) = 32 then (aI.l1 k3 lF sV CV (wrap64 (pW + 1))) else (if CV < 0 then (aI.l1 k3 lF sV pW (wrap64 (pW + 1))) else (if pW ≤ 40 then (aI.l1 k3 lF sV pW (wrap64 (pW + 1))) else (aI.l1 k3 lF sV CV (wrap64 (pW + 1)))))) else (none))) else (none)) else (none)) = some r := by first | (rw [adB] at H; exact H) | (simp only [adB] at H ⊢; exact H)
          have axL : (IntKind.i64.wrap (pW - 1)) = TU := (dU _).trans adB
          replace H := oM H; obtain ⟨MP, H⟩ := H; replace H := oM H; obtain ⟨Bo, H⟩ := H; replace H := sq H
          rcases H with ⟨Ae, MR, H⟩ | ⟨c23, Ae, MR, H⟩
          ·
           have H' := ak H; clear H
           obtain ⟨p17, q17, adC⟩ := bx lF pW
           obtain ⟨p22, q22, agT⟩ := bx lF (TU)
           go_wp2
           go_roundg k3
           case measure => exact kl
           case rel => exact ⟨_, _, rs, rs, H', ⟨kl⟩, ⟨ur qp.out⟩, ⟨ub qg.out⟩, ⟨bb⟩⟩
          ·
           obtain ⟨Pm, MW⟩ : ∃ j_ : Int, (wrap64 (pW + 1)) = j_ := ⟨_, rfl⟩
           replace H : (if 0 ≤ (Pm) then (if (bt lF (Pm)) = 32 then (aI.l1 k3 lF sV CV Pm) else (if CV < 0 then (aI.l1 k3 lF sV pW Pm) else (if pW ≤ 40 then (aI.l1 k3 lF sV pW Pm) else (aI.l1 k3 lF sV CV Pm)))) else (none)) = some r := by first | (rw [MW] at H; exact H) | (simp only [MW] at H ⊢; exact H)
           (try rw [MW] at tu)
           have axM : (IntKind.i64.wrap (pW + 1)) = Pm := (dU _).trans MW
           replace H := oM H; obtain ⟨OW, H⟩ := H; replace H := sq H
           rcases H with ⟨EO, YX, H⟩ | ⟨c27, EO, YX, H⟩
           ·
            have H' := ak H; clear H
            obtain ⟨p17, q17, adC⟩ := bx lF pW
            obtain ⟨p22, q22, agT⟩ := bx lF (TU)
            obtain ⟨p26, q26, amu⟩ := bx lF (Pm)
            go_wp2
            go_roundg k3
            case measure => exact kl
            case rel => exact ⟨_, _, rs, (by first | rfl | (simp; done) | (simp only [← MW] <;> (first | rfl | simp)) | (simp [*]; done)), H', ⟨kl⟩, ⟨ur qp.out⟩, ⟨ub qg.out⟩, ⟨bb⟩⟩
           ·
            replace H := sd H
            rcases H with ⟨EP, H⟩ | ⟨EP, H⟩
            ·
             have H' := ak H; clear H
             obtain ⟨p17, q17, adC⟩ := bx lF pW
             obtain ⟨p22, q22, agT⟩ := bx lF (TU)
             obtain ⟨p26, q26, amu⟩ := bx lF (Pm)
             go_wp2
             go_roundg k3
             case measure => exact kl
             case rel => exact ⟨_, _, rs, (by first | rfl | (simp; done) | (simp only [← MW] <;> (first | rfl | simp)) | (simp [*]; done)), H', ⟨kl⟩, ⟨ur qp.out⟩, ⟨ub qg.out⟩, ⟨bb⟩⟩
            ·
             replace H := sd H
             rcases H with ⟨ZG, H⟩ | ⟨ZG, H⟩
             ·
              have H' := ak H; clear H
              obtain ⟨p17, q17, adC⟩ := bx lF pW
              obtain ⟨p22, q22, agT⟩ := bx lF (TU)
              obtain ⟨p26, q26, amu⟩ := bx lF (Pm)
              go_wp2
              go_roundg k3
              case measure => exact kl
              case rel => exact ⟨_, _, rs, (by first | rfl | (simp; done) | (simp only [← MW] <;> (first | rfl | simp)) | (simp [*]; done)), H', ⟨kl⟩, ⟨ur qp.out⟩, ⟨ub qg.out⟩, ⟨bb⟩⟩
             ·
              have H' := ak H; clear H
              obtain ⟨p17, q17, adC⟩ := bx lF pW
              obtain ⟨p22, q22, agT⟩ := bx lF (TU)
              obtain ⟨p26, q26, amu⟩ := bx lF (Pm)
              go_wp2
              go_roundg k3
              case measure => exact kl
              case rel => exact ⟨_, _, rs, (by first | rfl | (simp; done) | (simp only [← MW] <;> (first | rfl | simp)) | (simp [*]; done)), H', ⟨kl⟩, ⟨ur qp.out⟩, ⟨ub qg.out⟩, ⟨bb⟩⟩
         ·
          have H' := ak H; clear H
          obtain ⟨p17, q17, adC⟩ := bx lF pW
          go_wp2
          go_roundg k3
          case measure => exact kl
          case rel => exact ⟨_, _, rs, rs, H', ⟨kl⟩, ⟨ur qp.out⟩, ⟨ub qg.out⟩, ⟨bb⟩⟩
        ·
         have tu := decide_eq_false c14
         (try (have xA : decide ((pW + 1) < (lF.size : Int)) = false := decide_eq_false (by have h_ := c14; unfold wrap64 at h_; omega)))
         clear c14
         replace H := sd H
         rcases H with ⟨Y0, H⟩ | ⟨Y0, H⟩
         ·
          replace H := nl H; obtain ⟨acX, H⟩ := H
          obtain ⟨aEA, ajf⟩ := nm (sV ++ [lF])
          rw [← ajf.out] at H
          obtain rfl := s1 H
          go_wp2_with ((with_reducible refine dZ (b := .append) (xs := #[.tmp 73, .tmp 75]) rfl ?_); at_builtin; refine Kd.pY Kd.string (w0 := w) w.heap.size rfl (.tmp 73) (.tmp 75) 23 9 (.string ⟨#[]⟩) 16 rfl Tryz.underlying23 info9 rfl (by decide) (by omega) u5 sV lF [.string lF] (fun _ => True) (fun _ => False) rfl rfl ?aP (fun _ hk => hk.elim) ?aF ?aO ?aB ?aS ?aL ?_; (case aP => exact rfl); (case aB => exact bb); (case aF => exact (fun _ _ => trivial)); (case aO => exact (ur qp.out)); (case aS => exact (aj bb)); (case aL => have := acX.out; omega); intro v124 w32 ho hb hg hat; rw [← ajf.out] at ho; have aqF := ak (ho); replace qg := ak (dw (g := MV) (o := .cells #[.string eF, .string eP] 69 (0, 0)) (ub qg.out) hg (Kd.oQ qp.out qg.out (by decide))); replace HB := ak (hb); clear ho hb hg hat qp)
          go_ret
          exact ⟨_, er, ur aqF.out, bb⟩
         ·
          replace H := zK H; obtain ⟨Ri, ac7, H⟩ := H; replace H := zK H; obtain ⟨Vr, Vs, H⟩ := H; replace H := nl H; obtain ⟨adD, H⟩ := H
          obtain ⟨aEB, ajg⟩ := nm (sV ++ [lF.extract 0 (CV : Int).toNat])
          rw [← ajg.out] at H
          have ajh := eq_true (of_decide_eq_true (by assumption) : 0 ≤ CV)
          have aA3 := eq_true (of_decide_eq_true (by assumption) : CV ≤ (lF.size : Int))
          have H' := ak H; clear H
          try go_wp2
          replace qp := ak (Kd.mD qp.out)
          replace qg := ak (bn qg.out)
          replace HB := ak (iH HB.out)
          refine ro [4, 5] [0, 1, 2, 3, 6, 7, 8, 4, 5, 9, 10, 11] (fun w' => True) trivial ?_
          generalize wr.drew = w38 at qp qg HB ⊢
          repeat refine y8 ?_
          refine ld (N := some 68) (gk.trans rfl) rfl rfl (fun K hK => ?_)
          refine Cj (w1 := ?_) (v := ?_) (by rfl) rfl ?_ ?_
          rotate_left 2
          ·
           go_simp
           constructor
           ·
            rfl
           ·
            rfl
          refine hK.out _ _ trivial ?_
          clear hK K
          refine no (a' := ?_) ?_ ?_
          rotate_left
          ·
           show Act.put _ (some 68) _ = _
           simp only [Act.put, qW, qX, l_c, dU, fU]
           rfl
          refine ld (N := some 69) (gk.trans rfl) rfl rfl (fun K hK => ?_)
          refine Kd.nU Kd.string (w0 := w) w.heap.size (by rfl) (.tmp 64) (.tmp 68) 23 9 (.string ⟨#[]⟩) 16 rfl Tryz.underlying23 info9 rfl (by decide) (by omega) u5 sV (lF.extract 0 (CV : Int).toNat) [.string (lF.extract 0 (CV : Int).toNat)] (fun _ => True) (fun _ => False) rfl rfl ?aP (fun _ hk => hk.elim) ?aF ?aO ?aB ?aS ?aL ?_
          (case aP => exact rfl)
          (case aB => exact bb)
          (case aF => exact (fun _ _ => trivial))
          (case aO => exact (ur qp.out))
          (case aS => exact (aj bb))
          (case aL => have := adD.out; omega)
          intro v127 w39 ho hb hg hat
          rw [← ajg.out] at ho
          have yP := ak (dw (g := MV) (o := .cells #[.string eF, .string eP] 69 (0, 0)) (ub qg.out) hg (Kd.oQ qp.out qg.out (by decide)))
          have yQ := ak (hb)
          have zA := ak (ho)
          clear qg HB qp
          have qg := yP
          have HB := yQ
          have aqG := zA
          clear yP yQ zA ho hb hg hat
          refine hK.out _ _ trivial ?_
          clear hK K
          refine no (a' := ?_) ?_ ?_
          rotate_left
          ·
           show Act.put _ (some 69) _ = _
           simp only [Act.put, qW, qX, l_c, dU, fU]
           rfl
          repeat refine y8 ?_
          refine on ?_
          try go_wp2
          go_roundg k3
          case measure => exact kl
          case rel => exact ⟨_, _, _, rs, rs, H', ⟨kl⟩, ⟨ur aqG.out⟩, ⟨ub qg.out⟩, ⟨bb⟩⟩
     ·
      have vS : decide (40 < (lF.size : Int)) = false := decide_eq_false c13
      have zB : decide (40 < lF.size) = false := decide_eq_false (by omega)
      clear c13
      replace H := nl H; obtain ⟨Vt, H⟩ := H
      obtain ⟨aEC, aji⟩ := nm (sV ++ [lF])
      rw [← aji.out] at H
      obtain rfl := s1 H
      go_wp2_with ((with_reducible refine dZ (b := .append) (xs := #[.tmp 73, .tmp 75]) rfl ?_); at_builtin; refine Kd.pY Kd.string (w0 := w) w.heap.size rfl (.tmp 73) (.tmp 75) 23 9 (.string ⟨#[]⟩) 16 rfl Tryz.underlying23 info9 rfl (by decide) (by omega) u5 sV lF [.string lF] (fun _ => True) (fun _ => False) rfl rfl ?aP (fun _ hk => hk.elim) ?aF ?aO ?aB ?aS ?aL ?_; (case aP => exact rfl); (case aB => exact bb); (case aF => exact (fun _ _ => trivial)); (case aO => exact (ur qp.out)); (case aS => exact (aj bb)); (case aL => have := Vt.out; omega); intro aED w41 ho hb hg hat; rw [← aji.out] at ho; have aqH := ak (ho); replace qg := ak (dw (g := MV) (o := .cells #[.string eF, .string eP] 69 (0, 0)) (ub qg.out) hg (Kd.oQ qp.out qg.out (by decide))); replace HB := ak (hb); clear ho hb hg hat qp)
      go_ret
      exact ⟨_, er, ur aqH.out, bb⟩
def jh.l0 : Nat → List ByteArray → List (gY) → Int → Int → Option (List ByteArray × Bool)
 | 0, _, _, _, _ => none
 | k + 1, x4, x11, x12, Lj => if Lj < x12 then (if 0 ≤ Lj then (if Lj < (x11.length : Int) then ((aI.f k ((fD x11 Lj).f0) ((fD x11 Lj).f1)).bind fun abK => (if x4.length + abK.length < 8796093022208 then (jh.l0 k (x4 ++ abK) x11 x12 (wrap64 (Lj + 1))) else (none))) else (none)) else (none)) else (some (x4, true))
def jh.f (k : Nat) (l0 : List (gY)) : Option (List ByteArray × Bool) := (nJ.f k l0).bind fun aqI => (if aqI = true then (jh.l0 k (([] : List ByteArray)) l0 (l0.length : Int) 0) else (some (([] : List ByteArray), false)))
theorem jh.calls {k c0 : Nat} {A0 : Option Addr} {l0 : List (gY)} {r1 : List ByteArray} {r2 : Bool} {w : World} (hr0 : Kd.C qJ w A0 l0.length l0) (hc0 : l0.length ≤ c0) (h : jh.f k l0 = some (r1, r2)) :
  Calls Tryz.prog 39 #[.slice A0 l0.length c0] w fun e w' => ∃ qj : Value, e = .returned (.tuple #[qj, .bool r2]) ∧ Kd.R Kd.string 9 w' w.heap.size (fun _ => True) qj r1 ∧ Below w.heap.size w w' := by
 have Dt := Tryz.underlying69
 have HR0 := ak hr0
 have xq := ak hc0
 clear hr0 hc0
 have HB := ak (Below.refl w.heap.size w)
 unfold jh.f at h; have H := h
 clear h
 replace H := bd H; obtain ⟨aqI, A2, H⟩ := H; replace H := sb H
 rcases H with ⟨rfl, H⟩ | ⟨rfl, H⟩
 ·
  obtain ⟨aEE, ajj⟩ := nm ([] : List ByteArray)
  rw [← ajj.out] at H
  have H' := ak H; clear H
  go_enter Tryz.func39, Tryz.ntmps39
  go_wp2_with (first | (refine gB Tryz.func82 (nJ.calls (cu HR0.out) xq.out A2.out) ?_; intro w4 hb; replace HB := bs HB hb; clear hb) | (refine GN 10 Kd.string 9 ajj ?_; intro v131 w5 ZH hb; have aqJ := ak (Kd.aA ZH (aj (ul HB.out))); replace HB := bs HB hb; clear hb ZH))
  go_loopg [4, 13] k (fun kq v4 v13 w' => ∃ (dW : List ByteArray) (sO : Int), v13 = .int .i64 sO ∧ ah (jh.l0 kq dW l0 (l0.length : Int) sO = some (r1, r2)) ∧ ah (kq ≤ k) ∧ ah (Kd.R Kd.string 9 w' w.heap.size (fun _ => True) v4 dW) ∧ ah (Below w.heap.size w w'))
  case atStart => exact ⟨_, _, rs, H', ⟨Nat.le_refl _⟩, ⟨ur aqJ.out⟩, ⟨ul HB.out⟩⟩
  case round =>
   clear H'
   obtain ⟨dW, sO, rfl, HA, xu, iP, HB⟩ := hrel
   cases gk with
   | zero => exact zz HA.out
   | succ k1 =>
    obtain ⟨H⟩ := HA
    simp only [jh.l0] at H
    replace H := sd H
    rcases H with ⟨rY, H⟩ | ⟨rY, H⟩
    ·
     replace H := oM H; obtain ⟨sH, H⟩ := H; replace H := oM H; obtain ⟨xU, H⟩ := H; replace H := bd H; obtain ⟨abK, U5, H⟩ := H; replace H := nl H; obtain ⟨O9, H⟩ := H
     obtain ⟨aEF, ajk⟩ := nm (dW ++ abK)
     rw [← ajk.out] at H
     have H' := ak H; clear H
     have amv := zi sO
     have amw := zj sO l0.length
     obtain ⟨aA4, axN, ZI, ZJ⟩ := qV HR0.out sO amv amw
     cases axN
     replace ZI := cl HB.out ZI
     replace ZJ := cl HB.out ZJ
     replace amv := eq_true amv
     replace amw := eq_true amw
     go_wp2_with (first | (refine bX HB 6 #[.string (⟨#[]⟩ : ByteArray), .string (⟨#[]⟩ : ByteArray)] 69 ?_; intro aqK w12 Rk aA5 hb; replace iP := rb iP hb; replace HB := bs HB hb; clear hb; have z13 := zx Rk.out) | (refine gV Tryz.func83 (aI.calls U5.out) ?_; rintro aEG Q8 ⟨ho0, hb⟩; have VH := ak (Kd.aA (Kd.gU ho0 (Kd.kX (rh iP))) (aj bb)); replace iP := ak (Kd.fV (rh iP) (Kd.fQ ho0) hb); replace Rk := kp Rk #[.string ((fD l0 sO).f0), .string ((fD l0 sO).f1)] hb; replace HB := bz HB hb; clear hb; (try clear ho0); obtain ⟨VI, VJ, TV⟩ := Kd.aN VH.out; subst TV) | ((with_reducible refine dZ (b := .append) (xs := #[.tmp 17, .tmp 19]) rfl ?_); at_builtin; refine Kd.qA Kd.string (w0 := w) w.heap.size rfl (.tmp 17) (.tmp 19) 23 9 (.string ⟨#[]⟩) 16 rfl Tryz.underlying23 info9 rfl (by decide) (by omega) u4 dW abK _ _ _ (fun k_ => some k_ ≠ (.slice VI abK.length VJ : Value).ownBlock) (fun _ => False) rfl rfl ?aO ?aR (fun _ _ h => h) (fun _ h => h.elim) ?aF ?aB ?aS ?aL ?_; (case aR => repeat (first | exact (Kd.au VH.out).2.2 | (with_reducible refine Kd.ql ?_ _) | (with_reducible refine Kd.qm ?_ _) | (with_reducible refine Kd.tJ ?_))); (case aB => exact bb); (case aF => exact (fun k_ hk => Kd.fresh' (Kd.kX (ur VH.out)) k_ hk)); (case aO => exact (ur (Kd.aZ iP.out (fun _ hk => hk.2)))); (case aS => exact (aj bb)); (case aL => have := O9.out; omega); intro v139 w15 ho hb hg hat; rw [← ajk.out] at ho; have aqL := ak (ho); replace Rk := ak (dw (g := aqK) (o := .cells #[.string ((fD l0 sO).f0), .string ((fD l0 sO).f1)] 69 (0, 0)) (ub Rk.out) hg (Kd.oQ iP.out Rk.out (by decide))); replace VH := ak (Kd.zJ (ok := (fun _ => True)) (ur VH.out) hg hat); replace HB := ak (hb); clear ho hb hg hat iP))
     go_roundg k1
     case measure => exact kl
     case rel => exact ⟨_, _, rs, H', ⟨kl⟩, ⟨ur (Kd.aZ aqL.out (fun _ hk => trivial))⟩, ⟨bb⟩⟩
    ·
     obtain ⟨rfl, rfl⟩ := s2 H
     go_wp2
     go_ret2
     exact ⟨_, er, ur iP.out, ul HB.out⟩
 ·
  obtain ⟨rfl, rfl⟩ := s2 H
  go_enter Tryz.func39, Tryz.ntmps39
  go_wp2_with (refine gB Tryz.func82 (nJ.calls (cu HR0.out) xq.out A2.out) ?_; intro w17 hb; replace HB := bs HB hb; clear hb)
  go_ret2
  exact ⟨_, er, nx, ul HB.out⟩
def iU.f (a0 : ByteArray) : Option (ByteArray) := if a0.size ≤ 140737488355328 then some (strOfNums ((bytesOf a0).map QG)) else none
set_option maxHeartbeats 1000000 in
set_option maxRecDepth 100000 in
theorem iU.calls {a0 r : ByteArray} {w : World} (h : iU.f a0 = some r) :
  Calls Tryz.prog 93 #[.string a0] w fun e w' => e = .returned (.string r) ∧ Below w.heap.size w w' := by
 unfold iU.f at h
 split at h
 ·
  rename_i hb
  injection h with h
  subst h
  have kb := fun W => MO (P := Tryz.prog) 9 22 5 Tryz.underlying9 Tryz.underlying22 Tryz.underlying5 a0 W
  go_enter Tryz.func93, Tryz.ntmps93
  go_wp2
  go_loopw [10] (fun i W => ∃ k : Nat, k ≤ a0.size ∧ i = .int .i64 k ∧ Ld w w.heap.size (Ez (bytesOf a0) k) W) (fun i _ => a0.size - (intOf i).toNat)
  case atStart => exact ⟨0, Nat.zero_le _, rfl, by simpa [Ez] using Je w 5 a0⟩
  case round =>
   obtain ⟨k, hk, rfl, hR⟩ := hrel
   have HR := ak hR
   by_cases hlt : k < a0.size
   ·
    have hc := hR.cell k (by rw [mM, bytesOf_length]; exact hlt)
    have hf := hR.free k (by rw [mM, bytesOf_length]; exact hlt)
    rw [Tn _ _ (by rw [bytesOf_length]; exact hlt)] at hc
    clear hR
    have hr := GR a0 k
    have hs := ak (Rh (bytesOf a0) k (by rw [bytesOf_length]; exact hlt))
    have hu := ak (Le (bytesOf a0) k (by rw [bytesOf_length]; exact hlt))
    generalize (bytesOf a0).getD k 0 = c at hc hr hs hu
    go_wp2
    ·
     go_roundw
     case rel => exact ⟨k + 1, by omega, by go_num, by
      rw [hu.out, QG, if_pos ⟨by omega, by omega⟩]
      exact HR.out.store (Nat.le_refl _) k (by rw [mM, bytesOf_length]; exact hlt) _⟩
     case measure => simp [intOf]; omega
    ·
     go_roundw
     case rel => exact ⟨k + 1, by omega, by go_num, by rw [hs.out (by omega)]; exact HR.out⟩
     case measure => simp [intOf]; omega
    ·
     go_roundw
     case rel => exact ⟨k + 1, by omega, by go_num, by rw [hs.out (by omega)]; exact HR.out⟩
     case measure => simp [intOf]; omega
   ·
    clear hR
    have kd := run_convert_bytes_arg (P := Tryz.prog) wr 22 5 Tryz.underlying22 Tryz.underlying5 w.heap.size 0 a0.size (grownCap w a0.size 0 5) (Ez (bytesOf a0) k) (by rw [mM, bytesOf_length]) (fun i hi => by
     rw [Nat.zero_add]; exact HR.out.cell i (by rw [mM, bytesOf_length]; exact hi)) 9 Tryz.underlying9
    go_wp2
    go_ret
    have hk2 : k = a0.size := by omega
    exact ⟨by rw [hk2, Vk (bytesOf a0) a0.size (bytesOf_length a0)]; rfl, HR.out.below⟩
 ·
  cases h
def rZ.f (a0 : ByteArray) (a1 : ByteArray) : Option (Bool) := (iU.f a0).bind fun t141 => ((iU.f a1).bind fun aqM => (some (t141.toList == aqM.toList)))
theorem rZ.calls {a0 a1 : ByteArray} {r : Bool} {w : World} (h : rZ.f a0 a1 = some r) :
  Calls Tryz.prog 124 #[.string a0, .string a1] w fun e w' => e = .returned (.bool r) ∧ Below w.heap.size w w' := by
 have HB := ak (Below.refl w.heap.size w)
 unfold rZ.f at h; have H := h
 clear h
 replace H := bd H; obtain ⟨t141, A3, H⟩ := H; replace H := bd H; obtain ⟨aqM, A4, H⟩ := H
 obtain rfl := s1 H
 go_enter Tryz.func124, Tryz.ntmps124
 go_wp2_with (first | (refine gB Tryz.func93 (iU.calls A3.out) ?_; intro w5 hb; replace HB := bs HB hb; clear hb) | (refine gB Tryz.func93 (iU.calls A4.out) ?_; intro w6 hb; replace HB := bs HB hb; clear hb))
 go_ret
 exact ⟨er, ul HB.out⟩
end Go.Proofs.YtncdadcmghglkaaGreatDoor.PFnCountParts
