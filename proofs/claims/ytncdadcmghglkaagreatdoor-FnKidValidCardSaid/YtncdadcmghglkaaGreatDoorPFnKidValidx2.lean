/- Printed walks; conditions: those in each statement. -/
import Derived.Test.YtncdadcmghglkaaGreatDoorVFnKidValidQt
import Derived.Test.YtncdadcmghglkaaGreatDoorVFnKidValidYt
import Derived.Test.YtncdadcmghglkaaGreatDoorPFnKidValidx0
import Derived.Test.YtncdadcmghglkaaGreatDoorPFnKidValidx1
-- fixed
-- short
-- dense
-- sq
-- sq2
namespace Go.Proofs.YtncdadcmghglkaaGreatDoor.PFnKidValid
open Go.RowKit Go.Proofs.YtncdadcmghglkaaGreatDoor.X Go.Proofs.YtncdadcmghglkaaGreatDoorW.bI Go.Proofs.YtncdadcmghglkaaGreatDoorW.gq Go.Proofs.YtncdadcmghglkaaGreatDoorW.iJ
attribute [local go_sem] kJ kK mD mF jv jw kL kM   -- for this text's walks alone
set_option linter.unusedVariables false
set_option maxHeartbeats 8000000
set_option maxRecDepth 100000
set_option linter.unusedSimpArgs false
mutual
def aI.j0 : Nat → ByteArray → Int → Option (List ByteArray)
 | 0, _, _ => none
 | k + 1, x3, x4 => aI.l0 k x3 x4 (([] : List ByteArray))
def aI.l0 : Nat → ByteArray → Int → List ByteArray → Option (List ByteArray)
 | 0, _, _, _ => none
 | k + 1, x3, x4, x5 => if (x3.size : Int) > 40 then (aI.l1 k x3 x5 (-1) x4) else (if x5.length < 8796093022208 then (some (x5 ++ [x3])) else (none))
def aI.l1 : Nat → ByteArray → List ByteArray → Int → Int → Option (List ByteArray)
 | 0, _, _, _, _ => none
 | k + 1, x3, x5, x6, x7 => if (wrap64 (x7 + 1)) < (x3.size : Int) then (if 0 ≤ x7 then (if x7 < (x3.size : Int) then (if (bt x3 x7) = 32 then (if 0 ≤ (wrap64 (x7 - 1)) then (if (wrap64 (x7 - 1)) < (x3.size : Int) then (if (bt x3 (wrap64 (x7 - 1))) = 32 then (aI.l1 k x3 x5 x6 (wrap64 (x7 + 1))) else (if 0 ≤ (wrap64 (x7 + 1)) then (if (bt x3 (wrap64 (x7 + 1))) = 32 then (aI.l1 k x3 x5 x6 (wrap64 (x7 + 1))) else (if x6 < 0 then (aI.l1 k x3 x5 x7 (wrap64 (x7 + 1))) else (if x7 ≤ 40 then (aI.l1 k x3 x5 x7 (wrap64 (x7 + 1))) else (aI.l1 k x3 x5 x6 (wrap64 (x7 + 1)))))) else (none))) else (none)) else (none)) else (aI.l1 k x3 x5 x6 (wrap64 (x7 + 1)))) else (none)) else (none)) else (if x6 < 0 then (if x5.length < 8796093022208 then (some (x5 ++ [x3])) else (none)) else (if 0 ≤ x6 then (if x6 ≤ (x3.size : Int) then (if x5.length < 8796093022208 then (aI.l0 k (x3.extract (x6 : Int).toNat x3.size) 2 (x5 ++ [x3.extract 0 (x6 : Int).toNat])) else (none)) else (none)) else (none)))
end
def aI.f (k : Nat) (eG : ByteArray) (eU : ByteArray) : Option (List ByteArray) := if eG.size + 1 ≤ 9223372036854775807 then (if eU.toList = ([] : List UInt8) then (aI.j0 k (eG ++ (⟨#[58]⟩ : ByteArray)) (wrap64 ((eG.size : Int) + 3))) else (if 1 + eU.size ≤ 9223372036854775807 then (if (eG ++ (⟨#[58]⟩ : ByteArray)).size + ((⟨#[32]⟩ : ByteArray) ++ eU).size ≤ 9223372036854775807 then (aI.j0 k ((eG ++ (⟨#[58]⟩ : ByteArray)) ++ ((⟨#[32]⟩ : ByteArray) ++ eU)) (wrap64 ((eG.size : Int) + 3))) else (none)) else (none))) else (none)
def aI.T1 : Bool × List (List Nat × List Nat) := (true, [([], []), ([0], [0]), ([1], [1]), ([], []), ([3], [3]), ([4], [4]), ([5], [5]), ([2, 0, 1, 2], [2]), ([6, 7, 0, 1, 2, 3, 4, 5, 6, 7], [6])])
def aI.B1 : List Nat := [0, 1, 3, 0, 8, 24, 56, 7, 255]
theorem aI.arT : sQ .any (opsOf Tryz.f83 1) = aI.T1 := by kernel_rfl
theorem aI.aj_ : nU aI.T1.2 aI.B1 = true := by kernel_rfl
def aI.T13 : Bool × List (List Nat × List Nat) := (true, [([], []), ([], []), ([], []), ([1, 2], [1, 2]), ([3], [3]), ([0, 4], [0, 4]), ([], []), ([], []), ([6, 7], [6, 7]), ([5, 5, 0, 1, 2, 3, 4, 5], [0, 5]), ([8, 9, 0, 1, 2, 3, 4, 5, 6, 7, 8, 9], [1, 6, 8]), ([10, 0, 1, 2, 3, 4, 5, 6, 7, 8, 9, 10], [])])
def aI.B13 : List Nat := [0, 0, 0, 6, 14, 31, 0, 0, 192, 63, 1023, 2047]
theorem aI.ZJ : sQ .any (opsOf Tryz.f83 13) = aI.T13 := by kernel_rfl
theorem aI.UD : nU aI.T13.2 aI.B13 = true := by kernel_rfl
theorem aI.calls {k : Nat} {eG eU : ByteArray} {r : List ByteArray} {w : World} (h : aI.f k eG eU = some r) :
  Calls Tryz.prog 83 #[.agg #[.string eG, .string eU]] w fun e w' => ∃ ql : Value, e = .returned (ql) ∧ Kd.R Kd.string 9 w' w.heap.size (fun _ => True) ql r ∧ Below w.heap.size w w' := by
 have DU := Tryz.underlying69
 have HB := ak (Below.refl w.heap.size w)
 unfold aI.f at h; have H := h
 clear h
 replace H := nn H; obtain ⟨c2, H⟩ := H
 have nT := eq_true c2
 have uF := decide_eq_true c2
 try have Yp : (9223372036854775807 < eG.size + 1) = False := eq_false (Nat.not_lt.2 c2)
 have P9 := ak H
 clear H
 go_enter Tryz.func83, Tryz.ntmps83
 try go_wp2_with (refine bX HB 1 #[.string eG, .string eU] 69 ?_; intro NY w4 qg aCt hb; replace HB := bs HB hb; clear hb)
 refine rO [] [0, 3, 1, 2, 7, 4, 5, 6, 8] (fun w' => w'.cell? ⟨NY, 0, none⟩ = some (.string eG) ∧ w'.cell? ⟨NY, 1, none⟩ = some (.string eU)) ?_
 intro w5 hb
 replace qg := kb qg hb
 replace HB := bs HB hb
 refine ⟨sx, ?_⟩
 repeat refine zF ?_
 refine on ?_
 have z6 := zQ qg.out
 go_upto_if 17 with (fail)
 go_cut [3] (fun v3 wc => ∃ (kq : Nat) (kZ : ByteArray), v3 = .string kZ ∧ ah (aI.j0 kq kZ (wrap64 ((eG.size : Int) + 3)) = some r) ∧ ah (kq ≤ k) ∧ ah (wc.heap[NY]? = some (.cells #[.string eG, .string eU] 69 (0, 0))) ∧ ah (Below w.heap.size w wc))
 case first =>
  have H := P9.out
  clear P9
  replace H := sp H
  rcases H with ⟨c7, H⟩ | ⟨c7, H⟩
  ·
   have sD := beq_iff_eq.mpr c7
   have c7e : (eU.toList).isEmpty = true := List.isEmpty_iff.mpr c7
   have Mc := bne_eq_false_iff_eq.mpr c7
   clear c7
   (first | rw [sD] | (simp only [dP, fG]; rw [sD]) | skip)
   (first | (rw [c7e]; simp only [Bool.not_true, Bool.not_false]) | skip)
   have H' := ak H; clear H
   go_wp2
   go_meet
   case rel => exact ⟨_, _, rs, H', ⟨Jq⟩, ⟨ub qg.out⟩, ⟨bb⟩⟩
  ·
   have sD := beq_eq_false_iff_ne.mpr c7
   have c7e : (eU.toList).isEmpty = false := List.isEmpty_eq_false_iff.mpr c7
   have Mc := bne_iff_ne.mpr c7
   (first | rw [sD] | (simp only [dP, fG]; rw [sD]) | skip)
   (first | (rw [c7e]; simp only [Bool.not_true, Bool.not_false]) | skip)
   replace H := nn H; obtain ⟨c8, H⟩ := H
   have tu := eq_true c8
   have Dl := decide_eq_true c8
   try have anw : (9223372036854775807 < 1 + eU.size) = False := eq_false (Nat.not_lt.2 c8)
   replace H := nn H; obtain ⟨c9, H⟩ := H
   have yh := eq_true c9
   have Fz := decide_eq_true c9
   try have aF3 : (9223372036854775807 < eG.size + 1 + (1 + eU.size)) = False := by have h_ := (eq_false (Nat.not_lt.2 c9) : (9223372036854775807 < (eG ++ (⟨#[58]⟩ : ByteArray)).size + ((⟨#[32]⟩ : ByteArray) ++ eU).size) = False); simp only [ByteArray.size_append] at h_; exact h_
   try have arU : (9223372036854775807 < (eG ++ (⟨#[58]⟩ : ByteArray)).size + ((⟨#[32]⟩ : ByteArray) ++ eU).size) = False := eq_false (Nat.not_lt.2 c9)
   have H' := ak H; clear H
   have z10 := zQ qg.out
   go_wp2
   go_meet
   case rel => exact ⟨_, _, rs, H', ⟨Jq⟩, ⟨ub qg.out⟩, ⟨bb⟩⟩
 case rest =>
  clear P9
  try clear c2
  try clear nT
  try clear uF
  try clear Yp
  obtain ⟨kq, kZ, rfl, HA, HJ2, qg, HB⟩ := hcut
  cases kq with
  | zero => exact zz HA.out
  | succ ZQ =>
   obtain ⟨H⟩ := HA
   simp only [aI.j0] at H
   obtain ⟨aF4, akb⟩ := nm ([] : List ByteArray)
   rw [← akb.out] at H
   have H' := ak H; clear H
   go_wp2_with (refine H7 23 Kd.string 9 akb ?_; intro aF5 Ub adP hb; have arV := ak (Kd.aC adP (aj bb)); replace qg := kb qg hb; replace HB := bz HB hb; clear hb adP)
   go_loopg [3, 4, 5] ZQ (fun kq v3 v4 v5 w' => ∃ (kZ : ByteArray) (oJ : Int) (rH : List ByteArray), v3 = .string kZ ∧ v4 = .int .i64 oJ ∧ ah (aI.l0 kq kZ oJ rH = some r) ∧ ah (kq ≤ ZQ) ∧ ah (Kd.R Kd.string 9 w' w.heap.size (fun _ => True) v5 rH) ∧ ah (w'.heap[NY]? = some (.cells #[.string eG, .string eU] 69 (0, 0))) ∧ ah (Below w.heap.size w w'))
   case atStart => exact ⟨_, _, _, rs, rs, H', ⟨Nat.le_refl _⟩, ⟨ur arV.out⟩, ⟨ub qg.out⟩, ⟨bb⟩⟩
   case round =>
    clear H'
    try clear c2
    try clear nT
    try clear uF
    try clear Yp
    obtain ⟨kZ, oJ, rH, rfl, rfl, HA, Zw, qo, qg, HB⟩ := hrel
    cases gk with
    | zero => exact zz HA.out
    | succ k2 =>
     obtain ⟨H⟩ := HA
     simp only [aI.l0] at H
     replace H := sp H
     rcases H with ⟨c13, H⟩ | ⟨c13, H⟩
     ·
      have wo : decide (40 < (kZ.size : Int)) = true := decide_eq_true c13
      have zU : decide (40 < kZ.size) = true := decide_eq_true (by omega)
      clear c13
      have H' := ak H; clear H
      go_wp2
      go_loopg [6, 7] k2 (fun kq v6 v7 w' => ∃ (Dt : Int) (pX : Int), v6 = .int .i64 Dt ∧ v7 = .int .i64 pX ∧ ah (aI.l1 kq kZ rH Dt pX = some r) ∧ ah (kq ≤ k2) ∧ ah (Kd.R Kd.string 9 w' w.heap.size (fun _ => True) u5 rH) ∧ ah (w'.heap[NY]? = some (.cells #[.string eG, .string eU] 69 (0, 0))) ∧ ah (Below w.heap.size w w'))
      case atStart => exact ⟨_, _, rs, rs, H', ⟨Nat.le_refl _⟩, ⟨ur qo.out⟩, ⟨ub qg.out⟩, ⟨bb⟩⟩
      case round =>
       clear H'
       try clear c2
       try clear nT
       try clear uF
       try clear Yp
       try clear c13
       try clear wo
       try clear zU
       obtain ⟨Dt, pX, rfl, rfl, HA, Zp, qo, qg, HB⟩ := hrel
       cases gk with
       | zero => exact zz HA.out
       | succ k3 =>
        obtain ⟨H⟩ := HA
        simp only [aI.l1] at H
        replace H := sp H
        rcases H with ⟨c14, H⟩ | ⟨c14, H⟩
        ·
         have qC := decide_eq_true c14
         (try (have wI : decide ((pX + 1) < (kZ.size : Int)) = true := decide_eq_true (by have h_ := c14; unfold wrap64 at h_; omega)))
         clear c14
         replace H := oL H; obtain ⟨wu, H⟩ := H; replace H := oL H; obtain ⟨zW, H⟩ := H; replace H := sq H
         rcases H with ⟨zV, PO, H⟩ | ⟨c18, zV, PO, H⟩
         ·
          obtain ⟨UO, aea⟩ : ∃ j_ : Int, (wrap64 (pX - 1)) = j_ := ⟨_, rfl⟩
          replace H : (if 0 ≤ (UO) then (if (UO) < (kZ.size : Int) then (if (bt kZ (UO)) = 32 then (aI.l1 k3 kZ rH Dt (wrap64 (pX + 1))) else (if 0 ≤ (wrap64 (pX + 1)) then (if (bt kZ (wrap64 (pX + 1))) = 32 then (aI.l1 k3 kZ rH Dt (wrap64 (pX + 1))) else (if Dt < 0 then (aI.l1 k3 kZ rH pX (wrap64 (pX + 1))) else (if pX ≤ 40 then (aI.l1 k3 kZ rH pX (wrap64 (pX + 1))) else (aI.l1 k3 kZ rH Dt (wrap64 (pX + 1)))))) else (none))) else (none)) else (none)) = some r := by first | (rw [aea] at H; exact H) | (simp only [aea] at H ⊢; exact H)
          have azb : (IntKind.i64.wrap (pX - 1)) = UO := (dP _).trans aea
          replace H := oL H; obtain ⟨SH, H⟩ := H; replace H := oL H; obtain ⟨Ez, H⟩ := H; replace H := sq H
          rcases H with ⟨zh, NV, H⟩ | ⟨c23, zh, NV, H⟩
          ·
           have H' := ak H; clear H
           obtain ⟨p17, q17, aeb⟩ := bx kZ pX
           obtain ⟨p22, q22, ahJ⟩ := bx kZ (UO)
           go_wp2
           go_roundg k3
           case measure => exact kl
           case rel => exact ⟨_, _, rs, rs, H', ⟨kl⟩, ⟨ur qo.out⟩, ⟨ub qg.out⟩, ⟨bb⟩⟩
          ·
           obtain ⟨Qg, NZ⟩ : ∃ j_ : Int, (wrap64 (pX + 1)) = j_ := ⟨_, rfl⟩
           replace H : (if 0 ≤ (Qg) then (if (bt kZ (Qg)) = 32 then (aI.l1 k3 kZ rH Dt Qg) else (if Dt < 0 then (aI.l1 k3 kZ rH pX Qg) else (if pX ≤ 40 then (aI.l1 k3 kZ rH pX Qg) else (aI.l1 k3 kZ rH Dt Qg)))) else (none)) = some r := by first | (rw [NZ] at H; exact H) | (simp only [NZ] at H ⊢; exact H)
           (try rw [NZ] at qC)
           have azc : (IntKind.i64.wrap (pX + 1)) = Qg := (dP _).trans NZ
           replace H := oL H; obtain ⟨PU, H⟩ := H; replace H := sq H
           rcases H with ⟨Fe, ZE, H⟩ | ⟨c27, Fe, ZE, H⟩
           ·
            have H' := ak H; clear H
            obtain ⟨p17, q17, aeb⟩ := bx kZ pX
            obtain ⟨p22, q22, ahJ⟩ := bx kZ (UO)
            obtain ⟨p26, q26, anz⟩ := bx kZ (Qg)
            go_wp2
            go_roundg k3
            case measure => exact kl
            case rel => exact ⟨_, _, rs, (by first | rfl | (simp; done) | (simp only [← NZ] <;> (first | rfl | simp)) | (simp [*]; done)), H', ⟨kl⟩, ⟨ur qo.out⟩, ⟨ub qg.out⟩, ⟨bb⟩⟩
           ·
            replace H := sd H
            rcases H with ⟨Fg, H⟩ | ⟨Fg, H⟩
            ·
             have H' := ak H; clear H
             obtain ⟨p17, q17, aeb⟩ := bx kZ pX
             obtain ⟨p22, q22, ahJ⟩ := bx kZ (UO)
             obtain ⟨p26, q26, anz⟩ := bx kZ (Qg)
             go_wp2
             go_roundg k3
             case measure => exact kl
             case rel => exact ⟨_, _, rs, (by first | rfl | (simp; done) | (simp only [← NZ] <;> (first | rfl | simp)) | (simp [*]; done)), H', ⟨kl⟩, ⟨ur qo.out⟩, ⟨ub qg.out⟩, ⟨bb⟩⟩
            ·
             replace H := sd H
             rcases H with ⟨aau, H⟩ | ⟨aau, H⟩
             ·
              have H' := ak H; clear H
              obtain ⟨p17, q17, aeb⟩ := bx kZ pX
              obtain ⟨p22, q22, ahJ⟩ := bx kZ (UO)
              obtain ⟨p26, q26, anz⟩ := bx kZ (Qg)
              go_wp2
              go_roundg k3
              case measure => exact kl
              case rel => exact ⟨_, _, rs, (by first | rfl | (simp; done) | (simp only [← NZ] <;> (first | rfl | simp)) | (simp [*]; done)), H', ⟨kl⟩, ⟨ur qo.out⟩, ⟨ub qg.out⟩, ⟨bb⟩⟩
             ·
              have H' := ak H; clear H
              obtain ⟨p17, q17, aeb⟩ := bx kZ pX
              obtain ⟨p22, q22, ahJ⟩ := bx kZ (UO)
              obtain ⟨p26, q26, anz⟩ := bx kZ (Qg)
              go_wp2
              go_roundg k3
              case measure => exact kl
              case rel => exact ⟨_, _, rs, (by first | rfl | (simp; done) | (simp only [← NZ] <;> (first | rfl | simp)) | (simp [*]; done)), H', ⟨kl⟩, ⟨ur qo.out⟩, ⟨ub qg.out⟩, ⟨bb⟩⟩
         ·
          have H' := ak H; clear H
          obtain ⟨p17, q17, aeb⟩ := bx kZ pX
          go_wp2
          go_roundg k3
          case measure => exact kl
          case rel => exact ⟨_, _, rs, rs, H', ⟨kl⟩, ⟨ur qo.out⟩, ⟨ub qg.out⟩, ⟨bb⟩⟩
        ·
         have qC := decide_eq_false c14
         (try (have wI : decide ((pX + 1) < (kZ.size : Int)) = false := decide_eq_false (by have h_ := c14; unfold wrap64 at h_; omega)))
         clear c14
         replace H := sd H
         rcases H with ⟨ZG, H⟩ | ⟨ZG, H⟩
         ·
          replace H := nl H; obtain ⟨adE, H⟩ := H
          obtain ⟨aF6, akc⟩ := nm (rH ++ [kZ])
          rw [← akc.out] at H
          obtain rfl := s1 H
          go_wp2_with ((with_reducible refine eu (b := .append) (xs := #[.tmp 73, .tmp 75]) rfl ?_); at_builtin; refine Kd.qc Kd.string (w0 := w) w.heap.size rfl (.tmp 73) (.tmp 75) 23 9 (.string ⟨#[]⟩) 16 rfl Tryz.underlying23 info9 rfl (by decide) (by omega) u5 rH kZ [.string kZ] (fun _ => True) (fun _ => False) rfl rfl ?aP (fun _ hk => hk.elim) ?aF ?aO ?aB ?aS ?aL ?_; (case aP => exact rfl); (case aB => exact bb); (case aF => exact (fun _ _ => trivial)); (case aO => exact (ur qo.out)); (case aS => exact (aj bb)); (case aL => have := adE.out; omega); intro v124 w32 ho hb hg hat; rw [← akc.out] at ho; have arW := ak (ho); replace qg := ak (dw (g := NY) (o := .cells #[.string eG, .string eU] 69 (0, 0)) (ub qg.out) hg (Kd.oU qo.out qg.out (by decide))); replace HB := ak (hb); clear ho hb hg hat qo)
          go_ret
          exact ⟨_, er, ur arW.out, bb⟩
         ·
          replace H := Ac H; obtain ⟨SI, adO, H⟩ := H; replace H := Ac H; obtain ⟨PX, PY, H⟩ := H; replace H := nl H; obtain ⟨aec, H⟩ := H
          obtain ⟨aF7, akd⟩ := nm (rH ++ [kZ.extract 0 (Dt : Int).toNat])
          rw [← akd.out] at H
          have ake := eq_true (of_decide_eq_true (by assumption) : 0 ≤ Dt)
          have aCu := eq_true (of_decide_eq_true (by assumption) : Dt ≤ (kZ.size : Int))
          have H' := ak H; clear H
          try go_wp2
          replace qo := ak (Kd.l9 qo.out)
          replace qg := ak (bC qg.out)
          replace HB := ak (iF HB.out)
          refine ro [4, 5] [0, 1, 2, 3, 6, 7, 8, 4, 5, 9, 10, 11] (fun w' => True) trivial ?_
          generalize wr.drew = w38 at qo qg HB ⊢
          repeat refine zF ?_
          refine ld (N := some 68) (gk.trans rfl) rfl rfl (fun K hK => ?_)
          refine Dh (w1 := ?_) (v := ?_) (by rfl) rfl ?_ ?_
          rotate_left 2
          ·
           go_simp
           constructor
           ·
            rfl
           ·
            rfl
          refine hK.out _ _ trivial ?_
          clear hK K
          refine no (a' := ?_) ?_ ?_
          rotate_left
          ·
           show Act.put _ (some 68) _ = _
           simp only [Act.put, qQ, qR, l_c, dP, fG]
           rfl
          refine ld (N := some 69) (gk.trans rfl) rfl rfl (fun K hK => ?_)
          refine Kd.nS Kd.string (w0 := w) w.heap.size (by rfl) (.tmp 64) (.tmp 68) 23 9 (.string ⟨#[]⟩) 16 rfl Tryz.underlying23 info9 rfl (by decide) (by omega) u5 rH (kZ.extract 0 (Dt : Int).toNat) [.string (kZ.extract 0 (Dt : Int).toNat)] (fun _ => True) (fun _ => False) rfl rfl ?aP (fun _ hk => hk.elim) ?aF ?aO ?aB ?aS ?aL ?_
          (case aP => exact rfl)
          (case aB => exact bb)
          (case aF => exact (fun _ _ => trivial))
          (case aO => exact (ur qo.out))
          (case aS => exact (aj bb))
          (case aL => have := aec.out; omega)
          intro v127 w39 ho hb hg hat
          rw [← akd.out] at ho
          have y5 := ak (dw (g := NY) (o := .cells #[.string eG, .string eU] 69 (0, 0)) (ub qg.out) hg (Kd.oU qo.out qg.out (by decide)))
          have y7 := ak (hb)
          have zT := ak (ho)
          clear qg HB qo
          have qg := y5
          have HB := y7
          have arX := zT
          clear y5 y7 zT ho hb hg hat
          refine hK.out _ _ trivial ?_
          clear hK K
          refine no (a' := ?_) ?_ ?_
          rotate_left
          ·
           show Act.put _ (some 69) _ = _
           simp only [Act.put, qQ, qR, l_c, dP, fG]
           rfl
          repeat refine zF ?_
          refine on ?_
          try go_wp2
          go_roundg k3
          case measure => exact kl
          case rel => exact ⟨_, _, _, rs, rs, H', ⟨kl⟩, ⟨ur arX.out⟩, ⟨ub qg.out⟩, ⟨bb⟩⟩
     ·
      have wo : decide (40 < (kZ.size : Int)) = false := decide_eq_false c13
      have zU : decide (40 < kZ.size) = false := decide_eq_false (by omega)
      clear c13
      replace H := nl H; obtain ⟨Wi, H⟩ := H
      obtain ⟨aF8, akf⟩ := nm (rH ++ [kZ])
      rw [← akf.out] at H
      obtain rfl := s1 H
      go_wp2_with ((with_reducible refine eu (b := .append) (xs := #[.tmp 73, .tmp 75]) rfl ?_); at_builtin; refine Kd.qc Kd.string (w0 := w) w.heap.size rfl (.tmp 73) (.tmp 75) 23 9 (.string ⟨#[]⟩) 16 rfl Tryz.underlying23 info9 rfl (by decide) (by omega) u5 rH kZ [.string kZ] (fun _ => True) (fun _ => False) rfl rfl ?aP (fun _ hk => hk.elim) ?aF ?aO ?aB ?aS ?aL ?_; (case aP => exact rfl); (case aB => exact bb); (case aF => exact (fun _ _ => trivial)); (case aO => exact (ur qo.out)); (case aS => exact (aj bb)); (case aL => have := Wi.out; omega); intro aF9 w41 ho hb hg hat; rw [← akf.out] at ho; have arY := ak (ho); replace qg := ak (dw (g := NY) (o := .cells #[.string eG, .string eU] 69 (0, 0)) (ub qg.out) hg (Kd.oU qo.out qg.out (by decide))); replace HB := ak (hb); clear ho hb hg hat qo)
      go_ret
      exact ⟨_, er, ur arY.out, bb⟩
def jc.l0 : Nat → List ByteArray → List (gU) → Int → Int → Option (List ByteArray × Bool)
 | 0, _, _, _, _ => none
 | k + 1, x4, x11, x12, MC => if MC < x12 then (if 0 ≤ MC then (if MC < (x11.length : Int) then ((aI.f k ((fB x11 MC).f0) ((fB x11 MC).f1)).bind fun acy => (if x4.length + acy.length < 8796093022208 then (jc.l0 k (x4 ++ acy) x11 x12 (wrap64 (MC + 1))) else (none))) else (none)) else (none)) else (some (x4, true))
def jc.f (k : Nat) (l0 : List (gU)) : Option (List ByteArray × Bool) := (nI.f k l0).bind fun arZ => (if arZ = true then (jc.l0 k (([] : List ByteArray)) l0 (l0.length : Int) 0) else (some (([] : List ByteArray), false)))
theorem jc.calls {k c0 : Nat} {A0 : Option Addr} {l0 : List (gU)} {r1 : List ByteArray} {r2 : Bool} {w : World} (hr0 : Kd.C qj w A0 l0.length l0) (hc0 : l0.length ≤ c0) (h : jc.f k l0 = some (r1, r2)) :
  Calls Tryz.prog 39 #[.slice A0 l0.length c0] w fun e w' => ∃ ql : Value, e = .returned (.tuple #[ql, .bool r2]) ∧ Kd.R Kd.string 9 w' w.heap.size (fun _ => True) ql r1 ∧ Below w.heap.size w w' := by
 have DU := Tryz.underlying69
 have HR0 := ak hr0
 have yu := ak hc0
 clear hr0 hc0
 have HB := ak (Below.refl w.heap.size w)
 unfold jc.f at h; have H := h
 clear h
 replace H := bd H; obtain ⟨arZ, A2, H⟩ := H; replace H := sb H
 rcases H with ⟨rfl, H⟩ | ⟨rfl, H⟩
 ·
  obtain ⟨aF_, akg⟩ := nm ([] : List ByteArray)
  rw [← akg.out] at H
  have H' := ak H; clear H
  go_enter Tryz.func39, Tryz.ntmps39
  go_wp2_with (first | (refine gB Tryz.func82 (nI.calls (cu HR0.out) yu.out A2.out) ?_; intro w4 hb; replace HB := bs HB hb; clear hb) | (refine H7 10 Kd.string 9 akg ?_; intro v131 w5 ho6 hb; have ar0 := ak (Kd.aC ho6 (aj (ul HB.out))); replace HB := bs HB hb; clear hb ho6))
  go_loopg [4, 13] k (fun kq v4 v13 w' => ∃ (dV : List ByteArray) (sV : Int), v13 = .int .i64 sV ∧ ah (jc.l0 kq dV l0 (l0.length : Int) sV = some (r1, r2)) ∧ ah (kq ≤ k) ∧ ah (Kd.R Kd.string 9 w' w.heap.size (fun _ => True) v4 dV) ∧ ah (Below w.heap.size w w'))
  case atStart => exact ⟨_, _, rs, H', ⟨Nat.le_refl _⟩, ⟨ur ar0.out⟩, ⟨ul HB.out⟩⟩
  case round =>
   clear H'
   obtain ⟨dV, sV, rfl, HA, xG, iM, HB⟩ := hrel
   cases gk with
   | zero => exact zz HA.out
   | succ k1 =>
    obtain ⟨H⟩ := HA
    simp only [jc.l0] at H
    replace H := sd H
    rcases H with ⟨sD, H⟩ | ⟨sD, H⟩
    ·
     replace H := oL H; obtain ⟨tu, H⟩ := H; replace H := oL H; obtain ⟨yh, H⟩ := H; replace H := bd H; obtain ⟨acy, VN, H⟩ := H; replace H := nl H; obtain ⟨Qa, H⟩ := H
     obtain ⟨aGa, akh⟩ := nm (dV ++ acy)
     rw [← akh.out] at H
     have H' := ak H; clear H
     have anA := zi sV
     have anB := zj sV l0.length
     obtain ⟨aCv, azd, aav, aaw⟩ := qX HR0.out sV anA anB
     cases azd
     replace aav := cl HB.out aav
     replace aaw := cl HB.out aaw
     replace anA := eq_true anA
     replace anB := eq_true anB
     go_wp2_with (first | (refine bX HB 6 #[.string (⟨#[]⟩ : ByteArray), .string (⟨#[]⟩ : ByteArray)] 69 ?_; intro ar1 w12 SL aCw hb; replace iM := rb iM hb; replace HB := bs HB hb; clear hb; have z13 := zQ SL.out) | (refine gV Tryz.func83 (aI.calls VN.out) ?_; rintro aGb SA ⟨ho0, hb⟩; have WB := ak (Kd.aC (Kd.gK ho0 (Kd.kU (rh iM))) (aj bb)); replace iM := ak (Kd.fP (rh iM) (Kd.fO ho0) hb); replace SL := kp SL #[.string ((fB l0 sV).f0), .string ((fB l0 sV).f1)] hb; replace HB := bz HB hb; clear hb; (try clear ho0); obtain ⟨WC, WE, UQ⟩ := Kd.aV WB.out; subst UQ) | ((with_reducible refine eu (b := .append) (xs := #[.tmp 17, .tmp 19]) rfl ?_); at_builtin; refine Kd.qy Kd.string (w0 := w) w.heap.size rfl (.tmp 17) (.tmp 19) 23 9 (.string ⟨#[]⟩) 16 rfl Tryz.underlying23 info9 rfl (by decide) (by omega) u4 dV acy _ _ _ (fun k_ => some k_ ≠ (.slice WC acy.length WE : Value).ownBlock) (fun _ => False) rfl rfl ?aO ?aR (fun _ _ h => h) (fun _ h => h.elim) ?aF ?aB ?aS ?aL ?_; (case aR => repeat (first | exact (Kd.aH WB.out).2.2 | (with_reducible refine Kd.jf ?_ _) | (with_reducible refine Kd.jg ?_ _) | (with_reducible refine Kd.kH ?_))); (case aB => exact bb); (case aF => exact (fun k_ hk => Kd.fresh' (Kd.kU (ur WB.out)) k_ hk)); (case aO => exact (ur (Kd.bn iM.out (fun _ hk => hk.2)))); (case aS => exact (aj bb)); (case aL => have := Qa.out; omega); intro v139 w15 ho hb hg hat; rw [← akh.out] at ho; have ar2 := ak (ho); replace SL := ak (dw (g := ar1) (o := .cells #[.string ((fB l0 sV).f0), .string ((fB l0 sV).f1)] 69 (0, 0)) (ub SL.out) hg (Kd.oU iM.out SL.out (by decide))); replace WB := ak (Kd.Aa (ok := (fun _ => True)) (ur WB.out) hg hat); replace HB := ak (hb); clear ho hb hg hat iM))
     go_roundg k1
     case measure => exact kl
     case rel => exact ⟨_, _, rs, H', ⟨kl⟩, ⟨ur (Kd.bn ar2.out (fun _ hk => trivial))⟩, ⟨bb⟩⟩
    ·
     obtain ⟨rfl, rfl⟩ := s2 H
     go_wp2
     go_ret2
     exact ⟨_, er, ur iM.out, ul HB.out⟩
 ·
  obtain ⟨rfl, rfl⟩ := s2 H
  go_enter Tryz.func39, Tryz.ntmps39
  go_wp2_with (refine gB Tryz.func82 (nI.calls (cu HR0.out) yu.out A2.out) ?_; intro w17 hb; replace HB := bs HB hb; clear hb)
  go_ret2
  exact ⟨_, er, nx, ul HB.out⟩
def iQ.f (a0 : ByteArray) : Option (ByteArray) := if a0.size ≤ 140737488355328 then some (strOfNums ((bytesOf a0).map RJ)) else none
set_option maxHeartbeats 1000000 in
set_option maxRecDepth 100000 in
theorem iQ.calls {a0 r : ByteArray} {w : World} (h : iQ.f a0 = some r) :
  Calls Tryz.prog 93 #[.string a0] w fun e w' => e = .returned (.string r) ∧ Below w.heap.size w w' := by
 unfold iQ.f at h
 split at h
 ·
  rename_i hb
  injection h with h
  subst h
  have kb := fun W => NT (P := Tryz.prog) 9 22 5 Tryz.underlying9 Tryz.underlying22 Tryz.underlying5 a0 W
  go_enter Tryz.func93, Tryz.ntmps93
  go_wp2
  go_loopw [10] (fun i W => ∃ k : Nat, k ≤ a0.size ∧ i = .int .i64 k ∧ Md w w.heap.size (ET (bytesOf a0) k) W) (fun i _ => a0.size - (intOf i).toNat)
  case atStart => exact ⟨0, Nat.zero_le _, rfl, by simpa [ET] using JI w 5 a0⟩
  case round =>
   obtain ⟨k, hk, rfl, hR⟩ := hrel
   have HR := ak hR
   by_cases hlt : k < a0.size
   ·
    have hc := hR.cell k (by rw [mJ, bytesOf_length]; exact hlt)
    have hf := hR.free k (by rw [mJ, bytesOf_length]; exact hlt)
    rw [Uo _ _ (by rw [bytesOf_length]; exact hlt)] at hc
    clear hR
    have hr := H8 a0 k
    have hs := ak (SG (bytesOf a0) k (by rw [bytesOf_length]; exact hlt))
    have hu := ak (Me (bytesOf a0) k (by rw [bytesOf_length]; exact hlt))
    generalize (bytesOf a0).getD k 0 = c at hc hr hs hu
    go_wp2
    ·
     go_roundw
     case rel => exact ⟨k + 1, by omega, by go_num, by
      rw [hu.out, RJ, if_pos ⟨by omega, by omega⟩]
      exact HR.out.store (Nat.le_refl _) k (by rw [mJ, bytesOf_length]; exact hlt) _⟩
     case measure => simp [intOf]; omega
    ·
     go_roundw
     case rel => exact ⟨k + 1, by omega, by go_num, by rw [hs.out (by omega)]; exact HR.out⟩
     case measure => simp [intOf]; omega
    ·
     go_roundw
     case rel => exact ⟨k + 1, by omega, by go_num, by rw [hs.out (by omega)]; exact HR.out⟩
     case measure => simp [intOf]; omega
   ·
    clear hR
    have kd := run_convert_bytes_arg (P := Tryz.prog) wr 22 5 Tryz.underlying22 Tryz.underlying5 w.heap.size 0 a0.size (grownCap w a0.size 0 5) (ET (bytesOf a0) k) (by rw [mJ, bytesOf_length]) (fun i hi => by
     rw [Nat.zero_add]; exact HR.out.cell i (by rw [mJ, bytesOf_length]; exact hi)) 9 Tryz.underlying9
    go_wp2
    go_ret
    have hk2 : k = a0.size := by omega
    exact ⟨by rw [hk2, V5 (bytesOf a0) a0.size (bytesOf_length a0)]; rfl, HR.out.below⟩
 ·
  cases h
def sF.f (a0 : ByteArray) (a1 : ByteArray) : Option (Bool) := (iQ.f a0).bind fun t141 => ((iQ.f a1).bind fun ar4 => (some (t141.toList == ar4.toList)))
theorem sF.calls {a0 a1 : ByteArray} {r : Bool} {w : World} (h : sF.f a0 a1 = some r) :
  Calls Tryz.prog 124 #[.string a0, .string a1] w fun e w' => e = .returned (.bool r) ∧ Below w.heap.size w w' := by
 have HB := ak (Below.refl w.heap.size w)
 unfold sF.f at h; have H := h
 clear h
 replace H := bd H; obtain ⟨t141, A3, H⟩ := H; replace H := bd H; obtain ⟨ar4, A4, H⟩ := H
 obtain rfl := s1 H
 go_enter Tryz.func124, Tryz.ntmps124
 go_wp2_with (first | (refine gB Tryz.func93 (iQ.calls A3.out) ?_; intro w5 hb; replace HB := bs HB hb; clear hb) | (refine gB Tryz.func93 (iQ.calls A4.out) ?_; intro w6 hb; replace HB := bs HB hb; clear hb))
 go_ret
 exact ⟨er, ul HB.out⟩
end Go.Proofs.YtncdadcmghglkaaGreatDoor.PFnKidValid
