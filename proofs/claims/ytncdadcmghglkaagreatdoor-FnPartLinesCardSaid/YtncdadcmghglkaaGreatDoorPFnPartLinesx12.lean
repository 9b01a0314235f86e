/- Printed walks; conditions: those in each statement. -/
import Derived.Test.YtncdadcmghglkaaGreatDoorVFnPartLinesQt
import Derived.Test.YtncdadcmghglkaaGreatDoorVFnPartLinesYt
import Derived.Test.YtncdadcmghglkaaGreatDoorPFnPartLinesx0
import Derived.Test.YtncdadcmghglkaaGreatDoorPFnPartLinesx11
-- fixed
-- short
-- dense
-- sq
-- sq2
namespace Go.Proofs.YtncdadcmghglkaaGreatDoor.PFnPartLines
open Go.RowKit Go.Proofs.YtncdadcmghglkaaGreatDoor.X Go.Proofs.YtncdadcmghglkaaGreatDoorW.bI Go.Proofs.YtncdadcmghglkaaGreatDoorW.iy Go.Proofs.YtncdadcmghglkaaGreatDoorW.iZ
attribute [local go_sem] kZ lg nK nM jW jX lq lu   -- for this text's walks alone
set_option linter.unusedVariables false
set_option maxHeartbeats 8000000
set_option maxRecDepth 100000
set_option linter.unusedSimpArgs false
mutual
def aK.j0 : Nat → ByteArray → Int → Option (List ByteArray)
 | 0, _, _ => none
 | k + 1, x3, x4 => aK.l0 k x3 x4 (([] : List ByteArray))
def aK.l0 : Nat → ByteArray → Int → List ByteArray → Option (List ByteArray)
 | 0, _, _, _ => none
 | k + 1, x3, x4, x5 => if (x3.size : Int) > 40 then (aK.l1 k x3 x5 (-1) x4) else (if x5.length < 8796093022208 then (some (x5 ++ [x3])) else (none))
def aK.l1 : Nat → ByteArray → List ByteArray → Int → Int → Option (List ByteArray)
 | 0, _, _, _, _ => none
 | k + 1, x3, x5, x6, x7 => if (wrap64 (x7 + 1)) < (x3.size : Int) then (if 0 ≤ x7 then (if x7 < (x3.size : Int) then (if (bt x3 x7) = 32 then (if 0 ≤ (wrap64 (x7 - 1)) then (if (wrap64 (x7 - 1)) < (x3.size : Int) then (if (bt x3 (wrap64 (x7 - 1))) = 32 then (aK.l1 k x3 x5 x6 (wrap64 (x7 + 1))) else (if 0 ≤ (wrap64 (x7 + 1)) then (if (bt x3 (wrap64 (x7 + 1))) = 32 then (aK.l1 k x3 x5 x6 (wrap64 (x7 + 1))) else (if x6 < 0 then (aK.l1 k x3 x5 x7 (wrap64 (x7 + 1))) else (if x7 ≤ 40 then (aK.l1 k x3 x5 x7 (wrap64 (x7 + 1))) else (aK.l1 k x3 x5 x6 (wrap64 (x7 + 1)))))) else (none))) else (none)) else (none)) else (aK.l1 k x3 x5 x6 (wrap64 (x7 + 1)))) else (none)) else (none)) else (if x6 < 0 then (if x5.length < 8796093022208 then (some (x5 ++ [x3])) else (none)) else (if 0 ≤ x6 then (if x6 ≤ (x3.size : Int) then (if x5.length < 8796093022208 then (aK.l0 k (x3.extract (x6 : Int).toNat x3.size) 2 (x5 ++ [x3.extract 0 (x6 : Int).toNat])) else (none)) else (none)) else (none)))
end
def aK.f (k : Nat) (eG : ByteArray) (eU : ByteArray) : Option (List ByteArray) := if eG.size + 1 ≤ 9223372036854775807 then (if eU.toList = ([] : List UInt8) then (aK.j0 k (eG ++ (⟨#[58]⟩ : ByteArray)) (wrap64 ((eG.size : Int) + 3))) else (if 1 + eU.size ≤ 9223372036854775807 then (if (eG ++ (⟨#[58]⟩ : ByteArray)).size + ((⟨#[32]⟩ : ByteArray) ++ eU).size ≤ 9223372036854775807 then (aK.j0 k ((eG ++ (⟨#[58]⟩ : ByteArray)) ++ ((⟨#[32]⟩ : ByteArray) ++ eU)) (wrap64 ((eG.size : Int) + 3))) else (none)) else (none))) else (none)
def aK.T1 : Bool × List (List Nat × List Nat) := (true, [([], []), ([0], [0]), ([1], [1]), ([], []), ([3], [3]), ([4], [4]), ([5], [5]), ([2, 0, 1, 2], [2]), ([6, 7, 0, 1, 2, 3, 4, 5, 6, 7], [6])])
def aK.B1 : List Nat := [0, 1, 3, 0, 8, 24, 56, 7, 255]
theorem aK.apr : rU .any (opsOf Tryz.f83 1) = aK.T1 := by kernel_rfl
theorem aK.aip : nD aK.T1.2 aK.B1 = true := by kernel_rfl
def aK.T13 : Bool × List (List Nat × List Nat) := (true, [([], []), ([], []), ([], []), ([1, 2], [1, 2]), ([3], [3]), ([0, 4], [0, 4]), ([], []), ([], []), ([6, 7], [6, 7]), ([5, 5, 0, 1, 2, 3, 4, 5], [0, 5]), ([8, 9, 0, 1, 2, 3, 4, 5, 6, 7, 8, 9], [1, 6, 8]), ([10, 0, 1, 2, 3, 4, 5, 6, 7, 8, 9, 10], [])])
def aK.B13 : List Nat := [0, 0, 0, 6, 14, 31, 0, 0, 192, 63, 1023, 2047]
theorem aK.Y3 : rU .any (opsOf Tryz.f83 13) = aK.T13 := by kernel_rfl
theorem aK.TF : nD aK.T13.2 aK.B13 = true := by kernel_rfl
theorem aK.calls {k : Nat} {eG eU : ByteArray} {r : List ByteArray} {w : World} (h : aK.f k eG eU = some r) :
  Calls Tryz.prog 83 #[.agg #[.string eG, .string eU]] w fun e w' => ∃ oV : Value, e = .returned (oV) ∧ Kd.R Kd.string 9 w' w.heap.size (fun _ => True) oV r ∧ Below w.heap.size w w' := by
 have Dn := Tryz.underlying69
 have HB := ak (Below.refl w.heap.size w)
 unfold aK.f at h; have H := h
 clear h
 replace H := nn H; obtain ⟨c2, H⟩ := H
 have ou := eq_true c2
 have vK := decide_eq_true c2
 try have ade : (9223372036854775807 < eG.size + 1) = False := eq_false (Nat.not_lt.2 c2)
 have OU := ak H
 clear H
 go_enter Tryz.func83, Tryz.ntmps83
 try go_wp2_with (refine bX HB 1 #[.string eG, .string eU] 69 ?_; intro MP w4 pW aA2 hb; replace HB := bs HB hb; clear hb)
 refine rO [] [0, 3, 1, 2, 7, 4, 5, 6, 8] (fun w' => w'.cell? ⟨MP, 0, none⟩ = some (.string eG) ∧ w'.cell? ⟨MP, 1, none⟩ = some (.string eU)) ?_
 intro w5 hb
 replace pW := kb pW hb
 replace HB := bs HB hb
 refine ⟨sx, ?_⟩
 repeat refine wO ?_
 refine on ?_
 have z6 := zC pW.out
 go_upto_if 17 with (fail)
 go_cut [3] (fun v3 wc => ∃ (kq : Nat) (kV : ByteArray), v3 = .string kV ∧ ah (aK.j0 kq kV (wrap64 ((eG.size : Int) + 3)) = some r) ∧ ah (kq ≤ k) ∧ ah (wc.heap[MP]? = some (.cells #[.string eG, .string eU] 69 (0, 0))) ∧ ah (Below w.heap.size w wc))
 case first =>
  have H := OU.out
  clear OU
  replace H := sp H
  rcases H with ⟨c7, H⟩ | ⟨c7, H⟩
  ·
   have rF := beq_iff_eq.mpr c7
   have c7e : (eU.toList).isEmpty = true := List.isEmpty_iff.mpr c7
   have HY := bne_eq_false_iff_eq.mpr c7
   clear c7
   (first | rw [rF] | (simp only [iK, jI]; rw [rF]) | skip)
   (first | (rw [c7e]; simp only [Bool.not_true, Bool.not_false]) | skip)
   have H' := ak H; clear H
   go_wp2
   go_meet
   case rel => exact ⟨_, _, rs, H', ⟨IL⟩, ⟨ub pW.out⟩, ⟨bb⟩⟩
  ·
   have rF := beq_eq_false_iff_ne.mpr c7
   have c7e : (eU.toList).isEmpty = false := List.isEmpty_eq_false_iff.mpr c7
   have HY := bne_iff_ne.mpr c7
   (first | rw [rF] | (simp only [iK, jI]; rw [rF]) | skip)
   (first | (rw [c7e]; simp only [Bool.not_true, Bool.not_false]) | skip)
   replace H := nn H; obtain ⟨c8, H⟩ := H
   have tX := eq_true c8
   have Eu := decide_eq_true c8
   try have aps : (9223372036854775807 < 1 + eU.size) = False := eq_false (Nat.not_lt.2 c8)
   replace H := nn H; obtain ⟨c9, H⟩ := H
   have xY := eq_true c9
   have EN := decide_eq_true c9
   try have aDT : (9223372036854775807 < eG.size + 1 + (1 + eU.size)) = False := by have h_ := (eq_false (Nat.not_lt.2 c9) : (9223372036854775807 < (eG ++ (⟨#[58]⟩ : ByteArray)).size + ((⟨#[32]⟩ : ByteArray) ++ eU).size) = False); simp only [ByteArray.size_append] at h_; exact h_
   try have apt : (9223372036854775807 < (eG ++ (⟨#[58]⟩ : ByteArray)).size + ((⟨#[32]⟩ : ByteArray) ++ eU).size) = False := eq_false (Nat.not_lt.2 c9)
   have H' := ak H; clear H
   have z10 := zC pW.out
   go_wp2
   go_meet
   case rel => exact ⟨_, _, rs, H', ⟨IL⟩, ⟨ub pW.out⟩, ⟨bb⟩⟩
 case rest =>
  clear OU
  try clear c2
  try clear ou
  try clear vK
  try clear ade
  obtain ⟨kq, kV, rfl, HA, HJ2, pW, HB⟩ := hcut
  cases kq with
  | zero => exact zz HA.out
  | succ YD =>
   obtain ⟨H⟩ := HA
   simp only [aK.j0] at H
   obtain ⟨aDU, aiq⟩ := nm ([] : List ByteArray)
   rw [← aiq.out] at H
   have H' := ak H; clear H
   go_wp2_with (refine Gu 23 Kd.string 9 aiq ?_; intro aDV U3 adf hb; have apu := ak (Kd.aC adf (aj bb)); replace pW := kb pW hb; replace HB := bz HB hb; clear hb adf)
   go_loopg [3, 4, 5] YD (fun kq v3 v4 v5 w' => ∃ (kV : ByteArray) (oh : Int) (sG : List ByteArray), v3 = .string kV ∧ v4 = .int .i64 oh ∧ ah (aK.l0 kq kV oh sG = some r) ∧ ah (kq ≤ YD) ∧ ah (Kd.R Kd.string 9 w' w.heap.size (fun _ => True) v5 sG) ∧ ah (w'.heap[MP]? = some (.cells #[.string eG, .string eU] 69 (0, 0))) ∧ ah (Below w.heap.size w w'))
   case atStart => exact ⟨_, _, _, rs, rs, H', ⟨Nat.le_refl _⟩, ⟨ur apu.out⟩, ⟨ub pW.out⟩, ⟨bb⟩⟩
   case round =>
    clear H'
    try clear c2
    try clear ou
    try clear vK
    try clear ade
    obtain ⟨kV, oh, sG, rfl, rfl, HA, MJ, qg, pW, HB⟩ := hrel
    cases gk with
    | zero => exact zz HA.out
    | succ k2 =>
     obtain ⟨H⟩ := HA
     simp only [aK.l0] at H
     replace H := sp H
     rcases H with ⟨c13, H⟩ | ⟨c13, H⟩
     ·
      have vw : decide (40 < (kV.size : Int)) = true := decide_eq_true c13
      have zy : decide (40 < kV.size) = true := decide_eq_true (by omega)
      clear c13
      have H' := ak H; clear H
      go_wp2
      go_loopg [6, 7] k2 (fun kq v6 v7 w' => ∃ (CO : Int) (pK : Int), v6 = .int .i64 CO ∧ v7 = .int .i64 pK ∧ ah (aK.l1 kq kV sG CO pK = some r) ∧ ah (kq ≤ k2) ∧ ah (Kd.R Kd.string 9 w' w.heap.size (fun _ => True) u5 sG) ∧ ah (w'.heap[MP]? = some (.cells #[.string eG, .string eU] 69 (0, 0))) ∧ ah (Below w.heap.size w w'))
      case atStart => exact ⟨_, _, rs, rs, H', ⟨Nat.le_refl _⟩, ⟨ur qg.out⟩, ⟨ub pW.out⟩, ⟨bb⟩⟩
      case round =>
       clear H'
       try clear c2
       try clear ou
       try clear vK
       try clear ade
       try clear c13
       try clear vw
       try clear zy
       obtain ⟨CO, pK, rfl, rfl, HA, Y4, qg, pW, HB⟩ := hrel
       cases gk with
       | zero => exact zz HA.out
       | succ k3 =>
        obtain ⟨H⟩ := HA
        simp only [aK.l1] at H
        replace H := sp H
        rcases H with ⟨c14, H⟩ | ⟨c14, H⟩
        ·
         have sH := decide_eq_true c14
         (try (have wS : decide ((pK + 1) < (kV.size : Int)) = true := decide_eq_true (by have h_ := c14; unfold wrap64 at h_; omega)))
         clear c14
         replace H := oq H; obtain ⟨vC, H⟩ := H; replace H := oq H; obtain ⟨zA, H⟩ := H; replace H := sq H
         rcases H with ⟨vF, I9, H⟩ | ⟨c18, vF, I9, H⟩
         ·
          obtain ⟨TG, adg⟩ : ∃ j_ : Int, (wrap64 (pK - 1)) = j_ := ⟨_, rfl⟩
          replace H : (if 0 ≤ (TG) then (if (TG) < (kV.size : Int) then (if (bt kV (TG)) = 32 then (aK.l1 k3 kV sG CO (wrap64 (pK + 1))) else (if 0 ≤ (wrap64 (pK + 1)) then (if (bt kV (wrap64 (pK + 1))) = 32 then (aK.l1 k3 kV sG CO (wrap64 (pK + 1))) else (if CO < 0 then (aK.l1 k3 kV sG pK (wrap64 (pK + 1))) else (if pK ≤ 40 then (aK.l1 k3 kV sG pK (wrap64 (pK + 1))) else (aK.l1 k3 kV sG CO (wrap64 (pK + 1)))))) else (none))) else (none)) else (none)) = some r := by first | (rw [adg] at H; exact H) | (simp only [adg] at H ⊢; exact H)
          have ayn : (IntKind.i64.wrap (pK - 1)) = TG := (iK _).trans adg
          replace H := oq H; obtain ⟨Q_, H⟩ := H; replace H := oq H; obtain ⟨D_, H⟩ := H; replace H := sq H
          rcases H with ⟨Ad, MQ, H⟩ | ⟨c23, Ad, MQ, H⟩
          ·
           have H' := ak H; clear H
           obtain ⟨p17, q17, adh⟩ := bx kV pK
           obtain ⟨p22, q22, agt⟩ := bx kV (TG)
           go_wp2
           go_roundg k3
           case measure => exact kl
           case rel => exact ⟨_, _, rs, rs, H', ⟨kl⟩, ⟨ur qg.out⟩, ⟨ub pW.out⟩, ⟨bb⟩⟩
          ·
           obtain ⟨O_, MR⟩ : ∃ j_ : Int, (wrap64 (pK + 1)) = j_ := ⟨_, rfl⟩
           replace H : (if 0 ≤ (O_) then (if (bt kV (O_)) = 32 then (aK.l1 k3 kV sG CO O_) else (if CO < 0 then (aK.l1 k3 kV sG pK O_) else (if pK ≤ 40 then (aK.l1 k3 kV sG pK O_) else (aK.l1 k3 kV sG CO O_)))) else (none)) = some r := by first | (rw [MR] at H; exact H) | (simp only [MR] at H ⊢; exact H)
           (try rw [MR] at sH)
           have ayo : (IntKind.i64.wrap (pK + 1)) = O_ := (iK _).trans MR
           replace H := oq H; obtain ⟨Pg, H⟩ := H; replace H := sq H
           rcases H with ⟨EO, Y5, H⟩ | ⟨c27, EO, Y5, H⟩
           ·
            have H' := ak H; clear H
            obtain ⟨p17, q17, adh⟩ := bx kV pK
            obtain ⟨p22, q22, agt⟩ := bx kV (TG)
            obtain ⟨p26, q26, alI⟩ := bx kV (O_)
            go_wp2
            go_roundg k3
            case measure => exact kl
            case rel => exact ⟨_, _, rs, (by first | rfl | (simp; done) | (simp only [← MR] <;> (first | rfl | simp)) | (simp [*]; done)), H', ⟨kl⟩, ⟨ur qg.out⟩, ⟨ub pW.out⟩, ⟨bb⟩⟩
           ·
            replace H := sd H
            rcases H with ⟨EP, H⟩ | ⟨EP, H⟩
            ·
             have H' := ak H; clear H
             obtain ⟨p17, q17, adh⟩ := bx kV pK
             obtain ⟨p22, q22, agt⟩ := bx kV (TG)
             obtain ⟨p26, q26, alI⟩ := bx kV (O_)
             go_wp2
             go_roundg k3
             case measure => exact kl
             case rel => exact ⟨_, _, rs, (by first | rfl | (simp; done) | (simp only [← MR] <;> (first | rfl | simp)) | (simp [*]; done)), H', ⟨kl⟩, ⟨ur qg.out⟩, ⟨ub pW.out⟩, ⟨bb⟩⟩
            ·
             replace H := sd H
             rcases H with ⟨Y6, H⟩ | ⟨Y6, H⟩
             ·
              have H' := ak H; clear H
              obtain ⟨p17, q17, adh⟩ := bx kV pK
              obtain ⟨p22, q22, agt⟩ := bx kV (TG)
              obtain ⟨p26, q26, alI⟩ := bx kV (O_)
              go_wp2
              go_roundg k3
              case measure => exact kl
              case rel => exact ⟨_, _, rs, (by first | rfl | (simp; done) | (simp only [← MR] <;> (first | rfl | simp)) | (simp [*]; done)), H', ⟨kl⟩, ⟨ur qg.out⟩, ⟨ub pW.out⟩, ⟨bb⟩⟩
             ·
              have H' := ak H; clear H
              obtain ⟨p17, q17, adh⟩ := bx kV pK
              obtain ⟨p22, q22, agt⟩ := bx kV (TG)
              obtain ⟨p26, q26, alI⟩ := bx kV (O_)
              go_wp2
              go_roundg k3
              case measure => exact kl
              case rel => exact ⟨_, _, rs, (by first | rfl | (simp; done) | (simp only [← MR] <;> (first | rfl | simp)) | (simp [*]; done)), H', ⟨kl⟩, ⟨ur qg.out⟩, ⟨ub pW.out⟩, ⟨bb⟩⟩
         ·
          have H' := ak H; clear H
          obtain ⟨p17, q17, adh⟩ := bx kV pK
          go_wp2
          go_roundg k3
          case measure => exact kl
          case rel => exact ⟨_, _, rs, rs, H', ⟨kl⟩, ⟨ur qg.out⟩, ⟨ub pW.out⟩, ⟨bb⟩⟩
        ·
         have sH := decide_eq_false c14
         (try (have wS : decide ((pK + 1) < (kV.size : Int)) = false := decide_eq_false (by have h_ := c14; unfold wrap64 at h_; omega)))
         clear c14
         replace H := sd H
         rcases H with ⟨Y7, H⟩ | ⟨Y7, H⟩
         ·
          replace H := nl H; obtain ⟨adi, H⟩ := H
          obtain ⟨aDW, air⟩ := nm (sG ++ [kV])
          rw [← air.out] at H
          obtain rfl := s1 H
          go_wp2_with ((with_reducible refine eu (b := .append) (xs := #[.tmp 73, .tmp 75]) rfl ?_); at_builtin; refine Kd.pV Kd.string (w0 := w) w.heap.size rfl (.tmp 73) (.tmp 75) 23 9 (.string ⟨#[]⟩) 16 rfl Tryz.underlying23 info9 rfl (by decide) (by omega) u5 sG kV [.string kV] (fun _ => True) (fun _ => False) rfl rfl ?aP (fun _ hk => hk.elim) ?aF ?aO ?aB ?aS ?aL ?_; (case aP => exact rfl); (case aB => exact bb); (case aF => exact (fun _ _ => trivial)); (case aO => exact (ur qg.out)); (case aS => exact (aj bb)); (case aL => have := adi.out; omega); intro aDX w32 ho hb hg hat; rw [← air.out] at ho; have apv := ak (ho); replace pW := ak (cZ (g := MP) (o := .cells #[.string eG, .string eU] 69 (0, 0)) (ub pW.out) hg (Kd.oG qg.out pW.out (by decide))); replace HB := ak (hb); clear ho hb hg hat qg)
          go_ret
          exact ⟨_, er, ur apv.out, bb⟩
         ·
          replace H := yL H; obtain ⟨Rk, adk, H⟩ := H; replace H := yL H; obtain ⟨OY, OZ, H⟩ := H; replace H := nl H; obtain ⟨adl, H⟩ := H
          obtain ⟨aDY, ais⟩ := nm (sG ++ [kV.extract 0 (CO : Int).toNat])
          rw [← ais.out] at H
          have adn := eq_true (of_decide_eq_true (by assumption) : 0 ≤ CO)
          have aA3 := eq_true (of_decide_eq_true (by assumption) : CO ≤ (kV.size : Int))
          have H' := ak H; clear H
          try go_wp2
          replace qg := ak (Kd.fV qg.out)
          replace pW := ak (iQ pW.out)
          replace HB := ak (fQ HB.out)
          refine ro [4, 5] [0, 1, 2, 3, 6, 7, 8, 4, 5, 9, 10, 11] (fun w' => True) trivial ?_
          generalize wr.drew = w38 at qg pW HB ⊢
          repeat refine wO ?_
          refine ld (N := some 68) (gk.trans rfl) rfl rfl (fun K hK => ?_)
          refine Ci (w1 := ?_) (v := ?_) (by rfl) rfl ?_ ?_
          rotate_left 2
          ·
           go_simp
           constructor
           ·
            rfl
           ·
            rfl
          refine hK.out _ _ trivial ?_
          clear hK K
          refine no (a' := ?_) ?_ ?_
          rotate_left
          ·
           show Act.put _ (some 68) _ = _
           simp only [Act.put, yT, yU, l_c, iK, jI]
           rfl
          refine ld (N := some 69) (gk.trans rfl) rfl rfl (fun K hK => ?_)
          refine Kd.nJ Kd.string (w0 := w) w.heap.size (by rfl) (.tmp 64) (.tmp 68) 23 9 (.string ⟨#[]⟩) 16 rfl Tryz.underlying23 info9 rfl (by decide) (by omega) u5 sG (kV.extract 0 (CO : Int).toNat) [.string (kV.extract 0 (CO : Int).toNat)] (fun _ => True) (fun _ => False) rfl rfl ?aP (fun _ hk => hk.elim) ?aF ?aO ?aB ?aS ?aL ?_
          (case aP => exact rfl)
          (case aB => exact bb)
          (case aF => exact (fun _ _ => trivial))
          (case aO => exact (ur qg.out))
          (case aS => exact (aj bb))
          (case aL => have := adl.out; omega)
          intro aDZ w39 ho hb hg hat
          rw [← ais.out] at ho
          have yQ := ak (cZ (g := MP) (o := .cells #[.string eG, .string eU] 69 (0, 0)) (ub pW.out) hg (Kd.oG qg.out pW.out (by decide)))
          have yR := ak (hb)
          have zB := ak (ho)
          clear pW HB qg
          have pW := yQ
          have HB := yR
          have apw := zB
          clear yQ yR zB ho hb hg hat
          refine hK.out _ _ trivial ?_
          clear hK K
          refine no (a' := ?_) ?_ ?_
          rotate_left
          ·
           show Act.put _ (some 69) _ = _
           simp only [Act.put, yT, yU, l_c, iK, jI]
           rfl
          repeat refine wO ?_
          refine on ?_
          try go_wp2
          go_roundg k3
          case measure => exact kl
          case rel => exact ⟨_, _, _, rs, rs, H', ⟨kl⟩, ⟨ur apw.out⟩, ⟨ub pW.out⟩, ⟨bb⟩⟩
     ·
      have vw : decide (40 < (kV.size : Int)) = false := decide_eq_false c13
      have zy : decide (40 < kV.size) = false := decide_eq_false (by omega)
      clear c13
      replace H := nl H; obtain ⟨Ve, H⟩ := H
      obtain ⟨aD0, ait⟩ := nm (sG ++ [kV])
      rw [← ait.out] at H
      obtain rfl := s1 H
      go_wp2_with ((with_reducible refine eu (b := .append) (xs := #[.tmp 73, .tmp 75]) rfl ?_); at_builtin; refine Kd.pV Kd.string (w0 := w) w.heap.size rfl (.tmp 73) (.tmp 75) 23 9 (.string ⟨#[]⟩) 16 rfl Tryz.underlying23 info9 rfl (by decide) (by omega) u5 sG kV [.string kV] (fun _ => True) (fun _ => False) rfl rfl ?aP (fun _ hk => hk.elim) ?aF ?aO ?aB ?aS ?aL ?_; (case aP => exact rfl); (case aB => exact bb); (case aF => exact (fun _ _ => trivial)); (case aO => exact (ur qg.out)); (case aS => exact (aj bb)); (case aL => have := Ve.out; omega); intro aD1 w41 ho hb hg hat; rw [← ait.out] at ho; have apx := ak (ho); replace pW := ak (cZ (g := MP) (o := .cells #[.string eG, .string eU] 69 (0, 0)) (ub pW.out) hg (Kd.oG qg.out pW.out (by decide))); replace HB := ak (hb); clear ho hb hg hat qg)
      go_ret
      exact ⟨_, er, ur apx.out, bb⟩
def fG.l0 : Nat → List ByteArray → List (gX) → Int → Int → Option (List ByteArray × Bool)
 | 0, _, _, _, _ => none
 | k + 1, x4, x11, x12, TI => if TI < x12 then (if 0 ≤ TI then (if TI < (x11.length : Int) then ((aK.f k ((fC x11 TI).f0) ((fC x11 TI).f1)).bind fun abp => (if x4.length + abp.length < 8796093022208 then (fG.l0 k (x4 ++ abp) x11 x12 (wrap64 (TI + 1))) else (none))) else (none)) else (none)) else (some (x4, true))
def fG.f (k : Nat) (l0 : List (gX)) : Option (List ByteArray × Bool) := (mY.f k l0).bind fun apy => (if apy = true then (fG.l0 k (([] : List ByteArray)) l0 (l0.length : Int) 0) else (some (([] : List ByteArray), false)))
theorem fG.calls {k c0 : Nat} {A0 : Option Addr} {l0 : List (gX)} {r1 : List ByteArray} {r2 : Bool} {w : World} (hr0 : Kd.C qI w A0 l0.length l0) (hc0 : l0.length ≤ c0) (h : fG.f k l0 = some (r1, r2)) :
  Calls Tryz.prog 39 #[.slice A0 l0.length c0] w fun e w' => ∃ oV : Value, e = .returned (.tuple #[oV, .bool r2]) ∧ Kd.R Kd.string 9 w' w.heap.size (fun _ => True) oV r1 ∧ Below w.heap.size w w' := by
 have Dn := Tryz.underlying69
 have HR0 := ak hr0
 have xE := ak hc0
 clear hr0 hc0
 have HB := ak (Below.refl w.heap.size w)
 unfold fG.f at h; have H := h
 clear h
 replace H := bd H; obtain ⟨apy, A2, H⟩ := H; replace H := sb H
 rcases H with ⟨rfl, H⟩ | ⟨rfl, H⟩
 ·
  obtain ⟨aD2, aiu⟩ := nm ([] : List ByteArray)
  rw [← aiu.out] at H
  have H' := ak H; clear H
  go_enter Tryz.func39, Tryz.ntmps39
  go_wp2_with (first | (refine gB Tryz.func82 (mY.calls (cu HR0.out) xE.out A2.out) ?_; intro w4 hb; replace HB := bs HB hb; clear hb) | (refine Gu 10 Kd.string 9 aiu ?_; intro aD3 w5 Y8 hb; have apz := ak (Kd.aC Y8 (aj (ul HB.out))); replace HB := bs HB hb; clear hb Y8))
  go_loopg [4, 13] k (fun kq v4 v13 w' => ∃ (eP : List ByteArray) (Bl : Int), v13 = .int .i64 Bl ∧ ah (fG.l0 kq eP l0 (l0.length : Int) Bl = some (r1, r2)) ∧ ah (kq ≤ k) ∧ ah (Kd.R Kd.string 9 w' w.heap.size (fun _ => True) v4 eP) ∧ ah (Below w.heap.size w w'))
  case atStart => exact ⟨_, _, rs, H', ⟨Nat.le_refl _⟩, ⟨ur apz.out⟩, ⟨ul HB.out⟩⟩
  case round =>
   clear H'
   obtain ⟨eP, Bl, rfl, HA, xI, dO, HB⟩ := hrel
   cases gk with
   | zero => exact zz HA.out
   | succ k1 =>
    obtain ⟨H⟩ := HA
    simp only [fG.l0] at H
    replace H := sd H
    rcases H with ⟨rF, H⟩ | ⟨rF, H⟩
    ·
     replace H := oq H; obtain ⟨tX, H⟩ := H; replace H := oq H; obtain ⟨xY, H⟩ := H; replace H := bd H; obtain ⟨abp, WV, H⟩ := H; replace H := nl H; obtain ⟨Ph, H⟩ := H
     obtain ⟨aD4, aiv⟩ := nm (eP ++ abp)
     rw [← aiv.out] at H
     have H' := ak H; clear H
     have alJ := zi Bl
     have alK := zj Bl l0.length
     obtain ⟨aA4, ayp, Y9, Y_⟩ := qL HR0.out Bl alJ alK
     cases ayp
     replace Y9 := cl HB.out Y9
     replace Y_ := cl HB.out Y_
     replace alJ := eq_true alJ
     replace alK := eq_true alK
     go_wp2_with (first | (refine bX HB 6 #[.string (⟨#[]⟩ : ByteArray), .string (⟨#[]⟩ : ByteArray)] 69 ?_; intro apA w12 Rl aA5 hb; replace dO := rb dO hb; replace HB := bs HB hb; clear hb; have z13 := zC Rl.out) | (refine gV Tryz.func83 (aK.calls WV.out) ?_; rintro aD5 SS ⟨ho0, hb⟩; have Vf := ak (Kd.aC (Kd.dR ho0 (Kd.jh (rh dO))) (aj bb)); replace dO := ak (Kd.bH (rh dO) (Kd.bZ ho0) hb); replace Rl := kp Rl #[.string ((fC l0 Bl).f0), .string ((fC l0 Bl).f1)] hb; replace HB := bz HB hb; clear hb; (try clear ho0); obtain ⟨Vb, Vd, TD⟩ := Kd.aI Vf.out; subst TD) | ((with_reducible refine eu (b := .append) (xs := #[.tmp 17, .tmp 19]) rfl ?_); at_builtin; refine Kd.ql Kd.string (w0 := w) w.heap.size rfl (.tmp 17) (.tmp 19) 23 9 (.string ⟨#[]⟩) 16 rfl Tryz.underlying23 info9 rfl (by decide) (by omega) u4 eP abp _ _ _ (fun k_ => some k_ ≠ (.slice Vb abp.length Vd : Value).ownBlock) (fun _ => False) rfl rfl ?aO ?aR (fun _ _ h => h) (fun _ h => h.elim) ?aF ?aB ?aS ?aL ?_; (case aR => repeat (first | exact (Kd.ay Vf.out).2.2 | (with_reducible refine Kd.ni ?_ _) | (with_reducible refine Kd.nC ?_ _) | (with_reducible refine Kd.pY ?_))); (case aB => exact bb); (case aF => exact (fun k_ hk => Kd.fresh' (Kd.jh (ur Vf.out)) k_ hk)); (case aO => exact (ur (Kd.aY dO.out (fun _ hk => hk.2)))); (case aS => exact (aj bb)); (case aL => have := Ph.out; omega); intro aD6 w15 ho hb hg hat; rw [← aiv.out] at ho; have apB := ak (ho); replace Rl := ak (cZ (g := apA) (o := .cells #[.string ((fC l0 Bl).f0), .string ((fC l0 Bl).f1)] 69 (0, 0)) (ub Rl.out) hg (Kd.oG dO.out Rl.out (by decide))); replace Vf := ak (Kd.zI (ok := (fun _ => True)) (ur Vf.out) hg hat); replace HB := ak (hb); clear ho hb hg hat dO))
     go_roundg k1
     case measure => exact kl
     case rel => exact ⟨_, _, rs, H', ⟨kl⟩, ⟨ur (Kd.aY apB.out (fun _ hk => trivial))⟩, ⟨bb⟩⟩
    ·
     obtain ⟨rfl, rfl⟩ := s2 H
     go_wp2
     go_ret2
     exact ⟨_, er, ur dO.out, ul HB.out⟩
 ·
  obtain ⟨rfl, rfl⟩ := s2 H
  go_enter Tryz.func39, Tryz.ntmps39
  go_wp2_with (refine gB Tryz.func82 (mY.calls (cu HR0.out) xE.out A2.out) ?_; intro w17 hb; replace HB := bs HB hb; clear hb)
  go_ret2
  exact ⟨_, er, nx, ul HB.out⟩
def iW.f (a0 : ByteArray) : Option (ByteArray) := if a0.size ≤ 140737488355328 then some (strOfNums ((bytesOf a0).map QL)) else none
set_option maxHeartbeats 1000000 in
set_option maxRecDepth 100000 in
theorem iW.calls {a0 r : ByteArray} {w : World} (h : iW.f a0 = some r) :
  Calls Tryz.prog 93 #[.string a0] w fun e w' => e = .returned (.string r) ∧ Below w.heap.size w w' := by
 unfold iW.f at h
 split at h
 ·
  rename_i hb
  injection h with h
  subst h
  have kb := fun W => MS (P := Tryz.prog) 9 22 5 Tryz.underlying9 Tryz.underlying22 Tryz.underlying5 a0 W
  go_enter Tryz.func93, Tryz.ntmps93
  go_wp2
  go_loopw [10] (fun i W => ∃ k : Nat, k ≤ a0.size ∧ i = .int .i64 k ∧ Lc w w.heap.size (Ew (bytesOf a0) k) W) (fun i _ => a0.size - (intOf i).toNat)
  case atStart => exact ⟨0, Nat.zero_le _, rfl, by simpa [Ew] using I_ w 5 a0⟩
  case round =>
   obtain ⟨k, hk, rfl, hR⟩ := hrel
   have HR := ak hR
   by_cases hlt : k < a0.size
   ·
    have hc := hR.cell k (by rw [lX, bytesOf_length]; exact hlt)
    have hf := hR.free k (by rw [lX, bytesOf_length]; exact hlt)
    rw [TJ _ _ (by rw [bytesOf_length]; exact hlt)] at hc
    clear hR
    have hr := G6 a0 k
    have hs := ak (Rn (bytesOf a0) k (by rw [bytesOf_length]; exact hlt))
    have hu := ak (Ld (bytesOf a0) k (by rw [bytesOf_length]; exact hlt))
    generalize (bytesOf a0).getD k 0 = c at hc hr hs hu
    go_wp2
    ·
     go_roundw
     case rel => exact ⟨k + 1, by omega, by go_num, by
      rw [hu.out, QL, if_pos ⟨by omega, by omega⟩]
      exact HR.out.store (Nat.le_refl _) k (by rw [lX, bytesOf_length]; exact hlt) _⟩
     case measure => simp [intOf]; omega
    ·
     go_roundw
     case rel => exact ⟨k + 1, by omega, by go_num, by rw [hs.out (by omega)]; exact HR.out⟩
     case measure => simp [intOf]; omega
    ·
     go_roundw
     case rel => exact ⟨k + 1, by omega, by go_num, by rw [hs.out (by omega)]; exact HR.out⟩
     case measure => simp [intOf]; omega
   ·
    clear hR
    have kd := run_convert_bytes_arg (P := Tryz.prog) wr 22 5 Tryz.underlying22 Tryz.underlying5 w.heap.size 0 a0.size (grownCap w a0.size 0 5) (Ew (bytesOf a0) k) (by rw [lX, bytesOf_length]) (fun i hi => by
     rw [Nat.zero_add]; exact HR.out.cell i (by rw [lX, bytesOf_length]; exact hi)) 9 Tryz.underlying9
    go_wp2
    go_ret
    have hk2 : k = a0.size := by omega
    exact ⟨by rw [hk2, Vg (bytesOf a0) a0.size (bytesOf_length a0)]; rfl, HR.out.below⟩
 ·
  cases h
def rH.f (a0 : ByteArray) (a1 : ByteArray) : Option (Bool) := (iW.f a0).bind fun apC => ((iW.f a1).bind fun apD => (some (apC.toList == apD.toList)))
theorem rH.calls {a0 a1 : ByteArray} {r : Bool} {w : World} (h : rH.f a0 a1 = some r) :
  Calls Tryz.prog 124 #[.string a0, .string a1] w fun e w' => e = .returned (.bool r) ∧ Below w.heap.size w w' := by
 have HB := ak (Below.refl w.heap.size w)
 unfold rH.f at h; have H := h
 clear h
 replace H := bd H; obtain ⟨apC, A3, H⟩ := H; replace H := bd H; obtain ⟨apD, A4, H⟩ := H
 obtain rfl := s1 H
 go_enter Tryz.func124, Tryz.ntmps124
 go_wp2_with (first | (refine gB Tryz.func93 (iW.calls A3.out) ?_; intro w5 hb; replace HB := bs HB hb; clear hb) | (refine gB Tryz.func93 (iW.calls A4.out) ?_; intro w6 hb; replace HB := bs HB hb; clear hb))
 go_ret
 exact ⟨er, ul HB.out⟩
end Go.Proofs.YtncdadcmghglkaaGreatDoor.PFnPartLines
