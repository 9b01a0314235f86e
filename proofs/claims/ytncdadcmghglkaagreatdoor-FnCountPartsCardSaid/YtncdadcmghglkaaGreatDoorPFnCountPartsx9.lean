/- Printed walks; conditions: those in each statement. -/
import Derived.Test.YtncdadcmghglkaaGreatDoorVFnCountPartsQt
import Derived.Test.YtncdadcmghglkaaGreatDoorVFnCountPartsYt
import Derived.Test.YtncdadcmghglkaaGreatDoorPFnCountPartsx0
import Derived.Test.YtncdadcmghglkaaGreatDoorPFnCountPartsx7
import Derived.Test.YtncdadcmghglkaaGreatDoorPFnCountPartsx8
-- short
-- dense
-- sq
-- sq2
namespace Go.Proofs.YtncdadcmghglkaaGreatDoor.PFnCountParts
open Go.RowKit Go.Proofs.YtncdadcmghglkaaGreatDoor.X Go.Proofs.YtncdadcmghglkaaGreatDoorW.bI Go.Proofs.YtncdadcmghglkaaGreatDoorW.gI Go.Proofs.YtncdadcmghglkaaGreatDoorW.iL
attribute [local go_sem] kN kP mF mG jB jC kQ kR   -- for this text's walks alone
set_option linter.unusedVariables false
set_option maxHeartbeats 8000000
set_option maxRecDepth 100000
set_option linter.unusedSimpArgs false
mutual
def fE.j0 : Nat → List (List ByteArray) → Bool → ByteArray → Option (List ByteArray × Bool)
 | 0, _, _, _ => none
 | k + 1, x0, x21, BM => if x21 = true then (some (([] : List ByteArray), false)) else (fE.l0 k (([] : List ByteArray)) x0 (x0.length : Int) 0 BM)
def fE.l0 : Nat → List ByteArray → List (List ByteArray) → Int → Int → ByteArray → Option (List ByteArray × Bool)
 | 0, _, _, _, _, _ => none
 | k + 1, x6, x23, x24, x25, BM => if x25 < x24 then (if 0 ≤ x25 then (if x25 < (x23.length : Int) then (if 2 + BM.size ≤ 9223372036854775807 then (if x6.length < 8796093022208 then ((some (x6 ++ [(⟨#[45, 45]⟩ : ByteArray) ++ BM] : List ByteArray)).bind fun afh => (if afh.length + (xX x23 x25).length < 8796093022208 then (fE.l0 k (afh ++ (xX x23 x25)) x23 x24 (wrap64 (x25 + 1)) BM) else (none))) else (none)) else (none)) else (none)) else (none)) else (if 2 + BM.size ≤ 9223372036854775807 then (if ((⟨#[45, 45]⟩ : ByteArray) ++ BM).size + 2 ≤ 9223372036854775807 then (if x6.length < 8796093022208 then (some ((x6 ++ [((⟨#[45, 45]⟩ : ByteArray) ++ BM) ++ (⟨#[45, 45]⟩ : ByteArray)]), true)) else (none)) else (none)) else (none))
end
def fE.f (k : Nat) (l0 : List (List ByteArray)) (a1 : ByteArray) : Option (List ByteArray × Bool) := (kD.f k a1).bind fun avd => (if avd = true then (if (l0.length : Int) = 0 then (fE.j0 k l0 true a1) else ((dP.f k l0 a1).bind fun ave => (fE.j0 k l0 ave a1))) else (fE.j0 k l0 true a1))
theorem fE.calls {k c0 : Nat} {A0 : Option Addr} {l0 : List (List ByteArray)} {a1 : ByteArray} {r1 : List ByteArray} {r2 : Bool} {w : World} (hr0 : Kd.C (Kd.slice 9 Kd.string) w A0 l0.length l0) (hc0 : l0.length ≤ c0) (h : fE.f k l0 a1 = some (r1, r2)) :
  Calls Tryz.prog 106 #[.slice A0 l0.length c0, .string a1] w fun e w' => ∃ qj : Value, e = .returned (.tuple #[qj, .bool r2]) ∧ Kd.R Kd.string 9 w' w.heap.size (fun _ => True) qj r1 ∧ Below w.heap.size w w' := by
 have HR0 := ak hr0
 have xq := ak hc0
 clear hr0 hc0
 have HB := ak (Below.refl w.heap.size w)
 unfold fE.f at h; have H := h
 clear h
 have O7 := ak H
 clear H
 go_enter Tryz.func106, Tryz.ntmps106
 go_upto_region 1 with (refine gG 3 ?_; refine bX HB 3 #[.string a1] 9 ?_; intro yc w4 qH aCT hb; replace HB := bs HB hb; clear hb)
 (try simp only [Act.put, qW, qX, l_c])
 go_cut [21] (fun v21 wc => ∃ (kq : Nat) (afi : Bool), v21 = .bool afi ∧ ah (fE.j0 kq l0 afi a1 = some (r1, r2)) ∧ ah (kq ≤ k) ∧ ah (wc.heap[yc]? = some (.cells #[.string a1] 9 (0, 0))) ∧ ah (Below w.heap.size w wc))
 case first =>
  have H := O7.out
  clear O7
  replace H := bd H; obtain ⟨avd, A5, H⟩ := H; replace H := sb H
  rcases H with ⟨rfl, H⟩ | ⟨rfl, H⟩
  ·
   replace H := sp H
   rcases H with ⟨c7, H⟩ | ⟨c7, H⟩
   ·
    have rY := beq_iff_eq.mpr c7
    have Lc := bne_eq_false_iff_eq.mpr c7
    clear c7
    (first | rw [rY] | (simp only [dU, fU]; rw [rY]) | skip)
    have H' := ak H; clear H
    have azW : w4.cell? ⟨yc, 0, none⟩ = some (.string a1) := (aG qH.out 0).trans rfl
    have azX := iq qH.out 0
    go_wp2_with (refine gA Tryz.func96 (kD.calls A5.out) ?_; intro nd)
    go_meet
    case rel => exact ⟨_, _, rs, H', ⟨KR⟩, ⟨ub qH.out⟩, ⟨bb⟩⟩
   ·
    have rY := beq_eq_false_iff_ne.mpr c7
    have Lc := bne_iff_ne.mpr c7
    have ax9 : ¬ (l0 = []) := fun h_ => c7 (by rw [h_]; rfl)
    (first | rw [rY] | (simp only [dU, fU]; rw [rY]) | skip)
    replace H := bd H; obtain ⟨ave, A9, H⟩ := H
    have H' := ak H; clear H
    have awF : w4.cell? ⟨yc, 0, none⟩ = some (.string a1) := (aG qH.out 0).trans rfl
    have awG := iq qH.out 0
    go_wp2_with (first | (refine gA Tryz.func96 (kD.calls A5.out) ?_; intro nd) | (go_at_call 150; refine mB (dP.calls (cu (Kd.aW HR0.out bb)) xq.out (ub qH.out) A9.out) ?_; intro SN hb; replace qH := kb qH hb; replace HB := bz HB hb; clear hb))
    go_meet
    case rel => exact ⟨_, _, rs, H', ⟨KR⟩, ⟨ub qH.out⟩, ⟨bb⟩⟩
  ·
   have H' := ak H; clear H
   have ag4 : w4.cell? ⟨yc, 0, none⟩ = some (.string a1) := (aG qH.out 0).trans rfl
   have awH := iq qH.out 0
   go_wp2_with (refine gA Tryz.func96 (kD.calls A5.out) ?_; intro nd)
   go_meet
   case rel => exact ⟨_, _, rs, H', ⟨KR⟩, ⟨ub qH.out⟩, ⟨bb⟩⟩
 case rest =>
  clear O7
  obtain ⟨kq, afi, rfl, HA, HJ2, qH, HB⟩ := hcut
  cases kq with
  | zero => exact zz HA.out
  | succ Y9 =>
   obtain ⟨H⟩ := HA
   simp only [fE.j0] at H
   replace H := sb H
   rcases H with ⟨rfl, H⟩ | ⟨rfl, H⟩
   ·
    obtain ⟨rfl, rfl⟩ := s2 H
    go_wp2
    go_ret2
    exact ⟨_, er, nx, bb⟩
   ·
    obtain ⟨aIq, ak8⟩ := nm ([] : List ByteArray)
    rw [← ak8.out] at H
    have H' := ak H; clear H
    go_wp2_with (refine gG 22 ?_; refine GN 22 Kd.string 9 ak8 ?_; intro aIr Q8 NC hb; have avf := ak (Kd.aA (Kd.nP NC (g := yc) (o := .cells #[.string a1] 9 (0, 0)) (ub qH.out)) (aj bb)); replace qH := kb qH hb; replace HB := bz HB hb; clear hb NC)
    go_loopg [6, 25] Y9 (fun kq v6 v25 w' => ∃ (Bc : List ByteArray) (Nq : Int), v25 = .int .i64 Nq ∧ ah (fE.l0 kq Bc l0 (l0.length : Int) Nq a1 = some (r1, r2)) ∧ ah (kq ≤ Y9) ∧ ah (Kd.R Kd.string 9 w' w.heap.size (fun k_ => k_ ≠ yc) v6 Bc) ∧ ah (w'.heap[yc]? = some (.cells #[.string a1] 9 (0, 0))) ∧ ah (Below w.heap.size w w'))
    case atStart => exact ⟨_, _, rs, H', ⟨Nat.le_refl _⟩, ⟨ur (Kd.aZ avf.out (fun _ hk => hk.2))⟩, ⟨ub qH.out⟩, ⟨bb⟩⟩
    case round =>
     clear H'
     obtain ⟨Bc, Nq, rfl, HA, HK2, oJ, qH, HB⟩ := hrel
     cases gk with
     | zero => exact zz HA.out
     | succ k2 =>
      obtain ⟨H⟩ := HA
      simp only [fE.l0] at H
      replace H := sd H
      rcases H with ⟨zD, H⟩ | ⟨zD, H⟩
      ·
       replace H := oM H; obtain ⟨tq, H⟩ := H; replace H := oM H; obtain ⟨zC, H⟩ := H; replace H := nn H; obtain ⟨c19, H⟩ := H
       have z_ := eq_true c19
       have Ea := decide_eq_true c19
       try have ajp : (9223372036854775807 < 2 + a1.size) = False := eq_false (Nat.not_lt.2 c19)
       replace H := nl H; obtain ⟨ae4, H⟩ := H
       replace H := ny H
       obtain ⟨afh, avg, H⟩ := H
       replace H := nl H; obtain ⟨Vo, H⟩ := H
       obtain ⟨aIs, ak9⟩ := nm (afh ++ (xX l0 Nq))
       rw [← ak9.out] at H
       have H' := ak H; clear H
       have anH := zi Nq
       have anI := zj Nq l0.length
       obtain ⟨aCU, azY, azZ, e309, aaW, aaX, aaY⟩ := II HR0.out Nq anH anI
       cases e309
       replace aaW := cl HB.out aaW
       have ahR := ak aaY
       have awI := ak aaX
       clear aaY aaX
       replace anH := eq_true anH
       replace anI := eq_true anI
       have awJ : wr.cell? ⟨yc, 0, none⟩ = some (.string a1) := (aG qH.out 0).trans rfl
       have awK := iq qH.out 0
       go_wp2_with (first | ((with_reducible refine dZ (b := .append) (xs := #[.tmp 29, .tmp 32]) rfl ?_); (try (refine lK (by rfl) ?_; dsimp only)); at_builtin; refine Kd.pY Kd.string (w0 := w) w.heap.size rfl (.tmp 29) (.tmp 32) 23 9 (.string ⟨#[]⟩) 16 rfl Tryz.underlying23 info9 rfl (by decide) (by omega) u6 Bc ((⟨#[45, 45]⟩ : ByteArray) ++ a1) [.string ((⟨#[45, 45]⟩ : ByteArray) ++ a1)] (fun k_ => k_ ≠ yc) (fun _ => False) rfl rfl ?aP (fun _ hk => hk.elim) ?aF ?aO ?aB ?aS ?aL ?_; (case aP => exact rfl); (case aB => exact bb); (case aF => exact (fun k_ hk => Kd.yg (g := yc) (o := .cells #[.string a1] 9 (0, 0)) (ub qH.out) k_ hk)); (case aO => exact (ur oJ.out)); (case aS => exact (aj bb)); (case aL => have := ae4.out; omega); intro az0 w23 ho hb hg hat; rw [← avg.out] at ho; have afj := ak (ho); replace qH := ak (dw (g := yc) (o := .cells #[.string a1] 9 (0, 0)) (ub qH.out) hg (Kd.y7 oJ.out (fun _ hk => hk))); replace HB := ak (hb); clear ho hb hg hat oJ) | ((with_reducible refine dZ (b := .append) (xs := #[.tmp 34, .tmp 35]) rfl ?_); (try (refine lK (by rfl) ?_; dsimp only)); at_builtin; refine Kd.qA Kd.string (w0 := w) w.heap.size rfl (.tmp 34) (.tmp 35) 23 9 (.string ⟨#[]⟩) 16 rfl Tryz.underlying23 info9 rfl (by decide) (by omega) az0 afh (xX l0 Nq) _ _ _ (fun k_ => k_ ≠ yc) (fun _ => False) rfl rfl ?aO ?aR (fun _ _ h => h) (fun _ h => h.elim) ?aF ?aB ?aS ?aL ?_; (case aR => repeat (first | exact (Kd.aW ahR.out HB.out) | (with_reducible refine Kd.ql ?_ _) | (with_reducible refine Kd.qm ?_ _) | (with_reducible refine Kd.tJ ?_))); (case aB => exact bb); (case aF => exact (fun k_ hk => Kd.yg (g := yc) (o := .cells #[.string a1] 9 (0, 0)) (ub qH.out) k_ hk)); (case aO => exact (ur afj.out)); (case aS => exact (aj bb)); (case aL => have := Vo.out; omega); intro aIt w24 ho hb hg hat; rw [← ak9.out] at ho; have avh := ak (ho); replace qH := ak (dw (g := yc) (o := .cells #[.string a1] 9 (0, 0)) (ub qH.out) hg (Kd.y7 afj.out (fun _ hk => hk))); replace HB := ak (hb); clear ho hb hg hat afj))
       go_roundg k2
       case measure => exact kl
       case rel => exact ⟨_, _, rs, H', ⟨kl⟩, ⟨ur avh.out⟩, ⟨ub qH.out⟩, ⟨bb⟩⟩
      ·
       replace H := nn H; obtain ⟨c25, H⟩ := H
       have OW := eq_true c25
       have ac_ := decide_eq_true c25
       try have arV : (9223372036854775807 < 2 + a1.size) = False := eq_false (Nat.not_lt.2 c25)
       replace H := nn H; obtain ⟨c26, H⟩ := H
       have MK := eq_true c26
       have YW := decide_eq_true c26
       try have aCV : (9223372036854775807 < 2 + a1.size + 2) = False := by have h_ := (eq_false (Nat.not_lt.2 c26) : (9223372036854775807 < ((⟨#[45, 45]⟩ : ByteArray) ++ a1).size + 2) = False); simp only [ByteArray.size_append] at h_; exact h_
       try have aCW : (9223372036854775807 < ((⟨#[45, 45]⟩ : ByteArray) ++ a1).size + 2) = False := eq_false (Nat.not_lt.2 c26)
       replace H := nl H; obtain ⟨ac5, H⟩ := H
       obtain ⟨aIu, ak_⟩ := nm (Bc ++ [((⟨#[45, 45]⟩ : ByteArray) ++ a1) ++ (⟨#[45, 45]⟩ : ByteArray)])
       rw [← ak_.out] at H
       obtain ⟨rfl, rfl⟩ := s2 H
       have awL : wr.cell? ⟨yc, 0, none⟩ = some (.string a1) := (aG qH.out 0).trans rfl
       have awM := iq qH.out 0
       go_wp2_with ((with_reducible refine dZ (b := .append) (xs := #[.tmp 38, .tmp 42]) rfl ?_); (try (refine lK (by rfl) ?_; dsimp only)); at_builtin; refine Kd.pY Kd.string (w0 := w) w.heap.size rfl (.tmp 38) (.tmp 42) 23 9 (.string ⟨#[]⟩) 16 rfl Tryz.underlying23 info9 rfl (by decide) (by omega) u6 Bc (((⟨#[45, 45]⟩ : ByteArray) ++ a1) ++ (⟨#[45, 45]⟩ : ByteArray)) [.string (((⟨#[45, 45]⟩ : ByteArray) ++ a1) ++ (⟨#[45, 45]⟩ : ByteArray))] (fun k_ => k_ ≠ yc) (fun _ => False) rfl rfl ?aP (fun _ hk => hk.elim) ?aF ?aO ?aB ?aS ?aL ?_; (case aP => exact rfl); (case aB => exact bb); (case aF => exact (fun k_ hk => Kd.yg (g := yc) (o := .cells #[.string a1] 9 (0, 0)) (ub qH.out) k_ hk)); (case aO => exact (ur oJ.out)); (case aS => exact (aj bb)); (case aL => have := ac5.out; omega); intro aIv w29 ho hb hg hat; rw [← ak_.out] at ho; have avi := ak (ho); replace qH := ak (dw (g := yc) (o := .cells #[.string a1] 9 (0, 0)) (ub qH.out) hg (Kd.y7 oJ.out (fun _ hk => hk))); replace HB := ak (hb); clear ho hb hg hat oJ)
       go_ret2
       exact ⟨_, er, ur (Kd.aZ avi.out (fun _ hk => trivial)), bb⟩
end Go.Proofs.YtncdadcmghglkaaGreatDoor.PFnCountParts
