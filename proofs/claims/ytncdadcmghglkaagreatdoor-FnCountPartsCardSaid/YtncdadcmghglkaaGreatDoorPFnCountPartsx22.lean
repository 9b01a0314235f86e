/- Printed walks; conditions: those in each statement. -/
import Derived.Test.YtncdadcmghglkaaGreatDoorVFnCountPartsQt
import Derived.Test.YtncdadcmghglkaaGreatDoorVFnCountPartsYt
import Derived.Test.YtncdadcmghglkaaGreatDoorPFnCountPartsx0
import Derived.Test.YtncdadcmghglkaaGreatDoorPFnCountPartsx20
-- short
-- dense
-- sq
-- sq2
namespace Go.Proofs.YtncdadcmghglkaaGreatDoor.PFnCountParts
open Go.RowKit Go.Proofs.YtncdadcmghglkaaGreatDoor.X Go.Proofs.YtncdadcmghglkaaGreatDoorW.bI Go.Proofs.YtncdadcmghglkaaGreatDoorW.gI Go.Proofs.YtncdadcmghglkaaGreatDoorW.iL
attribute [local go_sem] kN kP mF mG jB jC kQ kR   -- for this text's walks alone
set_option linter.unusedVariables false
set_option maxHeartbeats 8000000
set_option maxRecDepth 100000
set_option linter.unusedSimpArgs false
def mQ.f (a0 : Int) (a1 : Bool) : Option (ByteArray) := if a0 ≥ 33 then (if a0 ≤ 126 then (if a0 = 61 then (if a0 = 32 then (if a1 = true then ((lQ.f a0).bind fun arw => (some arw)) else (some (strOfNums (([a0] : List Int))))) else ((lQ.f a0).bind fun arx => (some arx))) else (some (strOfNums (([a0] : List Int))))) else (if a0 = 32 then (if a1 = true then ((lQ.f a0).bind fun arz => (some arz)) else (some (strOfNums (([a0] : List Int))))) else ((lQ.f a0).bind fun arA => (some arA)))) else (if a0 = 32 then (if a1 = true then ((lQ.f a0).bind fun arB => (some arB)) else (some (strOfNums (([a0] : List Int))))) else ((lQ.f a0).bind fun arC => (some arC)))
theorem mQ.calls {a0 : Int} {a1 : Bool} {r : ByteArray} {w : World} (h : mQ.f a0 a1 = some r) :
  Calls Tryz.prog 218 #[.int .u8 a0, .bool a1] w fun e w' => e = .returned (.string r) ∧ Below w.heap.size w w' := by
 have HB := ak (Below.refl w.heap.size w)
 unfold mQ.f at h; have H := h
 clear h
 replace H := sp H
 rcases H with ⟨c3, H⟩ | ⟨c3, H⟩
 ·
  have iQ : decide (33 ≤ a0) = true := decide_eq_true c3
  clear c3
  replace H := sd H
  rcases H with ⟨rX, H⟩ | ⟨rX, H⟩
  ·
   replace H := sq H
   rcases H with ⟨nR, Ji, H⟩ | ⟨c5, nR, Ji, H⟩
   ·
    replace H := sq H
    rcases H with ⟨nT, wF, H⟩ | ⟨c6, nT, wF, H⟩
    ·
     replace H := sb H
     rcases H with ⟨rfl, H⟩ | ⟨rfl, H⟩
     ·
      replace H := bd H; obtain ⟨arw, A8, H⟩ := H
      obtain rfl := s1 H
      go_enter Tryz.func218, Tryz.ntmps218
      go_wp2_with (refine gA Tryz.func221 (lQ.calls A8.out) ?_; intro nd)
      go_ret
      exact ⟨er, ul HB.out⟩
     ·
      obtain ⟨aE4, ajv⟩ := nm ([a0] : List Int)
      rw [← ajv.out] at H
      obtain rfl := s1 H
      go_enter Tryz.func218, Tryz.ntmps218
      go_wp2_with (refine QC 24 (Kd.int .u8) 5 [.int .u8 a0] ajv (dD.one (show Kd.M (Kd.int .u8) _ _ _ a0 [.int .u8 a0] from rfl) (dD.none _ _)) ?_; intro aE5 w9 NM hb; have arD := ak (Kd.aA NM (aj (ul HB.out))); replace HB := bs HB hb; clear hb NM; have arh := qK (P := Tryz.prog) Tryz.underlying22 Tryz.underlying5 Tryz.underlying9 (Kd.uX arD.out))
      go_ret
      exact ⟨er, ul HB.out⟩
    ·
     replace H := bd H; obtain ⟨arx, A12, H⟩ := H
     obtain rfl := s1 H
     go_enter Tryz.func218, Tryz.ntmps218
     go_wp2_with (refine gA Tryz.func221 (lQ.calls A12.out) ?_; intro nd)
     go_ret
     exact ⟨er, ul HB.out⟩
   ·
    obtain ⟨aE6, ajw⟩ := nm ([a0] : List Int)
    rw [← ajw.out] at H
    obtain rfl := s1 H
    go_enter Tryz.func218, Tryz.ntmps218
    go_wp2_with (refine QC 24 (Kd.int .u8) 5 [.int .u8 a0] ajw (dD.one (show Kd.M (Kd.int .u8) _ _ _ a0 [.int .u8 a0] from rfl) (dD.none _ _)) ?_; intro aE7 w13 adL hb; have arE := ak (Kd.aA adL (aj (ul HB.out))); replace HB := bs HB hb; clear hb adL; have arj := qK (P := Tryz.prog) Tryz.underlying22 Tryz.underlying5 Tryz.underlying9 (Kd.uX arE.out))
    go_ret
    exact ⟨er, ul HB.out⟩
  ·
   replace H := sq H
   rcases H with ⟨zD, Jd, H⟩ | ⟨c16, zD, Jd, H⟩
   ·
    replace H := sb H
    rcases H with ⟨rfl, H⟩ | ⟨rfl, H⟩
    ·
     replace H := bd H; obtain ⟨arz, A18, H⟩ := H
     obtain rfl := s1 H
     go_enter Tryz.func218, Tryz.ntmps218
     go_wp2_with (refine gA Tryz.func221 (lQ.calls A18.out) ?_; intro nd)
     go_ret
     exact ⟨er, ul HB.out⟩
    ·
     obtain ⟨aE8, ajx⟩ := nm ([a0] : List Int)
     rw [← ajx.out] at H
     obtain rfl := s1 H
     go_enter Tryz.func218, Tryz.ntmps218
     go_wp2_with (refine QC 24 (Kd.int .u8) 5 [.int .u8 a0] ajx (dD.one (show Kd.M (Kd.int .u8) _ _ _ a0 [.int .u8 a0] from rfl) (dD.none _ _)) ?_; intro aE9 Xq abG hb; have arF := ak (Kd.aA abG (aj (ul HB.out))); replace HB := bs HB hb; clear hb abG; have aBl := qK (P := Tryz.prog) Tryz.underlying22 Tryz.underlying5 Tryz.underlying9 (Kd.uX arF.out))
     go_ret
     exact ⟨er, ul HB.out⟩
   ·
    replace H := bd H; obtain ⟨arA, A22, H⟩ := H
    obtain rfl := s1 H
    go_enter Tryz.func218, Tryz.ntmps218
    go_wp2_with (refine gA Tryz.func221 (lQ.calls A22.out) ?_; intro nd)
    go_ret
    exact ⟨er, ul HB.out⟩
 ·
  have iQ : decide (33 ≤ a0) = false := decide_eq_false c3
  clear c3
  replace H := sq H
  rcases H with ⟨Ae, MR, H⟩ | ⟨c23, Ae, MR, H⟩
  ·
   replace H := sb H
   rcases H with ⟨rfl, H⟩ | ⟨rfl, H⟩
   ·
    replace H := bd H; obtain ⟨arB, A25, H⟩ := H
    obtain rfl := s1 H
    go_enter Tryz.func218, Tryz.ntmps218
    go_wp2_with (refine gA Tryz.func221 (lQ.calls A25.out) ?_; intro nd)
    go_ret
    exact ⟨er, ul HB.out⟩
   ·
    obtain ⟨aE_, ajy⟩ := nm ([a0] : List Int)
    rw [← ajy.out] at H
    obtain rfl := s1 H
    go_enter Tryz.func218, Tryz.ntmps218
    go_wp2_with (refine QC 24 (Kd.int .u8) 5 [.int .u8 a0] ajy (dD.one (show Kd.M (Kd.int .u8) _ _ _ a0 [.int .u8 a0] from rfl) (dD.none _ _)) ?_; intro aFa w26 arG hb; have arH := ak (Kd.aA arG (aj (ul HB.out))); replace HB := bs HB hb; clear hb arG; have aBm := qK (P := Tryz.prog) Tryz.underlying22 Tryz.underlying5 Tryz.underlying9 (Kd.uX arH.out))
    go_ret
    exact ⟨er, ul HB.out⟩
  ·
   replace H := bd H; obtain ⟨arC, A29, H⟩ := H
   obtain rfl := s1 H
   go_enter Tryz.func218, Tryz.ntmps218
   go_wp2_with (refine gA Tryz.func221 (lQ.calls A29.out) ?_; intro nd)
   go_ret
   exact ⟨er, ul HB.out⟩
def bg.l0 : Nat → ByteArray → List ByteArray → ByteArray → Int → Option (List ByteArray × Bool)
 | 0, _, _, _, _ => none
 | k + 1, x0, x4, x5, x6 => if x6 < (x0.size : Int) then (if 0 ≤ x6 then (if (bt x0 x6) = 10 then (if x4.length < 8796093022208 then (bg.l0 k x0 (x4 ++ [x5]) (⟨#[]⟩ : ByteArray) (wrap64 (x6 + 1))) else (none)) else (if (wrap64 (x6 + 1)) = (x0.size : Int) then ((mQ.f (bt x0 x6) true).bind fun NP => (if (wrap64 ((x5.size : Int) + (NP.size : Int))) > 39 then (if x5.size + 1 ≤ 9223372036854775807 then (if x4.length < 8796093022208 then (if 0 + NP.size ≤ 9223372036854775807 then (bg.l0 k x0 (x4 ++ [x5 ++ (⟨#[61]⟩ : ByteArray)]) ((⟨#[]⟩ : ByteArray) ++ NP) (wrap64 (x6 + 1))) else (none)) else (none)) else (none)) else (if x5.size + NP.size ≤ 9223372036854775807 then (bg.l0 k x0 x4 (x5 ++ NP) (wrap64 (x6 + 1))) else (none)))) else (if 0 ≤ (wrap64 (x6 + 1)) then (if (wrap64 (x6 + 1)) < (x0.size : Int) then ((mQ.f (bt x0 x6) ((bt x0 (wrap64 (x6 + 1))) == 10)).bind fun EC => (if (wrap64 ((x5.size : Int) + (EC.size : Int))) > 39 then (if x5.size + 1 ≤ 9223372036854775807 then (if x4.length < 8796093022208 then (if 0 + EC.size ≤ 9223372036854775807 then (bg.l0 k x0 (x4 ++ [x5 ++ (⟨#[61]⟩ : ByteArray)]) ((⟨#[]⟩ : ByteArray) ++ EC) (wrap64 (x6 + 1))) else (none)) else (none)) else (none)) else (if x5.size + EC.size ≤ 9223372036854775807 then (bg.l0 k x0 x4 (x5 ++ EC) (wrap64 (x6 + 1))) else (none)))) else (none)) else (none)))) else (none)) else (if x4.length < 8796093022208 then (some ((x4 ++ [x5]), true)) else (none))
def bg.f (k : Nat) (a0 : ByteArray) : Option (List ByteArray × Bool) := if (a0.size : Int) > 300 then (some ((([] : List ByteArray)), false)) else (bg.l0 k a0 (([] : List ByteArray)) (⟨#[]⟩ : ByteArray) 0)
def bg.T11 : Bool × List (List Nat × List Nat) := (true, [([], []), ([], []), ([0, 1], [0, 1]), ([], []), ([3], [3]), ([], []), ([5], [5]), ([4, 6], [4, 6]), ([7], [7]), ([8], [8]), ([8], [8]), ([10, 8], [8, 10]), ([9, 11, 8], [8, 9, 11]), ([12, 8], [8, 12]), ([8, 13], [8, 13]), ([2, 14, 8], [2, 14]), ([15, 15, 0, 1, 2, 3, 4, 5, 6, 7, 8, 9, 10, 11, 12, 13, 14, 15], [15])])
def bg.B11 : List Nat := [0, 0, 3, 0, 8, 0, 32, 120, 248, 504, 504, 1528, 4088, 8184, 16376, 32767, 65535]
theorem bg.aBn : sJ .any (opsOf Tryz.f211 11) = bg.T11 := by kernel_rfl
theorem bg.aya : nV bg.T11.2 bg.B11 = true := by kernel_rfl
theorem bg.calls {k : Nat} {a0 : ByteArray} {r1 : List ByteArray} {r2 : Bool} {w : World} (h : bg.f k a0 = some (r1, r2)) :
  Calls Tryz.prog 211 #[.string a0] w fun e w' => ∃ qj : Value, e = .returned (.tuple #[qj, .bool r2]) ∧ Kd.R Kd.string 9 w' w.heap.size (fun _ => True) qj r1 ∧ Below w.heap.size w w' := by
 have HB := ak (Below.refl w.heap.size w)
 unfold bg.f at h; have H := h
 clear h
 replace H := sp H
 rcases H with ⟨c2, H⟩ | ⟨c2, H⟩
 ·
  have oI : decide (300 < (a0.size : Int)) = true := decide_eq_true c2
  have uP : decide (300 < a0.size) = true := decide_eq_true (by omega)
  clear c2
  obtain ⟨aFb, ajz⟩ := nm ([] : List ByteArray)
  rw [← ajz.out] at H
  obtain ⟨rfl, rfl⟩ := s2 H
  go_enter Tryz.func211, Tryz.ntmps211
  go_wp2_with (refine GN 11 Kd.string 9 ajz ?_; intro aFc w3 Rl hb; have arI := ak (Kd.aA Rl (aj (ul HB.out))); replace HB := bs HB hb; clear hb Rl)
  go_ret2
  exact ⟨_, er, ur arI.out, ul HB.out⟩
 ·
  have oI : decide (300 < (a0.size : Int)) = false := decide_eq_false c2
  have uP : decide (300 < a0.size) = false := decide_eq_false (by omega)
  clear c2
  obtain ⟨aFd, ajA⟩ := nm ([] : List ByteArray)
  rw [← ajA.out] at H
  have H' := ak H; clear H
  go_enter Tryz.func211, Tryz.ntmps211
  go_wp2_with (refine GN 12 Kd.string 9 ajA ?_; intro aFe w5 ZH hb; have arJ := ak (Kd.aA ZH (aj (ul HB.out))); replace HB := bs HB hb; clear hb ZH)
  go_loopg [4, 5, 6] k (fun kq v4 v5 v6 w' => ∃ (dW : List ByteArray) (eH : ByteArray) (jH : Int), v5 = .string eH ∧ v6 = .int .i64 jH ∧ ah (bg.l0 kq a0 dW eH jH = some (r1, r2)) ∧ ah (kq ≤ k) ∧ ah (Kd.R Kd.string 9 w' w.heap.size (fun _ => True) v4 dW) ∧ ah (Below w.heap.size w w'))
  case atStart => exact ⟨_, _, _, rs, rs, H', ⟨Nat.le_refl _⟩, ⟨ur arJ.out⟩, ⟨ul HB.out⟩⟩
  case round =>
   clear H'
   try clear c2
   try clear oI
   try clear uP
   obtain ⟨dW, eH, jH, rfl, rfl, HA, xu, iP, HB⟩ := hrel
   cases gk with
   | zero => exact zz HA.out
   | succ k1 =>
    obtain ⟨H⟩ := HA
    simp only [bg.l0] at H
    replace H := sd H
    rcases H with ⟨rY, H⟩ | ⟨rY, H⟩
    ·
     replace H := oM H; obtain ⟨sH, H⟩ := H; replace H := sq H
     rcases H with ⟨oC, sK, H⟩ | ⟨c10, oC, sK, H⟩
     ·
      replace H := nl H; obtain ⟨O9, H⟩ := H
      obtain ⟨aFf, ajB⟩ := nm (dW ++ [eH])
      rw [← ajB.out] at H
      have H' := ak H; clear H
      obtain ⟨p9, q9, YQ⟩ := bx a0 jH
      go_wp2_with (at_builtin; refine aP 23 25 Kd.string 23 9 (.string ⟨#[]⟩) 16 Tryz.underlying23 info9 HB (ur iP.out) ajB (by have := O9.out; omega) ?_; intro aFg w12 ho hb hg hat; have arK := ak (ho); replace HB := ak (hb); clear ho hb hg hat iP)
      go_roundg k1
      case measure => exact kl
      case rel => exact ⟨_, _, _, rs, rs, H', ⟨kl⟩, ⟨ur arK.out⟩, ⟨ul HB.out⟩⟩
     ·
      replace H := sq H
      rcases H with ⟨tu, xA, H⟩ | ⟨c14, tu, xA, H⟩
      ·
       replace H := bd H; obtain ⟨NP, A15, H⟩ := H; replace H := sp H
       rcases H with ⟨c16, H⟩ | ⟨c16, H⟩
       ·
        have zD : decide (39 < (wrap64 ((eH.size : Int) + (NP.size : Int)))) = true := decide_eq_true c16
        replace H := nn H; obtain ⟨c17, H⟩ := H
        (try (have Jd : decide (39 < ((eH.size : Int) + (NP.size : Int))) = true := decide_eq_true (by have h_ := c16; have h2_ := c17; unfold wrap64 at h_; omega)))
        clear c16
        have tq := eq_true c17
        have MJ := decide_eq_true c17
        try have arL : (9223372036854775807 < eH.size + 1) = False := eq_false (Nat.not_lt.2 c17)
        replace H := nl H; obtain ⟨arM, H⟩ := H
        obtain ⟨aFh, ajC⟩ := nm (dW ++ [eH ++ (⟨#[61]⟩ : ByteArray)])
        rw [← ajC.out] at H
        replace H := nn H; obtain ⟨c19, H⟩ := H
        have z_ := eq_true c19
        have Ea := decide_eq_true c19
        try have ajp : (9223372036854775807 < 0 + NP.size) = False := eq_false (Nat.not_lt.2 c19)
        have H' := ak H; clear H
        obtain ⟨p9, q9, YQ⟩ := bx a0 jH
        try go_wp2
        replace iP := ak (Kd.mD iP.out)
        replace HB := ak (iH HB.out)
        obtain ⟨p13, q13, Xh⟩ := bx a0 jH
        refine ro [15] [0, 1, 3, 4, 5, 6, 7, 8, 9, 10, 11, 12, 13, 14, 2, 15, 16] (fun w' => True) trivial ?_
        generalize wr.drew = w20 at iP HB ⊢
        repeat (first | refine y8 ?_ | refine Tm ?_)
        refine rB Tryz.func218 (mQ.calls A15.out) ?_
        intro w21 hb
        replace iP := rb iP hb
        replace HB := bs HB hb
        clear hb
        refine ⟨sx, ?_⟩
        repeat (first | refine y8 ?_ | refine Tm ?_)
        refine on ?_
        try go_wp2_with (at_builtin; refine aP 49 52 Kd.string 23 9 (.string ⟨#[]⟩) 16 Tryz.underlying23 info9 HB (ur iP.out) ajC (by have := arM.out; omega) ?_; intro aFi Xm ho hb hg hat; have arN := ak (ho); replace HB := ak (hb); clear ho hb hg hat iP)
        go_roundg k1
        case measure => exact kl
        case rel => exact ⟨_, _, _, rs, rs, H', ⟨kl⟩, ⟨ur arN.out⟩, ⟨ul HB.out⟩⟩
       ·
        have zD : decide (39 < (wrap64 ((eH.size : Int) + (NP.size : Int)))) = false := decide_eq_false c16
        replace H := nn H; obtain ⟨c23, H⟩ := H
        (try (have Jd : decide (39 < ((eH.size : Int) + (NP.size : Int))) = false := decide_eq_false (by have h_ := c16; have h2_ := c23; unfold wrap64 at h_; omega)))
        clear c16
        have Ae := eq_true c23
        have MR := decide_eq_true c23
        try have ap_ : (9223372036854775807 < eH.size + NP.size) = False := eq_false (Nat.not_lt.2 c23)
        have H' := ak H; clear H
        obtain ⟨p9, q9, YQ⟩ := bx a0 jH
        try go_wp2
        replace iP := ak (Kd.mD iP.out)
        replace HB := ak (iH HB.out)
        obtain ⟨p13, q13, Xh⟩ := bx a0 jH
        refine ro [15] [0, 1, 3, 4, 5, 6, 7, 8, 9, 10, 11, 12, 13, 14, 2, 15, 16] (fun w' => True) trivial ?_
        generalize wr.drew = w24 at iP HB ⊢
        repeat (first | refine y8 ?_ | refine Tm ?_)
        refine rB Tryz.func218 (mQ.calls A15.out) ?_
        intro w25 hb
        replace iP := rb iP hb
        replace HB := bs HB hb
        clear hb
        refine ⟨sx, ?_⟩
        repeat (first | refine y8 ?_ | refine Tm ?_)
        refine on ?_
        try go_wp2
        go_roundg k1
        case measure => exact kl
        case rel => exact ⟨_, _, _, rs, rs, H', ⟨kl⟩, ⟨ur iP.out⟩, ⟨ul HB.out⟩⟩
      ·
       obtain ⟨QL, Jy⟩ : ∃ j_ : Int, (wrap64 (jH + 1)) = j_ := ⟨_, rfl⟩
       replace H : (if 0 ≤ (QL) then (if (QL) < (a0.size : Int) then ((mQ.f (bt a0 jH) ((bt a0 (QL)) == 10)).bind fun EC => (if (wrap64 ((eH.size : Int) + (EC.size : Int))) > 39 then (if eH.size + 1 ≤ 9223372036854775807 then (if dW.length < 8796093022208 then (if 0 + EC.size ≤ 9223372036854775807 then (bg.l0 k1 a0 (dW ++ [eH ++ (⟨#[61]⟩ : ByteArray)]) ((⟨#[]⟩ : ByteArray) ++ EC) QL) else (none)) else (none)) else (none)) else (if eH.size + EC.size ≤ 9223372036854775807 then (bg.l0 k1 a0 dW (eH ++ EC) QL) else (none)))) else (none)) else (none)) = some (r1, r2) := by first | (rw [Jy] at H; exact H) | (simp only [Jy] at H ⊢; exact H)
       (try rw [Jy] at tu)
       (try rw [Jy] at xA)
       have ayb : (IntKind.i64.wrap (jH + 1)) = QL := (dU _).trans Jy
       replace H := oM H; obtain ⟨EO, H⟩ := H; replace H := oM H; obtain ⟨EP, H⟩ := H; replace H := bd H; obtain ⟨EC, A30, H⟩ := H; replace H := sp H
       rcases H with ⟨c31, H⟩ | ⟨c31, H⟩
       ·
        have adh : decide (39 < (wrap64 ((eH.size : Int) + (EC.size : Int)))) = true := decide_eq_true c31
        replace H := nn H; obtain ⟨c32, H⟩ := H
        (try (have adi : decide (39 < ((eH.size : Int) + (EC.size : Int))) = true := decide_eq_true (by have h_ := c31; have h2_ := c32; unfold wrap64 at h_; omega)))
        clear c31
        have Vq := eq_true c32
        have ac6 := decide_eq_true c32
        try have aBo : (9223372036854775807 < eH.size + 1) = False := eq_false (Nat.not_lt.2 c32)
        replace H := nl H; obtain ⟨arO, H⟩ := H
        obtain ⟨aFj, ajD⟩ := nm (dW ++ [eH ++ (⟨#[61]⟩ : ByteArray)])
        rw [← ajD.out] at H
        replace H := nn H; obtain ⟨c34, H⟩ := H
        have Vr := eq_true c34
        have Vs := decide_eq_true c34
        try have aBp : (9223372036854775807 < 0 + EC.size) = False := eq_false (Nat.not_lt.2 c34)
        have H' := ak H; clear H
        obtain ⟨p9, q9, YQ⟩ := bx a0 jH
        try go_wp2
        replace iP := ak (Kd.mD iP.out)
        replace HB := ak (iH HB.out)
        obtain ⟨p13, q13, Xh⟩ := bx a0 jH
        obtain ⟨p29, q29, hx29⟩ := bx a0 (QL)
        refine ro [15] [0, 1, 3, 4, 5, 6, 7, 8, 9, 10, 11, 2, 12, 13, 14, 15, 16] (fun w' => True) trivial ?_
        generalize wr.drew = w35 at iP HB ⊢
        repeat refine y8 ?_
        refine ld (N := some 42) (gk.trans rfl) rfl rfl (fun K hK => ?_)
        refine yR Tryz.func218 (by kernel_rfl) rfl #[.int .u8 (bt a0 jH), .bool ((bt a0 (QL)) == 10)] (by rfl) rfl rfl (by (try simp only [List.map_toArray, List.map_cons, List.map_nil]); first | done | (simp only [Jy]; rfl) | rfl | (simp only [List.length_drop, List.length_take]; rfl)) ?_
        with_reducible refine (mQ.calls A30.out).mono ?_
        rintro e w36 ⟨rfl, hb⟩
        refine ⟨_, rfl, ?_⟩
        replace iP := rb iP hb
        replace HB := bs HB hb
        try clear hb
        refine hK.out _ _ trivial ?_
        clear hK K
        refine no (a' := ?_) ?_ ?_
        rotate_left
        ·
         show Act.put _ (some 42) _ = _
         simp only [Act.put, qW, qX, l_c, dU, fU]
         rfl
        repeat refine y8 ?_
        refine on ?_
        try go_wp2_with (at_builtin; refine aP 49 52 Kd.string 23 9 (.string ⟨#[]⟩) 16 Tryz.underlying23 info9 HB (ur iP.out) ajD (by have := arO.out; omega) ?_; intro aFk w37 ho hb hg hat; have arP := ak (ho); replace HB := ak (hb); clear ho hb hg hat iP)
        go_roundg k1
        case measure => exact kl
        case rel => exact ⟨_, _, _, rs, (by first | rfl | (simp; done) | (simp only [← Jy] <;> (first | rfl | simp)) | (simp [*]; done)), H', ⟨kl⟩, ⟨ur arP.out⟩, ⟨ul HB.out⟩⟩
       ·
        have adh : decide (39 < (wrap64 ((eH.size : Int) + (EC.size : Int)))) = false := decide_eq_false c31
        replace H := nn H; obtain ⟨WX, H⟩ := H
        (try (have adi : decide (39 < ((eH.size : Int) + (EC.size : Int))) = false := decide_eq_false (by have h_ := c31; have h2_ := WX; unfold wrap64 at h_; omega)))
        clear c31
        have aaf := eq_true WX
        have aBq := decide_eq_true WX
        try have aBr : (9223372036854775807 < eH.size + EC.size) = False := eq_false (Nat.not_lt.2 WX)
        have H' := ak H; clear H
        obtain ⟨p9, q9, YQ⟩ := bx a0 jH
        try go_wp2
        replace iP := ak (Kd.mD iP.out)
        replace HB := ak (iH HB.out)
        obtain ⟨p13, q13, Xh⟩ := bx a0 jH
        obtain ⟨p29, q29, hx29⟩ := bx a0 (QL)
        refine ro [15] [0, 1, 3, 4, 5, 6, 7, 8, 9, 10, 11, 2, 12, 13, 14, 15, 16] (fun w' => True) trivial ?_
        generalize wr.drew = w39 at iP HB ⊢
        repeat refine y8 ?_
        refine ld (N := some 42) (gk.trans rfl) rfl rfl (fun K hK => ?_)
        refine yR Tryz.func218 (by kernel_rfl) rfl #[.int .u8 (bt a0 jH), .bool ((bt a0 (QL)) == 10)] (by rfl) rfl rfl (by (try simp only [List.map_toArray, List.map_cons, List.map_nil]); first | done | (simp only [Jy]; rfl) | rfl | (simp only [List.length_drop, List.length_take]; rfl)) ?_
        with_reducible refine (mQ.calls A30.out).mono ?_
        rintro e w40 ⟨rfl, hb⟩
        refine ⟨_, rfl, ?_⟩
        replace iP := rb iP hb
        replace HB := bs HB hb
        try clear hb
        refine hK.out _ _ trivial ?_
        clear hK K
        refine no (a' := ?_) ?_ ?_
        rotate_left
        ·
         show Act.put _ (some 42) _ = _
         simp only [Act.put, qW, qX, l_c, dU, fU]
         rfl
        repeat refine y8 ?_
        refine on ?_
        try go_wp2
        go_roundg k1
        case measure => exact kl
        case rel => exact ⟨_, _, _, rs, (by first | rfl | (simp; done) | (simp only [← Jy] <;> (first | rfl | simp)) | (simp [*]; done)), H', ⟨kl⟩, ⟨ur iP.out⟩, ⟨ul HB.out⟩⟩
    ·
     replace H := nl H; obtain ⟨arQ, H⟩ := H
     obtain ⟨aFl, ajE⟩ := nm (dW ++ [eH])
     rw [← ajE.out] at H
     obtain ⟨rfl, rfl⟩ := s2 H
     go_wp2_with (at_builtin; refine aP 57 59 Kd.string 23 9 (.string ⟨#[]⟩) 16 Tryz.underlying23 info9 HB (ur iP.out) ajE (by have := arQ.out; omega) ?_; intro aFm w42 ho hb hg hat; have arR := ak (ho); replace HB := ak (hb); clear ho hb hg hat iP)
     go_ret2
     exact ⟨_, er, ur arR.out, ul HB.out⟩
end Go.Proofs.YtncdadcmghglkaaGreatDoor.PFnCountParts
