/- Printed walks; conditions: those in each statement. -/
import Derived.Test.YtncdadcmghglkaaGreatDoorVFnKidValidQt
import Derived.Test.YtncdadcmghglkaaGreatDoorVFnKidValidYt
import Derived.Test.YtncdadcmghglkaaGreatDoorPFnKidValidx0
import Derived.Test.YtncdadcmghglkaaGreatDoorPFnKidValidx20
-- short
-- dense
-- sq
-- sq2
namespace Go.Proofs.YtncdadcmghglkaaGreatDoor.PFnKidValid
open Go.RowKit Go.Proofs.YtncdadcmghglkaaGreatDoor.X Go.Proofs.YtncdadcmghglkaaGreatDoorW.bI Go.Proofs.YtncdadcmghglkaaGreatDoorW.gq Go.Proofs.YtncdadcmghglkaaGreatDoorW.iJ
attribute [local go_sem] kJ kK mD mF jv jw kL kM   -- for this text's walks alone
set_option linter.unusedVariables false
set_option maxHeartbeats 8000000
set_option maxRecDepth 100000
set_option linter.unusedSimpArgs false
def mP.f (a0 : Int) (a1 : Bool) : Option (ByteArray) := if a0 ≥ 33 then (if a0 ≤ 126 then (if a0 = 61 then (if a0 = 32 then (if a1 = true then ((lH.f a0).bind fun asN => (some asN)) else (some (strOfNums (([a0] : List Int))))) else ((lH.f a0).bind fun asO => (some asO))) else (some (strOfNums (([a0] : List Int))))) else (if a0 = 32 then (if a1 = true then ((lH.f a0).bind fun asP => (some asP)) else (some (strOfNums (([a0] : List Int))))) else ((lH.f a0).bind fun asQ => (some asQ)))) else (if a0 = 32 then (if a1 = true then ((lH.f a0).bind fun asR => (some asR)) else (some (strOfNums (([a0] : List Int))))) else ((lH.f a0).bind fun asT => (some asT)))
theorem mP.calls {a0 : Int} {a1 : Bool} {r : ByteArray} {w : World} (h : mP.f a0 a1 = some r) :
  Calls Tryz.prog 218 #[.int .u8 a0, .bool a1] w fun e w' => e = .returned (.string r) ∧ Below w.heap.size w w' := by
 have HB := ak (Below.refl w.heap.size w)
 unfold mP.f at h; have H := h
 clear h
 replace H := sp H
 rcases H with ⟨c3, H⟩ | ⟨c3, H⟩
 ·
  have iO : decide (33 ≤ a0) = true := decide_eq_true c3
  clear c3
  replace H := sd H
  rcases H with ⟨su, H⟩ | ⟨su, H⟩
  ·
   replace H := sq H
   rcases H with ⟨nO, JM, H⟩ | ⟨c5, nO, JM, H⟩
   ·
    replace H := sq H
    rcases H with ⟨oz, xH, H⟩ | ⟨c6, oz, xH, H⟩
    ·
     replace H := sb H
     rcases H with ⟨rfl, H⟩ | ⟨rfl, H⟩
     ·
      replace H := bd H; obtain ⟨asN, A8, H⟩ := H
      obtain rfl := s1 H
      go_enter Tryz.func218, Tryz.ntmps218
      go_wp2_with (refine gA Tryz.func221 (lH.calls A8.out) ?_; intro nd)
      go_ret
      exact ⟨er, ul HB.out⟩
     ·
      obtain ⟨aGz, aks⟩ := nm ([a0] : List Int)
      rw [← aks.out] at H
      obtain rfl := s1 H
      go_enter Tryz.func218, Tryz.ntmps218
      go_wp2_with (refine RF 24 (Kd.int .u8) 5 [.int .u8 a0] aks (dD.one (show Kd.M (Kd.int .u8) _ _ _ a0 [.int .u8 a0] from rfl) (dD.none _ _)) ?_; intro aGA w9 OA hb; have asU := ak (Kd.aC OA (aj (ul HB.out))); replace HB := bs HB hb; clear hb OA; have asC := qJ (P := Tryz.prog) Tryz.underlying22 Tryz.underlying5 Tryz.underlying9 (Kd.uX asU.out))
      go_ret
      exact ⟨er, ul HB.out⟩
    ·
     replace H := bd H; obtain ⟨asO, A12, H⟩ := H
     obtain rfl := s1 H
     go_enter Tryz.func218, Tryz.ntmps218
     go_wp2_with (refine gA Tryz.func221 (lH.calls A12.out) ?_; intro nd)
     go_ret
     exact ⟨er, ul HB.out⟩
   ·
    obtain ⟨aGB, akt⟩ := nm ([a0] : List Int)
    rw [← akt.out] at H
    obtain rfl := s1 H
    go_enter Tryz.func218, Tryz.ntmps218
    go_wp2_with (refine RF 24 (Kd.int .u8) 5 [.int .u8 a0] akt (dD.one (show Kd.M (Kd.int .u8) _ _ _ a0 [.int .u8 a0] from rfl) (dD.none _ _)) ?_; intro aGC w13 aek hb; have asV := ak (Kd.aC aek (aj (ul HB.out))); replace HB := bs HB hb; clear hb aek; have asE := qJ (P := Tryz.prog) Tryz.underlying22 Tryz.underlying5 Tryz.underlying9 (Kd.uX asV.out))
    go_ret
    exact ⟨er, ul HB.out⟩
  ·
   replace H := sq H
   rcases H with ⟨zW, JH, H⟩ | ⟨c16, zW, JH, H⟩
   ·
    replace H := sb H
    rcases H with ⟨rfl, H⟩ | ⟨rfl, H⟩
    ·
     replace H := bd H; obtain ⟨asP, A18, H⟩ := H
     obtain rfl := s1 H
     go_enter Tryz.func218, Tryz.ntmps218
     go_wp2_with (refine gA Tryz.func221 (lH.calls A18.out) ?_; intro nd)
     go_ret
     exact ⟨er, ul HB.out⟩
    ·
     obtain ⟨aGD, aku⟩ := nm ([a0] : List Int)
     rw [← aku.out] at H
     obtain rfl := s1 H
     go_enter Tryz.func218, Tryz.ntmps218
     go_wp2_with (refine RF 24 (Kd.int .u8) 5 [.int .u8 a0] aku (dD.one (show Kd.M (Kd.int .u8) _ _ _ a0 [.int .u8 a0] from rfl) (dD.none _ _)) ?_; intro aGE ZN acu hb; have asW := ak (Kd.aC acu (aj (ul HB.out))); replace HB := bs HB hb; clear hb acu; have aCM := qJ (P := Tryz.prog) Tryz.underlying22 Tryz.underlying5 Tryz.underlying9 (Kd.uX asW.out))
     go_ret
     exact ⟨er, ul HB.out⟩
   ·
    replace H := bd H; obtain ⟨asQ, A22, H⟩ := H
    obtain rfl := s1 H
    go_enter Tryz.func218, Tryz.ntmps218
    go_wp2_with (refine gA Tryz.func221 (lH.calls A22.out) ?_; intro nd)
    go_ret
    exact ⟨er, ul HB.out⟩
 ·
  have iO : decide (33 ≤ a0) = false := decide_eq_false c3
  clear c3
  replace H := sq H
  rcases H with ⟨zh, NV, H⟩ | ⟨c23, zh, NV, H⟩
  ·
   replace H := sb H
   rcases H with ⟨rfl, H⟩ | ⟨rfl, H⟩
   ·
    replace H := bd H; obtain ⟨asR, Ya, H⟩ := H
    obtain rfl := s1 H
    go_enter Tryz.func218, Tryz.ntmps218
    go_wp2_with (refine gA Tryz.func221 (lH.calls Ya.out) ?_; intro nd)
    go_ret
    exact ⟨er, ul HB.out⟩
   ·
    obtain ⟨aGF, akv⟩ := nm ([a0] : List Int)
    rw [← akv.out] at H
    obtain rfl := s1 H
    go_enter Tryz.func218, Tryz.ntmps218
    go_wp2_with (refine RF 24 (Kd.int .u8) 5 [.int .u8 a0] akv (dD.one (show Kd.M (Kd.int .u8) _ _ _ a0 [.int .u8 a0] from rfl) (dD.none _ _)) ?_; intro aGG w26 asX hb; have asY := ak (Kd.aC asX (aj (ul HB.out))); replace HB := bs HB hb; clear hb asX; have aCN := qJ (P := Tryz.prog) Tryz.underlying22 Tryz.underlying5 Tryz.underlying9 (Kd.uX asY.out))
    go_ret
    exact ⟨er, ul HB.out⟩
  ·
   replace H := bd H; obtain ⟨asT, A29, H⟩ := H
   obtain rfl := s1 H
   go_enter Tryz.func218, Tryz.ntmps218
   go_wp2_with (refine gA Tryz.func221 (lH.calls A29.out) ?_; intro nd)
   go_ret
   exact ⟨er, ul HB.out⟩
def bf.l0 : Nat → ByteArray → List ByteArray → ByteArray → Int → Option (List ByteArray × Bool)
 | 0, _, _, _, _ => none
 | k + 1, x0, x4, x5, x6 => if x6 < (x0.size : Int) then (if 0 ≤ x6 then (if (bt x0 x6) = 10 then (if x4.length < 8796093022208 then (bf.l0 k x0 (x4 ++ [x5]) (⟨#[]⟩ : ByteArray) (wrap64 (x6 + 1))) else (none)) else (if (wrap64 (x6 + 1)) = (x0.size : Int) then ((mP.f (bt x0 x6) true).bind fun OB => (if (wrap64 ((x5.size : Int) + (OB.size : Int))) > 39 then (if x5.size + 1 ≤ 9223372036854775807 then (if x4.length < 8796093022208 then (if 0 + OB.size ≤ 9223372036854775807 then (bf.l0 k x0 (x4 ++ [x5 ++ (⟨#[61]⟩ : ByteArray)]) ((⟨#[]⟩ : ByteArray) ++ OB) (wrap64 (x6 + 1))) else (none)) else (none)) else (none)) else (if x5.size + OB.size ≤ 9223372036854775807 then (bf.l0 k x0 x4 (x5 ++ OB) (wrap64 (x6 + 1))) else (none)))) else (if 0 ≤ (wrap64 (x6 + 1)) then (if (wrap64 (x6 + 1)) < (x0.size : Int) then ((mP.f (bt x0 x6) ((bt x0 (wrap64 (x6 + 1))) == 10)).bind fun EU => (if (wrap64 ((x5.size : Int) + (EU.size : Int))) > 39 then (if x5.size + 1 ≤ 9223372036854775807 then (if x4.length < 8796093022208 then (if 0 + EU.size ≤ 9223372036854775807 then (bf.l0 k x0 (x4 ++ [x5 ++ (⟨#[61]⟩ : ByteArray)]) ((⟨#[]⟩ : ByteArray) ++ EU) (wrap64 (x6 + 1))) else (none)) else (none)) else (none)) else (if x5.size + EU.size ≤ 9223372036854775807 then (bf.l0 k x0 x4 (x5 ++ EU) (wrap64 (x6 + 1))) else (none)))) else (none)) else (none)))) else (none)) else (if x4.length < 8796093022208 then (some ((x4 ++ [x5]), true)) else (none))
def bf.f (k : Nat) (a0 : ByteArray) : Option (List ByteArray × Bool) := if (a0.size : Int) > 300 then (some ((([] : List ByteArray)), false)) else (bf.l0 k a0 (([] : List ByteArray)) (⟨#[]⟩ : ByteArray) 0)
def bf.T11 : Bool × List (List Nat × List Nat) := (true, [([], []), ([], []), ([0, 1], [0, 1]), ([], []), ([3], [3]), ([], []), ([5], [5]), ([4, 6], [4, 6]), ([7], [7]), ([8], [8]), ([8], [8]), ([10, 8], [8, 10]), ([9, 11, 8], [8, 9, 11]), ([12, 8], [8, 12]), ([8, 13], [8, 13]), ([2, 14, 8], [2, 14]), ([15, 15, 0, 1, 2, 3, 4, 5, 6, 7, 8, 9, 10, 11, 12, 13, 14, 15], [15])])
def bf.B11 : List Nat := [0, 0, 3, 0, 8, 0, 32, 120, 248, 504, 504, 1528, 4088, 8184, 16376, 32767, 65535]
theorem bf.aCO : sQ .any (opsOf Tryz.f211 11) = bf.T11 := by kernel_rfl
theorem bf.azC : nU bf.T11.2 bf.B11 = true := by kernel_rfl
theorem bf.calls {k : Nat} {a0 : ByteArray} {r1 : List ByteArray} {r2 : Bool} {w : World} (h : bf.f k a0 = some (r1, r2)) :
  Calls Tryz.prog 211 #[.string a0] w fun e w' => ∃ ql : Value, e = .returned (.tuple #[ql, .bool r2]) ∧ Kd.R Kd.string 9 w' w.heap.size (fun _ => True) ql r1 ∧ Below w.heap.size w w' := by
 have HB := ak (Below.refl w.heap.size w)
 unfold bf.f at h; have H := h
 clear h
 replace H := sp H
 rcases H with ⟨c2, H⟩ | ⟨c2, H⟩
 ·
  have nT : decide (300 < (a0.size : Int)) = true := decide_eq_true c2
  have uF : decide (300 < a0.size) = true := decide_eq_true (by omega)
  clear c2
  obtain ⟨aGH, akw⟩ := nm ([] : List ByteArray)
  rw [← akw.out] at H
  obtain ⟨rfl, rfl⟩ := s2 H
  go_enter Tryz.func211, Tryz.ntmps211
  go_wp2_with (refine H7 11 Kd.string 9 akw ?_; intro aGI w3 SN hb; have asZ := ak (Kd.aC SN (aj (ul HB.out))); replace HB := bs HB hb; clear hb SN)
  go_ret2
  exact ⟨_, er, ur asZ.out, ul HB.out⟩
 ·
  have nT : decide (300 < (a0.size : Int)) = false := decide_eq_false c2
  have uF : decide (300 < a0.size) = false := decide_eq_false (by omega)
  clear c2
  obtain ⟨aGJ, akx⟩ := nm ([] : List ByteArray)
  rw [← akx.out] at H
  have H' := ak H; clear H
  go_enter Tryz.func211, Tryz.ntmps211
  go_wp2_with (refine H7 12 Kd.string 9 akx ?_; intro aGK w5 ho6 hb; have as1 := ak (Kd.aC ho6 (aj (ul HB.out))); replace HB := bs HB hb; clear hb ho6)
  go_loopg [4, 5, 6] k (fun kq v4 v5 v6 w' => ∃ (dV : List ByteArray) (eP : ByteArray) (jD : Int), v5 = .string eP ∧ v6 = .int .i64 jD ∧ ah (bf.l0 kq a0 dV eP jD = some (r1, r2)) ∧ ah (kq ≤ k) ∧ ah (Kd.R Kd.string 9 w' w.heap.size (fun _ => True) v4 dV) ∧ ah (Below w.heap.size w w'))
  case atStart => exact ⟨_, _, _, rs, rs, H', ⟨Nat.le_refl _⟩, ⟨ur as1.out⟩, ⟨ul HB.out⟩⟩
  case round =>
   clear H'
   try clear c2
   try clear nT
   try clear uF
   obtain ⟨dV, eP, jD, rfl, rfl, HA, xG, iM, HB⟩ := hrel
   cases gk with
   | zero => exact zz HA.out
   | succ k1 =>
    obtain ⟨H⟩ := HA
    simp only [bf.l0] at H
    replace H := sd H
    rcases H with ⟨sD, H⟩ | ⟨sD, H⟩
    ·
     replace H := oL H; obtain ⟨tu, H⟩ := H; replace H := sq H
     rcases H with ⟨oC, sS, H⟩ | ⟨c10, oC, sS, H⟩
     ·
      replace H := nl H; obtain ⟨Qa, H⟩ := H
      obtain ⟨aGL, aky⟩ := nm (dV ++ [eP])
      rw [← aky.out] at H
      have H' := ak H; clear H
      obtain ⟨p9, q9, Zv⟩ := bx a0 jD
      go_wp2_with (at_builtin; refine aP 23 25 Kd.string 23 9 (.string ⟨#[]⟩) 16 Tryz.underlying23 info9 HB (ur iM.out) aky (by have := Qa.out; omega) ?_; intro aGM w12 ho hb hg hat; have as2 := ak (ho); replace HB := ak (hb); clear ho hb hg hat iM)
      go_roundg k1
      case measure => exact kl
      case rel => exact ⟨_, _, _, rs, rs, H', ⟨kl⟩, ⟨ur as2.out⟩, ⟨ul HB.out⟩⟩
     ·
      replace H := sq H
      rcases H with ⟨qC, wI, H⟩ | ⟨c14, qC, wI, H⟩
      ·
       replace H := bd H; obtain ⟨OB, A15, H⟩ := H; replace H := sp H
       rcases H with ⟨c16, H⟩ | ⟨c16, H⟩
       ·
        have zW : decide (39 < (wrap64 ((eP.size : Int) + (OB.size : Int)))) = true := decide_eq_true c16
        replace H := nn H; obtain ⟨c17, H⟩ := H
        (try (have JH : decide (39 < ((eP.size : Int) + (OB.size : Int))) = true := decide_eq_true (by have h_ := c16; have h2_ := c17; unfold wrap64 at h_; omega)))
        clear c16
        have tJ := eq_true c17
        have NM := decide_eq_true c17
        try have as3 : (9223372036854775807 < eP.size + 1) = False := eq_false (Nat.not_lt.2 c17)
        replace H := nl H; obtain ⟨as4, H⟩ := H
        obtain ⟨aGN, akz⟩ := nm (dV ++ [eP ++ (⟨#[61]⟩ : ByteArray)])
        rw [← akz.out] at H
        replace H := nn H; obtain ⟨c19, H⟩ := H
        have Aw := eq_true c19
        have Ew := decide_eq_true c19
        try have akm : (9223372036854775807 < 0 + OB.size) = False := eq_false (Nat.not_lt.2 c19)
        have H' := ak H; clear H
        obtain ⟨p9, q9, Zv⟩ := bx a0 jD
        try go_wp2
        replace iM := ak (Kd.l9 iM.out)
        replace HB := ak (iF HB.out)
        obtain ⟨p13, q13, X5⟩ := bx a0 jD
        refine ro [15] [0, 1, 3, 4, 5, 6, 7, 8, 9, 10, 11, 12, 13, 14, 2, 15, 16] (fun w' => True) trivial ?_
        generalize wr.drew = w20 at iM HB ⊢
        repeat (first | refine zF ?_ | refine Un ?_)
        refine rB Tryz.func218 (mP.calls A15.out) ?_
        intro w21 hb
        replace iM := rb iM hb
        replace HB := bs HB hb
        clear hb
        refine ⟨sx, ?_⟩
        repeat (first | refine zF ?_ | refine Un ?_)
        refine on ?_
        try go_wp2_with (at_builtin; refine aP 49 52 Kd.string 23 9 (.string ⟨#[]⟩) 16 Tryz.underlying23 info9 HB (ur iM.out) akz (by have := as4.out; omega) ?_; intro aGO X_ ho hb hg hat; have as5 := ak (ho); replace HB := ak (hb); clear ho hb hg hat iM)
        go_roundg k1
        case measure => exact kl
        case rel => exact ⟨_, _, _, rs, rs, H', ⟨kl⟩, ⟨ur as5.out⟩, ⟨ul HB.out⟩⟩
       ·
        have zW : decide (39 < (wrap64 ((eP.size : Int) + (OB.size : Int)))) = false := decide_eq_false c16
        replace H := nn H; obtain ⟨c23, H⟩ := H
        (try (have JH : decide (39 < ((eP.size : Int) + (OB.size : Int))) = false := decide_eq_false (by have h_ := c16; have h2_ := c23; unfold wrap64 at h_; omega)))
        clear c16
        have zh := eq_true c23
        have NV := decide_eq_true c23
        try have arl : (9223372036854775807 < eP.size + OB.size) = False := eq_false (Nat.not_lt.2 c23)
        have H' := ak H; clear H
        obtain ⟨p9, q9, Zv⟩ := bx a0 jD
        try go_wp2
        replace iM := ak (Kd.l9 iM.out)
        replace HB := ak (iF HB.out)
        obtain ⟨p13, q13, X5⟩ := bx a0 jD
        refine ro [15] [0, 1, 3, 4, 5, 6, 7, 8, 9, 10, 11, 12, 13, 14, 2, 15, 16] (fun w' => True) trivial ?_
        generalize wr.drew = w24 at iM HB ⊢
        repeat (first | refine zF ?_ | refine Un ?_)
        refine rB Tryz.func218 (mP.calls A15.out) ?_
        intro w25 hb
        replace iM := rb iM hb
        replace HB := bs HB hb
        clear hb
        refine ⟨sx, ?_⟩
        repeat (first | refine zF ?_ | refine Un ?_)
        refine on ?_
        try go_wp2
        go_roundg k1
        case measure => exact kl
        case rel => exact ⟨_, _, _, rs, rs, H', ⟨kl⟩, ⟨ur iM.out⟩, ⟨ul HB.out⟩⟩
      ·
       obtain ⟨RU, J7⟩ : ∃ j_ : Int, (wrap64 (jD + 1)) = j_ := ⟨_, rfl⟩
       replace H : (if 0 ≤ (RU) then (if (RU) < (a0.size : Int) then ((mP.f (bt a0 jD) ((bt a0 (RU)) == 10)).bind fun EU => (if (wrap64 ((eP.size : Int) + (EU.size : Int))) > 39 then (if eP.size + 1 ≤ 9223372036854775807 then (if dV.length < 8796093022208 then (if 0 + EU.size ≤ 9223372036854775807 then (bf.l0 k1 a0 (dV ++ [eP ++ (⟨#[61]⟩ : ByteArray)]) ((⟨#[]⟩ : ByteArray) ++ EU) RU) else (none)) else (none)) else (none)) else (if eP.size + EU.size ≤ 9223372036854775807 then (bf.l0 k1 a0 dV (eP ++ EU) RU) else (none)))) else (none)) else (none)) = some (r1, r2) := by first | (rw [J7] at H; exact H) | (simp only [J7] at H ⊢; exact H)
       (try rw [J7] at qC)
       (try rw [J7] at wI)
       have azD : (IntKind.i64.wrap (jD + 1)) = RU := (dP _).trans J7
       replace H := oL H; obtain ⟨Fe, H⟩ := H; replace H := oL H; obtain ⟨Fg, H⟩ := H; replace H := bd H; obtain ⟨EU, A30, H⟩ := H; replace H := sp H
       rcases H with ⟨c31, H⟩ | ⟨c31, H⟩
       ·
        have adW : decide (39 < (wrap64 ((eP.size : Int) + (EU.size : Int)))) = true := decide_eq_true c31
        replace H := nn H; obtain ⟨c32, H⟩ := H
        (try (have adX : decide (39 < ((eP.size : Int) + (EU.size : Int))) = true := decide_eq_true (by have h_ := c31; have h2_ := c32; unfold wrap64 at h_; omega)))
        clear c31
        have V_ := eq_true c32
        have adN := decide_eq_true c32
        try have aCP : (9223372036854775807 < eP.size + 1) = False := eq_false (Nat.not_lt.2 c32)
        replace H := nl H; obtain ⟨as6, H⟩ := H
        obtain ⟨aGP, akA⟩ := nm (dV ++ [eP ++ (⟨#[61]⟩ : ByteArray)])
        rw [← akA.out] at H
        replace H := nn H; obtain ⟨c34, H⟩ := H
        have PX := eq_true c34
        have PY := decide_eq_true c34
        try have as7 : (9223372036854775807 < 0 + EU.size) = False := eq_false (Nat.not_lt.2 c34)
        have H' := ak H; clear H
        obtain ⟨p9, q9, Zv⟩ := bx a0 jD
        try go_wp2
        replace iM := ak (Kd.l9 iM.out)
        replace HB := ak (iF HB.out)
        obtain ⟨p13, q13, X5⟩ := bx a0 jD
        obtain ⟨p29, q29, hx29⟩ := bx a0 (RU)
        refine ro [15] [0, 1, 3, 4, 5, 6, 7, 8, 9, 10, 11, 2, 12, 13, 14, 15, 16] (fun w' => True) trivial ?_
        generalize wr.drew = w35 at iM HB ⊢
        repeat refine zF ?_
        refine ld (N := some 42) (gk.trans rfl) rfl rfl (fun K hK => ?_)
        refine y8 Tryz.func218 (by kernel_rfl) rfl #[.int .u8 (bt a0 jD), .bool ((bt a0 (RU)) == 10)] (by rfl) rfl rfl (by (try simp only [List.map_toArray, List.map_cons, List.map_nil]); first | done | (simp only [J7]; rfl) | rfl | (simp only [List.length_drop, List.length_take]; rfl)) ?_
        with_reducible refine (mP.calls A30.out).mono ?_
        rintro e w36 ⟨rfl, hb⟩
        refine ⟨_, rfl, ?_⟩
        replace iM := rb iM hb
        replace HB := bs HB hb
        try clear hb
        refine hK.out _ _ trivial ?_
        clear hK K
        refine no (a' := ?_) ?_ ?_
        rotate_left
        ·
         show Act.put _ (some 42) _ = _
         simp only [Act.put, qQ, qR, l_c, dP, fG]
         rfl
        repeat refine zF ?_
        refine on ?_
        try go_wp2_with (at_builtin; refine aP 49 52 Kd.string 23 9 (.string ⟨#[]⟩) 16 Tryz.underlying23 info9 HB (ur iM.out) akA (by have := as6.out; omega) ?_; intro aGQ w37 ho hb hg hat; have as8 := ak (ho); replace HB := ak (hb); clear ho hb hg hat iM)
        go_roundg k1
        case measure => exact kl
        case rel => exact ⟨_, _, _, rs, (by first | rfl | (simp; done) | (simp only [← J7] <;> (first | rfl | simp)) | (simp [*]; done)), H', ⟨kl⟩, ⟨ur as8.out⟩, ⟨ul HB.out⟩⟩
       ·
        have adW : decide (39 < (wrap64 ((eP.size : Int) + (EU.size : Int)))) = false := decide_eq_false c31
        replace H := nn H; obtain ⟨XO, H⟩ := H
        (try (have adX : decide (39 < ((eP.size : Int) + (EU.size : Int))) = false := decide_eq_false (by have h_ := c31; have h2_ := XO; unfold wrap64 at h_; omega)))
        clear c31
        have aaU := eq_true XO
        have aCQ := decide_eq_true XO
        try have aCR : (9223372036854775807 < eP.size + EU.size) = False := eq_false (Nat.not_lt.2 XO)
        have H' := ak H; clear H
        obtain ⟨p9, q9, Zv⟩ := bx a0 jD
        try go_wp2
        replace iM := ak (Kd.l9 iM.out)
        replace HB := ak (iF HB.out)
        obtain ⟨p13, q13, X5⟩ := bx a0 jD
        obtain ⟨p29, q29, hx29⟩ := bx a0 (RU)
        refine ro [15] [0, 1, 3, 4, 5, 6, 7, 8, 9, 10, 11, 2, 12, 13, 14, 15, 16] (fun w' => True) trivial ?_
        generalize wr.drew = w39 at iM HB ⊢
        repeat refine zF ?_
        refine ld (N := some 42) (gk.trans rfl) rfl rfl (fun K hK => ?_)
        refine y8 Tryz.func218 (by kernel_rfl) rfl #[.int .u8 (bt a0 jD), .bool ((bt a0 (RU)) == 10)] (by rfl) rfl rfl (by (try simp only [List.map_toArray, List.map_cons, List.map_nil]); first | done | (simp only [J7]; rfl) | rfl | (simp only [List.length_drop, List.length_take]; rfl)) ?_
        with_reducible refine (mP.calls A30.out).mono ?_
        rintro e w40 ⟨rfl, hb⟩
        refine ⟨_, rfl, ?_⟩
        replace iM := rb iM hb
        replace HB := bs HB hb
        try clear hb
        refine hK.out _ _ trivial ?_
        clear hK K
        refine no (a' := ?_) ?_ ?_
        rotate_left
        ·
         show Act.put _ (some 42) _ = _
         simp only [Act.put, qQ, qR, l_c, dP, fG]
         rfl
        repeat refine zF ?_
        refine on ?_
        try go_wp2
        go_roundg k1
        case measure => exact kl
        case rel => exact ⟨_, _, _, rs, (by first | rfl | (simp; done) | (simp only [← J7] <;> (first | rfl | simp)) | (simp [*]; done)), H', ⟨kl⟩, ⟨ur iM.out⟩, ⟨ul HB.out⟩⟩
    ·
     replace H := nl H; obtain ⟨as9, H⟩ := H
     obtain ⟨aGR, akB⟩ := nm (dV ++ [eP])
     rw [← akB.out] at H
     obtain ⟨rfl, rfl⟩ := s2 H
     go_wp2_with (at_builtin; refine aP 57 59 Kd.string 23 9 (.string ⟨#[]⟩) 16 Tryz.underlying23 info9 HB (ur iM.out) akB (by have := as9.out; omega) ?_; intro aGS w42 ho hb hg hat; have ata := ak (ho); replace HB := ak (hb); clear ho hb hg hat iM)
     go_ret2
     exact ⟨_, er, ur ata.out, ul HB.out⟩
end Go.Proofs.YtncdadcmghglkaaGreatDoor.PFnKidValid
