/- Printed walks; conditions: those in each statement. -/
import Derived.Test.YtncdadcmghglkaaGreatDoorVFnPartLinesQt
import Derived.Test.YtncdadcmghglkaaGreatDoorVFnPartLinesYt
import Derived.Test.YtncdadcmghglkaaGreatDoorPFnPartLinesx0
import Derived.Test.YtncdadcmghglkaaGreatDoorPFnPartLinesx1
import Derived.Test.YtncdadcmghglkaaGreatDoorPFnPartLinesx3
-- short
-- dense
-- sq
-- sq2
namespace Go.Proofs.YtncdadcmghglkaaGreatDoor.PFnPartLines
open Go.RowKit Go.Proofs.YtncdadcmghglkaaGreatDoor.X Go.Proofs.YtncdadcmghglkaaGreatDoorW.bI Go.Proofs.YtncdadcmghglkaaGreatDoorW.iy Go.Proofs.YtncdadcmghglkaaGreatDoorW.iZ
attribute [local go_sem] kZ lg nK nM jW jX lq lu   -- for this text's walks alone
set_option linter.unusedVariables false
set_option maxHeartbeats 8000000
set_option maxRecDepth 100000
set_option linter.unusedSimpArgs false
def iM.l0 : Nat → ByteArray → List ByteArray → Int → Option (List ByteArray × Bool)
 | 0, _, _, _ => none
 | k + 1, x0, x4, x5 => if x5 < (x4.length : Int) then (if 0 ≤ x5 then (if ((mX ByteArray.empty x4 x5).size : Int) > 40 then (some ((([] : List ByteArray)), false)) else ((aQ.f k (mX ByteArray.empty x4 x5)).bind fun t160 => (if t160 = true then (iM.l0 k x0 x4 (wrap64 (x5 + 1))) else (some ((([] : List ByteArray)), false))))) else (none)) else (some (x4, decide ((x0.size : Int) ≤ 300)))
def iM.f (k : Nat) (a0 : ByteArray) : Option (List ByteArray × Bool) := (jG.f k a0 10).bind fun t152 => (iM.l0 k a0 t152 0)
theorem iM.calls {k : Nat} {a0 : ByteArray} {r1 : List ByteArray} {r2 : Bool} {w : World} (h : iM.f k a0 = some (r1, r2)) :
  Calls Tryz.prog 210 #[.string a0] w fun e w' => ∃ oV : Value, e = .returned (.tuple #[oV, .bool r2]) ∧ Kd.R Kd.string 9 w' w.heap.size (fun _ => True) oV r1 ∧ Below w.heap.size w w' := by
 have HB := ak (Below.refl w.heap.size w)
 unfold iM.f at h; have H := h
 clear h
 replace H := bd H; obtain ⟨t152, A2, H⟩ := H
 have H' := ak H; clear H
 go_enter Tryz.func210, Tryz.ntmps210
 go_wp2_with (refine gV Tryz.func217 (jG.calls A2.out) ?_; rintro azD w3 ⟨ho0, hb⟩; have auq := ak (Kd.aC ho0 (aj (ul HB.out))); replace HB := bs HB hb; clear hb; (try clear ho0))
 go_loopg [5] k (fun kq v5 w' => ∃ (dM : Int), v5 = .int .i64 dM ∧ ah (iM.l0 kq a0 t152 dM = some (r1, r2)) ∧ ah (kq ≤ k) ∧ ah (Kd.R Kd.string 9 w' w.heap.size (fun _ => True) azD t152) ∧ ah (Below w.heap.size w w'))
 case atStart => exact ⟨_, rs, H', ⟨Nat.le_refl _⟩, ⟨ur auq.out⟩, ⟨ul HB.out⟩⟩
 case round =>
  clear H'
  obtain ⟨dM, rfl, HA, xI, dO, HB⟩ := hrel
  cases gk with
  | zero => exact zz HA.out
  | succ k1 =>
   obtain ⟨H⟩ := HA
   simp only [iM.l0] at H
   replace H := sd H
   rcases H with ⟨qR, H⟩ | ⟨qR, H⟩
   ·
    replace H := oq H; obtain ⟨mW, H⟩ := H; replace H := sp H
    rcases H with ⟨c6, H⟩ | ⟨c6, H⟩
    ·
     have nN : decide (40 < ((mX ByteArray.empty t152 dM).size : Int)) = true := decide_eq_true c6
     have wR : decide (40 < (mX ByteArray.empty t152 dM).size) = true := decide_eq_true (by omega)
     clear c6
     obtain ⟨aHv, ake⟩ := nm ([] : List ByteArray)
     rw [← ake.out] at H
     obtain ⟨rfl, rfl⟩ := s2 H
     obtain ⟨Ao7, co7, eo7⟩ := Kd.aI dO.out
     subst eo7
     have PV := zi dM
     have PW := zj dM t152.length
     obtain ⟨aan, aey, aao⟩ := Kd.iU (Kd.ay dO.out).2.2 dM PV PW
     cases aey
     replace PV := eq_true PV
     replace PW := eq_true PW
     go_wp2_with (refine Gu 28 Kd.string 9 ake ?_; intro v157 w8 ho9 hb; have aur := ak (Kd.aC (Kd.dR ho9 (Kd.jh (ur dO.out))) (aj (ul HB.out))); replace dO := ak (Kd.bH (ur dO.out) (Kd.bZ ho9) hb); replace HB := bs HB hb; clear hb ho9)
     go_ret2
     exact ⟨_, er, ur (Kd.aY aur.out (fun _ hk => trivial)), ul HB.out⟩
    ·
     have nN : decide (40 < ((mX ByteArray.empty t152 dM).size : Int)) = false := decide_eq_false c6
     have wR : decide (40 < (mX ByteArray.empty t152 dM).size) = false := decide_eq_false (by omega)
     clear c6
     replace H := bd H; obtain ⟨t160, WV, H⟩ := H; replace H := sb H
     rcases H with ⟨rfl, H⟩ | ⟨rfl, H⟩
     ·
      have H' := ak H; clear H
      obtain ⟨y7, xP, OT⟩ := Kd.aI dO.out
      subst OT
      have PV := zi dM
      have PW := zj dM t152.length
      obtain ⟨aan, aey, aao⟩ := Kd.iU (Kd.ay dO.out).2.2 dM PV PW
      cases aey
      replace PV := eq_true PV
      replace PW := eq_true PW
      have XW := zi dM
      have XY := zj dM t152.length
      obtain ⟨aez, anD, ahf⟩ := Kd.iU (Kd.ay dO.out).2.2 dM XW XY
      obtain rfl : aan = aez := (by injection anD)
      replace XW := eq_true XW
      replace XY := eq_true XY
      go_wp2_with (go_at_call 159; refine mA (aQ.calls WV.out) ?_; intro nd)
      go_roundg k1
      case measure => exact kl
      case rel => exact ⟨_, rs, H', ⟨kl⟩, ⟨ur dO.out⟩, ⟨ul HB.out⟩⟩
     ·
      obtain ⟨aHw, akf⟩ := nm ([] : List ByteArray)
      rw [← akf.out] at H
      obtain ⟨rfl, rfl⟩ := s2 H
      obtain ⟨W9, IU, SY⟩ := Kd.aI dO.out
      subst SY
      have PV := zi dM
      have PW := zj dM t152.length
      obtain ⟨aan, aey, aao⟩ := Kd.iU (Kd.ay dO.out).2.2 dM PV PW
      cases aey
      replace PV := eq_true PV
      replace PW := eq_true PW
      have XW := zi dM
      have XY := zj dM t152.length
      obtain ⟨aez, anD, ahf⟩ := Kd.iU (Kd.ay dO.out).2.2 dM XW XY
      obtain rfl : aan = aez := (by injection anD)
      replace XW := eq_true XW
      replace XY := eq_true XY
      go_wp2_with (first | (go_at_call 159; refine mA (aQ.calls WV.out) ?_; intro nd) | (refine Gu 28 Kd.string 9 akf ?_; intro v162 SS NJ hb; have aus := ak (Kd.aC (Kd.dR NJ (Kd.jh (ur dO.out))) (aj (ul HB.out))); replace dO := ak (Kd.bH (ur dO.out) (Kd.bZ NJ) hb); replace HB := bs HB hb; clear hb NJ))
      go_ret2
      exact ⟨_, er, ur (Kd.aY aus.out (fun _ hk => trivial)), ul HB.out⟩
   ·
    obtain ⟨rfl, rfl⟩ := s2 H
    obtain ⟨Vb, Vd, TD⟩ := Kd.aI dO.out
    subst TD
    go_wp2
    go_ret2
    exact ⟨_, er, ur dO.out, ul HB.out⟩
def l7.f (a0 : Int) (a1 : Bool) : Option (ByteArray) := if a0 ≥ 33 then (if a0 ≤ 126 then (if a0 = 61 then (if a0 = 32 then (if a1 = true then ((lG.f a0).bind fun t164 => (some t164)) else (some (strOfNums (([a0] : List Int))))) else ((lG.f a0).bind fun t168 => (some t168))) else (some (strOfNums (([a0] : List Int))))) else (if a0 = 32 then (if a1 = true then ((lG.f a0).bind fun aut => (some aut)) else (some (strOfNums (([a0] : List Int))))) else ((lG.f a0).bind fun auu => (some auu)))) else (if a0 = 32 then (if a1 = true then ((lG.f a0).bind fun auv => (some auv)) else (some (strOfNums (([a0] : List Int))))) else ((lG.f a0).bind fun auw => (some auw)))
theorem l7.calls {a0 : Int} {a1 : Bool} {r : ByteArray} {w : World} (h : l7.f a0 a1 = some r) :
  Calls Tryz.prog 218 #[.int .u8 a0, .bool a1] w fun e w' => e = .returned (.string r) ∧ Below w.heap.size w w' := by
 have HB := ak (Below.refl w.heap.size w)
 unfold l7.f at h; have H := h
 clear h
 replace H := sp H
 rcases H with ⟨c3, H⟩ | ⟨c3, H⟩
 ·
  have iO : decide (33 ≤ a0) = true := decide_eq_true c3
  clear c3
  replace H := sd H
  rcases H with ⟨qR, H⟩ | ⟨qR, H⟩
  ·
   replace H := sq H
   rcases H with ⟨mW, IY, H⟩ | ⟨c5, mW, IY, H⟩
   ·
    replace H := sq H
    rcases H with ⟨nN, wR, H⟩ | ⟨c6, nN, wR, H⟩
    ·
     replace H := sb H
     rcases H with ⟨rfl, H⟩ | ⟨rfl, H⟩
     ·
      replace H := bd H; obtain ⟨t164, A8, H⟩ := H
      obtain rfl := s1 H
      go_enter Tryz.func218, Tryz.ntmps218
      go_wp2_with (refine gA Tryz.func221 (lG.calls A8.out) ?_; intro nd)
      go_ret
      exact ⟨er, ul HB.out⟩
     ·
      obtain ⟨aHx, akg⟩ := nm ([a0] : List Int)
      rw [← akg.out] at H
      obtain rfl := s1 H
      go_enter Tryz.func218, Tryz.ntmps218
      go_wp2_with (refine QD 24 (Kd.int .u8) 5 [.int .u8 a0] akg (dh.one (show Kd.M (Kd.int .u8) _ _ _ a0 [.int .u8 a0] from rfl) (dh.none _ _)) ?_; intro aHy w9 NY hb; have auy := ak (Kd.aC NY (aj (ul HB.out))); replace HB := bs HB hb; clear hb NY; have aui := qE (P := Tryz.prog) Tryz.underlying22 Tryz.underlying5 Tryz.underlying9 (Kd.uJ auy.out))
      go_ret
      exact ⟨er, ul HB.out⟩
    ·
     replace H := bd H; obtain ⟨t168, A12, H⟩ := H
     obtain rfl := s1 H
     go_enter Tryz.func218, Tryz.ntmps218
     go_wp2_with (refine gA Tryz.func221 (lG.calls A12.out) ?_; intro nd)
     go_ret
     exact ⟨er, ul HB.out⟩
   ·
    obtain ⟨aHz, akh⟩ := nm ([a0] : List Int)
    rw [← akh.out] at H
    obtain rfl := s1 H
    go_enter Tryz.func218, Tryz.ntmps218
    go_wp2_with (refine QD 24 (Kd.int .u8) 5 [.int .u8 a0] akh (dh.one (show Kd.M (Kd.int .u8) _ _ _ a0 [.int .u8 a0] from rfl) (dh.none _ _)) ?_; intro aHA w13 VU hb; have auz := ak (Kd.aC VU (aj (ul HB.out))); replace HB := bs HB hb; clear hb VU; have auk := qE (P := Tryz.prog) Tryz.underlying22 Tryz.underlying5 Tryz.underlying9 (Kd.uJ auz.out))
    go_ret
    exact ⟨er, ul HB.out⟩
  ·
   replace H := sq H
   rcases H with ⟨zA, Jw, H⟩ | ⟨c16, zA, Jw, H⟩
   ·
    replace H := sb H
    rcases H with ⟨rfl, H⟩ | ⟨rfl, H⟩
    ·
     replace H := bd H; obtain ⟨aut, A18, H⟩ := H
     obtain rfl := s1 H
     go_enter Tryz.func218, Tryz.ntmps218
     go_wp2_with (refine gA Tryz.func221 (lG.calls A18.out) ?_; intro nd)
     go_ret
     exact ⟨er, ul HB.out⟩
    ·
     obtain ⟨aHB, aki⟩ := nm ([a0] : List Int)
     rw [← aki.out] at H
     obtain rfl := s1 H
     go_enter Tryz.func218, Tryz.ntmps218
     go_wp2_with (refine QD 24 (Kd.int .u8) 5 [.int .u8 a0] aki (dh.one (show Kd.M (Kd.int .u8) _ _ _ a0 [.int .u8 a0] from rfl) (dh.none _ _)) ?_; intro aHC Zb abG hb; have auA := ak (Kd.aC abG (aj (ul HB.out))); replace HB := bs HB hb; clear hb abG; have aCs := qE (P := Tryz.prog) Tryz.underlying22 Tryz.underlying5 Tryz.underlying9 (Kd.uJ auA.out))
     go_ret
     exact ⟨er, ul HB.out⟩
   ·
    replace H := bd H; obtain ⟨auu, A22, H⟩ := H
    obtain rfl := s1 H
    go_enter Tryz.func218, Tryz.ntmps218
    go_wp2_with (refine gA Tryz.func221 (lG.calls A22.out) ?_; intro nd)
    go_ret
    exact ⟨er, ul HB.out⟩
 ·
  have iO : decide (33 ≤ a0) = false := decide_eq_false c3
  clear c3
  replace H := sq H
  rcases H with ⟨Ad, MQ, H⟩ | ⟨c23, Ad, MQ, H⟩
  ·
   replace H := sb H
   rcases H with ⟨rfl, H⟩ | ⟨rfl, H⟩
   ·
    replace H := bd H; obtain ⟨auv, A25, H⟩ := H
    obtain rfl := s1 H
    go_enter Tryz.func218, Tryz.ntmps218
    go_wp2_with (refine gA Tryz.func221 (lG.calls A25.out) ?_; intro nd)
    go_ret
    exact ⟨er, ul HB.out⟩
   ·
    obtain ⟨aHD, akj⟩ := nm ([a0] : List Int)
    rw [← akj.out] at H
    obtain rfl := s1 H
    go_enter Tryz.func218, Tryz.ntmps218
    go_wp2_with (refine QD 24 (Kd.int .u8) 5 [.int .u8 a0] akj (dh.one (show Kd.M (Kd.int .u8) _ _ _ a0 [.int .u8 a0] from rfl) (dh.none _ _)) ?_; intro aHE w26 auB hb; have auC := ak (Kd.aC auB (aj (ul HB.out))); replace HB := bs HB hb; clear hb auB; have aCt := qE (P := Tryz.prog) Tryz.underlying22 Tryz.underlying5 Tryz.underlying9 (Kd.uJ auC.out))
    go_ret
    exact ⟨er, ul HB.out⟩
  ·
   replace H := bd H; obtain ⟨auw, A29, H⟩ := H
   obtain rfl := s1 H
   go_enter Tryz.func218, Tryz.ntmps218
   go_wp2_with (refine gA Tryz.func221 (lG.calls A29.out) ?_; intro nd)
   go_ret
   exact ⟨er, ul HB.out⟩
def aZ.l0 : Nat → ByteArray → List ByteArray → ByteArray → Int → Option (List ByteArray × Bool)
 | 0, _, _, _, _ => none
 | k + 1, x0, x4, x5, x6 => if x6 < (x0.size : Int) then (if 0 ≤ x6 then (if (bt x0 x6) = 10 then (if x4.length < 8796093022208 then (aZ.l0 k x0 (x4 ++ [x5]) (⟨#[]⟩ : ByteArray) (wrap64 (x6 + 1))) else (none)) else (if (wrap64 (x6 + 1)) = (x0.size : Int) then ((l7.f (bt x0 x6) true).bind fun t194 => (if (wrap64 ((x5.size : Int) + (t194.size : Int))) > 39 then (if x5.size + 1 ≤ 9223372036854775807 then (if x4.length < 8796093022208 then (if 0 + t194.size ≤ 9223372036854775807 then (aZ.l0 k x0 (x4 ++ [x5 ++ (⟨#[61]⟩ : ByteArray)]) ((⟨#[]⟩ : ByteArray) ++ t194) (wrap64 (x6 + 1))) else (none)) else (none)) else (none)) else (if x5.size + t194.size ≤ 9223372036854775807 then (aZ.l0 k x0 x4 (x5 ++ t194) (wrap64 (x6 + 1))) else (none)))) else (if 0 ≤ (wrap64 (x6 + 1)) then (if (wrap64 (x6 + 1)) < (x0.size : Int) then ((l7.f (bt x0 x6) ((bt x0 (wrap64 (x6 + 1))) == 10)).bind fun t198 => (if (wrap64 ((x5.size : Int) + (t198.size : Int))) > 39 then (if x5.size + 1 ≤ 9223372036854775807 then (if x4.length < 8796093022208 then (if 0 + t198.size ≤ 9223372036854775807 then (aZ.l0 k x0 (x4 ++ [x5 ++ (⟨#[61]⟩ : ByteArray)]) ((⟨#[]⟩ : ByteArray) ++ t198) (wrap64 (x6 + 1))) else (none)) else (none)) else (none)) else (if x5.size + t198.size ≤ 9223372036854775807 then (aZ.l0 k x0 x4 (x5 ++ t198) (wrap64 (x6 + 1))) else (none)))) else (none)) else (none)))) else (none)) else (if x4.length < 8796093022208 then (some ((x4 ++ [x5]), true)) else (none))
def aZ.f (k : Nat) (a0 : ByteArray) : Option (List ByteArray × Bool) := if (a0.size : Int) > 300 then (some ((([] : List ByteArray)), false)) else (aZ.l0 k a0 (([] : List ByteArray)) (⟨#[]⟩ : ByteArray) 0)
def aZ.T11 : Bool × List (List Nat × List Nat) := (true, [([], []), ([], []), ([0, 1], [0, 1]), ([], []), ([3], [3]), ([], []), ([5], [5]), ([4, 6], [4, 6]), ([7], [7]), ([8], [8]), ([8], [8]), ([10, 8], [8, 10]), ([9, 11, 8], [8, 9, 11]), ([12, 8], [8, 12]), ([8, 13], [8, 13]), ([2, 14, 8], [2, 14]), ([15, 15, 0, 1, 2, 3, 4, 5, 6, 7, 8, 9, 10, 11, 12, 13, 14, 15], [15])])
def aZ.B11 : List Nat := [0, 0, 3, 0, 8, 0, 32, 120, 248, 504, 504, 1528, 4088, 8184, 16376, 32767, 65535]
theorem aZ.aCu : rU .any (opsOf Tryz.f211 11) = aZ.T11 := by kernel_rfl
theorem aZ.azE : nD aZ.T11.2 aZ.B11 = true := by kernel_rfl
theorem aZ.calls {k : Nat} {a0 : ByteArray} {r1 : List ByteArray} {r2 : Bool} {w : World} (h : aZ.f k a0 = some (r1, r2)) :
  Calls Tryz.prog 211 #[.string a0] w fun e w' => ∃ oV : Value, e = .returned (.tuple #[oV, .bool r2]) ∧ Kd.R Kd.string 9 w' w.heap.size (fun _ => True) oV r1 ∧ Below w.heap.size w w' := by
 have HB := ak (Below.refl w.heap.size w)
 unfold aZ.f at h; have H := h
 clear h
 replace H := sp H
 rcases H with ⟨c2, H⟩ | ⟨c2, H⟩
 ·
  have ou : decide (300 < (a0.size : Int)) = true := decide_eq_true c2
  have vK : decide (300 < a0.size) = true := decide_eq_true (by omega)
  clear c2
  obtain ⟨aHF, akk⟩ := nm ([] : List ByteArray)
  rw [← akk.out] at H
  obtain ⟨rfl, rfl⟩ := s2 H
  go_enter Tryz.func211, Tryz.ntmps211
  go_wp2_with (refine Gu 11 Kd.string 9 akk ?_; intro v183 w3 Ro hb; have auD := ak (Kd.aC Ro (aj (ul HB.out))); replace HB := bs HB hb; clear hb Ro)
  go_ret2
  exact ⟨_, er, ur auD.out, ul HB.out⟩
 ·
  have ou : decide (300 < (a0.size : Int)) = false := decide_eq_false c2
  have vK : decide (300 < a0.size) = false := decide_eq_false (by omega)
  clear c2
  obtain ⟨aHG, akl⟩ := nm ([] : List ByteArray)
  rw [← akl.out] at H
  have H' := ak H; clear H
  go_enter Tryz.func211, Tryz.ntmps211
  go_wp2_with (refine Gu 12 Kd.string 9 akl ?_; intro aHH w5 Y8 hb; have auE := ak (Kd.aC Y8 (aj (ul HB.out))); replace HB := bs HB hb; clear hb Y8)
  go_loopg [4, 5, 6] k (fun kq v4 v5 v6 w' => ∃ (eP : List ByteArray) (dM : ByteArray) (jy : Int), v5 = .string dM ∧ v6 = .int .i64 jy ∧ ah (aZ.l0 kq a0 eP dM jy = some (r1, r2)) ∧ ah (kq ≤ k) ∧ ah (Kd.R Kd.string 9 w' w.heap.size (fun _ => True) v4 eP) ∧ ah (Below w.heap.size w w'))
  case atStart => exact ⟨_, _, _, rs, rs, H', ⟨Nat.le_refl _⟩, ⟨ur auE.out⟩, ⟨ul HB.out⟩⟩
  case round =>
   clear H'
   try clear c2
   try clear ou
   try clear vK
   obtain ⟨eP, dM, jy, rfl, rfl, HA, xI, dO, HB⟩ := hrel
   cases gk with
   | zero => exact zz HA.out
   | succ k1 =>
    obtain ⟨H⟩ := HA
    simp only [aZ.l0] at H
    replace H := sd H
    rcases H with ⟨rF, H⟩ | ⟨rF, H⟩
    ·
     replace H := oq H; obtain ⟨tX, H⟩ := H; replace H := sq H
     rcases H with ⟨nY, rX, H⟩ | ⟨c10, nY, rX, H⟩
     ·
      replace H := nl H; obtain ⟨Ph, H⟩ := H
      obtain ⟨aHI, akm⟩ := nm (eP ++ [dM])
      rw [← akm.out] at H
      have H' := ak H; clear H
      obtain ⟨p9, q9, YO⟩ := bx a0 jy
      go_wp2_with (at_builtin; refine aP 23 25 Kd.string 23 9 (.string ⟨#[]⟩) 16 Tryz.underlying23 info9 HB (ur dO.out) akm (by have := Ph.out; omega) ?_; intro aHJ w12 ho hb hg hat; have auF := ak (ho); replace HB := ak (hb); clear ho hb hg hat dO)
      go_roundg k1
      case measure => exact kl
      case rel => exact ⟨_, _, _, rs, rs, H', ⟨kl⟩, ⟨ur auF.out⟩, ⟨ul HB.out⟩⟩
     ·
      replace H := sq H
      rcases H with ⟨sH, wS, H⟩ | ⟨c14, sH, wS, H⟩
      ·
       replace H := bd H; obtain ⟨t194, A15, H⟩ := H; replace H := sp H
       rcases H with ⟨c16, H⟩ | ⟨c16, H⟩
       ·
        have zA : decide (39 < (wrap64 ((dM.size : Int) + (t194.size : Int)))) = true := decide_eq_true c16
        replace H := nn H; obtain ⟨c17, H⟩ := H
        (try (have Jw : decide (39 < ((dM.size : Int) + (t194.size : Int))) = true := decide_eq_true (by have h_ := c16; have Y0 := c17; unfold wrap64 at h_; omega)))
        clear c16
        have sJ := eq_true c17
        have Nb := decide_eq_true c17
        try have auG : (9223372036854775807 < dM.size + 1) = False := eq_false (Nat.not_lt.2 c17)
        replace H := nl H; obtain ⟨auH, H⟩ := H
        obtain ⟨aHK, akn⟩ := nm (eP ++ [dM ++ (⟨#[61]⟩ : ByteArray)])
        rw [← akn.out] at H
        replace H := nn H; obtain ⟨c19, H⟩ := H
        have z_ := eq_true c19
        have Eb := decide_eq_true c19
        try have ai2 : (9223372036854775807 < 0 + t194.size) = False := eq_false (Nat.not_lt.2 c19)
        have H' := ak H; clear H
        obtain ⟨p9, q9, YO⟩ := bx a0 jy
        try go_wp2
        replace dO := ak (Kd.fV dO.out)
        replace HB := ak (fQ HB.out)
        obtain ⟨p13, q13, Xz⟩ := bx a0 jy
        refine ro [15] [0, 1, 3, 4, 5, 6, 7, 8, 9, 10, 11, 12, 13, 14, 2, 15, 16] (fun w' => True) trivial ?_
        generalize wr.drew = w20 at dO HB ⊢
        repeat (first | refine wO ?_ | refine NR ?_)
        refine rB Tryz.func218 (l7.calls A15.out) ?_
        intro w21 hb
        replace dO := rb dO hb
        replace HB := bs HB hb
        clear hb
        refine ⟨sx, ?_⟩
        repeat (first | refine wO ?_ | refine NR ?_)
        refine on ?_
        try go_wp2_with (at_builtin; refine aP 49 52 Kd.string 23 9 (.string ⟨#[]⟩) 16 Tryz.underlying23 info9 HB (ur dO.out) akn (by have := auH.out; omega) ?_; intro v196 YX ho hb hg hat; have auI := ak (ho); replace HB := ak (hb); clear ho hb hg hat dO)
        go_roundg k1
        case measure => exact kl
        case rel => exact ⟨_, _, _, rs, rs, H', ⟨kl⟩, ⟨ur auI.out⟩, ⟨ul HB.out⟩⟩
       ·
        have zA : decide (39 < (wrap64 ((dM.size : Int) + (t194.size : Int)))) = false := decide_eq_false c16
        replace H := nn H; obtain ⟨c23, H⟩ := H
        (try (have Jw : decide (39 < ((dM.size : Int) + (t194.size : Int))) = false := decide_eq_false (by have h_ := c16; have Y0 := c23; unfold wrap64 at h_; omega)))
        clear c16
        have Ad := eq_true c23
        have MQ := decide_eq_true c23
        try have ath : (9223372036854775807 < dM.size + t194.size) = False := eq_false (Nat.not_lt.2 c23)
        have H' := ak H; clear H
        obtain ⟨p9, q9, YO⟩ := bx a0 jy
        try go_wp2
        replace dO := ak (Kd.fV dO.out)
        replace HB := ak (fQ HB.out)
        obtain ⟨p13, q13, Xz⟩ := bx a0 jy
        refine ro [15] [0, 1, 3, 4, 5, 6, 7, 8, 9, 10, 11, 12, 13, 14, 2, 15, 16] (fun w' => True) trivial ?_
        generalize wr.drew = w24 at dO HB ⊢
        repeat (first | refine wO ?_ | refine NR ?_)
        refine rB Tryz.func218 (l7.calls A15.out) ?_
        intro w25 hb
        replace dO := rb dO hb
        replace HB := bs HB hb
        clear hb
        refine ⟨sx, ?_⟩
        repeat (first | refine wO ?_ | refine NR ?_)
        refine on ?_
        try go_wp2
        go_roundg k1
        case measure => exact kl
        case rel => exact ⟨_, _, _, rs, rs, H', ⟨kl⟩, ⟨ur dO.out⟩, ⟨ul HB.out⟩⟩
      ·
       obtain ⟨QT, JU⟩ : ∃ j_ : Int, (wrap64 (jy + 1)) = j_ := ⟨_, rfl⟩
       replace H : (if 0 ≤ (QT) then (if (QT) < (a0.size : Int) then ((l7.f (bt a0 jy) ((bt a0 (QT)) == 10)).bind fun t198 => (if (wrap64 ((dM.size : Int) + (t198.size : Int))) > 39 then (if dM.size + 1 ≤ 9223372036854775807 then (if eP.length < 8796093022208 then (if 0 + t198.size ≤ 9223372036854775807 then (aZ.l0 k1 a0 (eP ++ [dM ++ (⟨#[61]⟩ : ByteArray)]) ((⟨#[]⟩ : ByteArray) ++ t198) QT) else (none)) else (none)) else (none)) else (if dM.size + t198.size ≤ 9223372036854775807 then (aZ.l0 k1 a0 eP (dM ++ t198) QT) else (none)))) else (none)) else (none)) = some (r1, r2) := by first | (rw [JU] at H; exact H) | (simp only [JU] at H ⊢; exact H)
       (try rw [JU] at sH)
       (try rw [JU] at wS)
       have azF : (IntKind.i64.wrap (jy + 1)) = QT := (iK _).trans JU
       replace H := oq H; obtain ⟨EO, H⟩ := H; replace H := oq H; obtain ⟨EP, H⟩ := H; replace H := bd H; obtain ⟨t198, A30, H⟩ := H; replace H := sp H
       rcases H with ⟨c31, H⟩ | ⟨c31, H⟩
       ·
        have aeb : decide (39 < (wrap64 ((dM.size : Int) + (t198.size : Int)))) = true := decide_eq_true c31
        replace H := nn H; obtain ⟨c32, H⟩ := H
        (try (have aec : decide (39 < ((dM.size : Int) + (t198.size : Int))) = true := decide_eq_true (by have h_ := c31; have Y0 := c32; unfold wrap64 at h_; omega)))
        clear c31
        have Vl := eq_true c32
        have ady := decide_eq_true c32
        try have aCv : (9223372036854775807 < dM.size + 1) = False := eq_false (Nat.not_lt.2 c32)
        replace H := nl H; obtain ⟨auJ, H⟩ := H
        obtain ⟨aHL, ako⟩ := nm (eP ++ [dM ++ (⟨#[61]⟩ : ByteArray)])
        rw [← ako.out] at H
        replace H := nn H; obtain ⟨c34, H⟩ := H
        have OY := eq_true c34
        have OZ := decide_eq_true c34
        try have aCw : (9223372036854775807 < 0 + t198.size) = False := eq_false (Nat.not_lt.2 c34)
        have H' := ak H; clear H
        obtain ⟨p9, q9, YO⟩ := bx a0 jy
        try go_wp2
        replace dO := ak (Kd.fV dO.out)
        replace HB := ak (fQ HB.out)
        obtain ⟨p13, q13, Xz⟩ := bx a0 jy
        obtain ⟨p29, q29, hx29⟩ := bx a0 (QT)
        refine ro [15] [0, 1, 3, 4, 5, 6, 7, 8, 9, 10, 11, 2, 12, 13, 14, 15, 16] (fun w' => True) trivial ?_
        generalize wr.drew = w35 at dO HB ⊢
        repeat refine wO ?_
        refine ld (N := some 42) (gk.trans rfl) rfl rfl (fun K hK => ?_)
        refine yN Tryz.func218 (by kernel_rfl) rfl #[.int .u8 (bt a0 jy), .bool ((bt a0 (QT)) == 10)] (by rfl) rfl rfl (by (try simp only [List.map_toArray, List.map_cons, List.map_nil]); first | done | (simp only [JU]; rfl) | rfl | (simp only [List.length_drop, List.length_take]; rfl)) ?_
        with_reducible refine (l7.calls A30.out).mono ?_
        rintro e w36 ⟨rfl, hb⟩
        refine ⟨_, rfl, ?_⟩
        replace dO := rb dO hb
        replace HB := bs HB hb
        try clear hb
        refine hK.out _ _ trivial ?_
        clear hK K
        refine no (a' := ?_) ?_ ?_
        rotate_left
        ·
         show Act.put _ (some 42) _ = _
         simp only [Act.put, yT, yU, l_c, iK, jI]
         rfl
        repeat refine wO ?_
        refine on ?_
        try go_wp2_with (at_builtin; refine aP 49 52 Kd.string 23 9 (.string ⟨#[]⟩) 16 Tryz.underlying23 info9 HB (ur dO.out) ako (by have := auJ.out; omega) ?_; intro aHM w37 ho hb hg hat; have auK := ak (ho); replace HB := ak (hb); clear ho hb hg hat dO)
        go_roundg k1
        case measure => exact kl
        case rel => exact ⟨_, _, _, rs, (by first | rfl | (simp; done) | (simp only [← JU] <;> (first | rfl | simp)) | (simp [*]; done)), H', ⟨kl⟩, ⟨ur auK.out⟩, ⟨ul HB.out⟩⟩
       ·
        have aeb : decide (39 < (wrap64 ((dM.size : Int) + (t198.size : Int)))) = false := decide_eq_false c31
        replace H := nn H; obtain ⟨WW, H⟩ := H
        (try (have aec : decide (39 < ((dM.size : Int) + (t198.size : Int))) = false := decide_eq_false (by have h_ := c31; have Y0 := WW; unfold wrap64 at h_; omega)))
        clear c31
        have Zj := eq_true WW
        have aCx := decide_eq_true WW
        try have aCy : (9223372036854775807 < dM.size + t198.size) = False := eq_false (Nat.not_lt.2 WW)
        have H' := ak H; clear H
        obtain ⟨p9, q9, YO⟩ := bx a0 jy
        try go_wp2
        replace dO := ak (Kd.fV dO.out)
        replace HB := ak (fQ HB.out)
        obtain ⟨p13, q13, Xz⟩ := bx a0 jy
        obtain ⟨p29, q29, hx29⟩ := bx a0 (QT)
        refine ro [15] [0, 1, 3, 4, 5, 6, 7, 8, 9, 10, 11, 2, 12, 13, 14, 15, 16] (fun w' => True) trivial ?_
        generalize wr.drew = w39 at dO HB ⊢
        repeat refine wO ?_
        refine ld (N := some 42) (gk.trans rfl) rfl rfl (fun K hK => ?_)
        refine yN Tryz.func218 (by kernel_rfl) rfl #[.int .u8 (bt a0 jy), .bool ((bt a0 (QT)) == 10)] (by rfl) rfl rfl (by (try simp only [List.map_toArray, List.map_cons, List.map_nil]); first | done | (simp only [JU]; rfl) | rfl | (simp only [List.length_drop, List.length_take]; rfl)) ?_
        with_reducible refine (l7.calls A30.out).mono ?_
        rintro e w40 ⟨rfl, hb⟩
        refine ⟨_, rfl, ?_⟩
        replace dO := rb dO hb
        replace HB := bs HB hb
        try clear hb
        refine hK.out _ _ trivial ?_
        clear hK K
        refine no (a' := ?_) ?_ ?_
        rotate_left
        ·
         show Act.put _ (some 42) _ = _
         simp only [Act.put, yT, yU, l_c, iK, jI]
         rfl
        repeat refine wO ?_
        refine on ?_
        try go_wp2
        go_roundg k1
        case measure => exact kl
        case rel => exact ⟨_, _, _, rs, (by first | rfl | (simp; done) | (simp only [← JU] <;> (first | rfl | simp)) | (simp [*]; done)), H', ⟨kl⟩, ⟨ur dO.out⟩, ⟨ul HB.out⟩⟩
    ·
     replace H := nl H; obtain ⟨auL, H⟩ := H
     obtain ⟨aHN, akp⟩ := nm (eP ++ [dM])
     rw [← akp.out] at H
     obtain ⟨rfl, rfl⟩ := s2 H
     go_wp2_with (at_builtin; refine aP 57 59 Kd.string 23 9 (.string ⟨#[]⟩) 16 Tryz.underlying23 info9 HB (ur dO.out) akp (by have := auL.out; omega) ?_; intro aHO w42 ho hb hg hat; have auM := ak (ho); replace HB := ak (hb); clear ho hb hg hat dO)
     go_ret2
     exact ⟨_, er, ur auM.out, ul HB.out⟩
end Go.Proofs.YtncdadcmghglkaaGreatDoor.PFnPartLines
