/- Printed walks; conditions: those in each statement. -/
import Derived.Test.YtncdadcmghglkaaGreatDoorVFnPartValidQt
import Derived.Test.YtncdadcmghglkaaGreatDoorVFnPartValidYt
import Derived.Test.YtncdadcmghglkaaGreatDoorPFnPartValidx0
-- short
-- dense
-- sq
-- sq2
namespace Go.Proofs.YtncdadcmghglkaaGreatDoor.PFnPartValid
open Go.RowKit Go.Proofs.YtncdadcmghglkaaGreatDoor.X Go.Proofs.YtncdadcmghglkaaGreatDoorW.bK Go.Proofs.YtncdadcmghglkaaGreatDoorW.gY Go.Proofs.YtncdadcmghglkaaGreatDoorW.iU
attribute [local go_sem] lu lC ng ni jO jP lD lF   -- for this text's walks alone
set_option linter.unusedVariables false
set_option maxHeartbeats 8000000
set_option maxRecDepth 100000
set_option linter.unusedSimpArgs false
mutual
def bT.l0 : Nat → ByteArray → ByteArray → Int → Option (ByteArray × Bool)
 | 0, _, _, _ => none
 | k + 1, x0, x4, x5 => if x5 < (x0.size : Int) then (bT.l1 k x0 x4 x5 (wrap64 (x5 + 1))) else (some (x4, true))
def bT.l1 : Nat → ByteArray → ByteArray → Int → Int → Option (ByteArray × Bool)
 | 0, _, _, _, _ => none
 | k + 1, x0, x4, x5, x6 => if x6 < (x0.size : Int) then (if 0 ≤ x5 then (if x5 ≤ (wrap64 (x6 + 1)) then (if (wrap64 (x6 + 1)) ≤ (x0.size : Int) then ((jT.f k (x0.extract (x5 : Int).toNat ((wrap64 (x6 + 1)) : Int).toNat)).bind fun aiA => (if (aiA.size : Int) ≤ 28 then (bT.l1 k x0 x4 x5 (wrap64 (x6 + 1))) else (if x5 ≤ x6 then (if x6 ≤ (x0.size : Int) then ((iV.f k (x0.extract (x5 : Int).toNat (x6 : Int).toNat)).bind fun abN => (if x5 > 0 then (if x4.size + 1 ≤ 9223372036854775807 then (if (x4 ++ (⟨#[32]⟩ : ByteArray)).size + abN.1.size ≤ 9223372036854775807 then (bT.l0 k x0 ((x4 ++ (⟨#[32]⟩ : ByteArray)) ++ abN.1) x6) else (none)) else (none)) else (if x4.size + abN.1.size ≤ 9223372036854775807 then (bT.l0 k x0 (x4 ++ abN.1) x6) else (none)))) else (none)) else (none)))) else (none)) else (none)) else (none)) else (if 0 ≤ x5 then (if x5 ≤ x6 then (if x6 ≤ (x0.size : Int) then ((iV.f k (x0.extract (x5 : Int).toNat (x6 : Int).toNat)).bind fun abO => (if x5 > 0 then (if x4.size + 1 ≤ 9223372036854775807 then (if (x4 ++ (⟨#[32]⟩ : ByteArray)).size + abO.1.size ≤ 9223372036854775807 then (bT.l0 k x0 ((x4 ++ (⟨#[32]⟩ : ByteArray)) ++ abO.1) x6) else (none)) else (none)) else (if x4.size + abO.1.size ≤ 9223372036854775807 then (bT.l0 k x0 (x4 ++ abO.1) x6) else (none)))) else (none)) else (none)) else (none))
end
def bT.f (k : Nat) (a0 : ByteArray) : Option (ByteArray × Bool) := if (a0.size : Int) > 120 then (some ((⟨#[]⟩ : ByteArray), false)) else ((iw.f k a0).bind fun ato => (if ato = true then (bT.l0 k a0 (⟨#[]⟩ : ByteArray) 0) else (some (a0, true))))
theorem bT.calls {k : Nat} {a0 r1 : ByteArray} {r2 : Bool} {w : World} (h : bT.f k a0 = some (r1, r2)) :
  Calls Tryz.prog 194 #[.string a0] w fun e w' => e = .returned (.tuple #[.string r1, .bool r2]) ∧ Below w.heap.size w w' := by
 have HB := ak (Below.refl w.heap.size w)
 unfold bT.f at h; have H := h
 clear h
 replace H := sp H
 rcases H with ⟨c2, H⟩ | ⟨c2, H⟩
 ·
  have o_ : decide (120 < (a0.size : Int)) = true := decide_eq_true c2
  have wu : decide (120 < a0.size) = true := decide_eq_true (by omega)
  clear c2
  obtain ⟨rfl, rfl⟩ := s2 H
  go_enter Tryz.func194, Tryz.ntmps194
  go_wp2
  go_ret2
  exact ⟨er, ul HB.out⟩
 ·
  have o_ : decide (120 < (a0.size : Int)) = false := decide_eq_false c2
  have wu : decide (120 < a0.size) = false := decide_eq_false (by omega)
  clear c2
  replace H := bd H; obtain ⟨ato, A3, H⟩ := H; replace H := sb H
  rcases H with ⟨rfl, H⟩ | ⟨rfl, H⟩
  ·
   have H' := ak H; clear H
   go_enter Tryz.func194, Tryz.ntmps194
   go_wp2_with (refine gA Tryz.func207 (iw.calls A3.out) ?_; intro nd)
   go_loopg [4, 5] k (fun kq v4 v5 w' => ∃ (fG : ByteArray) (fF : Int), v4 = .string fG ∧ v5 = .int .i64 fF ∧ ah (bT.l0 kq a0 fG fF = some (r1, r2)) ∧ ah (kq ≤ k) ∧ ah (Below w.heap.size w w'))
   case atStart => exact ⟨_, _, rs, rs, H', ⟨Nat.le_refl _⟩, ⟨ul HB.out⟩⟩
   case round =>
    clear H'
    try clear c2
    try clear o_
    try clear wu
    obtain ⟨fG, fF, rfl, rfl, HA, yB, HB⟩ := hrel
    cases gk with
    | zero => exact zz HA.out
    | succ k1 =>
     obtain ⟨H⟩ := HA
     simp only [bT.l0] at H
     replace H := sd H
     rcases H with ⟨nR, H⟩ | ⟨nR, H⟩
     ·
      have H' := ak H; clear H
      go_wp2
      go_loopg [6] k1 (fun kq v6 w' => ∃ (CP : Int), v6 = .int .i64 CP ∧ ah (bT.l1 kq a0 fG fF CP = some (r1, r2)) ∧ ah (kq ≤ k1) ∧ ah (Below w.heap.size w w'))
      case atStart => exact ⟨_, rs, H', ⟨Nat.le_refl _⟩, ⟨ul HB.out⟩⟩
      case round =>
       clear H'
       try clear c2
       try clear o_
       try clear wu
       try clear nR
       obtain ⟨CP, rfl, HA, HK2, HB⟩ := hrel
       cases gk with
       | zero => exact zz HA.out
       | succ k2 =>
        obtain ⟨H⟩ := HA
        simp only [bT.l1] at H
        replace H := sd H
        rcases H with ⟨oJ, H⟩ | ⟨oJ, H⟩
        ·
         replace H := Ba H; obtain ⟨sH, Nw, H⟩ := H; replace H := nn H; obtain ⟨c8, H⟩ := H
         have uj := eq_true c8
         have DU := decide_eq_true c8
         replace H := nn H; obtain ⟨c9, H⟩ := H
         have zu := eq_true c9
         have Gn := decide_eq_true c9
         replace H := bd H; obtain ⟨aiA, Xa, H⟩ := H; replace H := sp H
         rcases H with ⟨c11, H⟩ | ⟨c11, H⟩
         ·
          have vV := decide_eq_true c11
          have Fh : decide (aiA.size ≤ 28) = true := decide_eq_true (by omega)
          clear c11
          have H' := ak H; clear H
          go_wp2_with (go_at_call 208; refine mB (jT.calls Xa.out) ?_; intro w12 hb; replace HB := bs HB hb; clear hb)
          go_roundg k2
          case measure => exact kl
          case rel => exact ⟨_, rs, H', ⟨kl⟩, ⟨ul HB.out⟩⟩
         ·
          have vV := decide_eq_false c11
          have Fh : decide (aiA.size ≤ 28) = false := decide_eq_false (by omega)
          clear c11
          have xk := eq_true (of_decide_eq_true (by assumption) : 0 ≤ fF)
          replace H := Ba H; obtain ⟨rQ, xO, H⟩ := H; replace H := Ba H; obtain ⟨xq, Gi, H⟩ := H; replace H := bd H
          obtain ⟨⟨aiB, aGo⟩, A16, H⟩ := H
          (try dsimp only at H)
          replace H := sp H
          rcases H with ⟨c17, H⟩ | ⟨c17, H⟩
          ·
           have uQ : decide (0 < fF) = true := decide_eq_true c17
           clear c17
           replace H := nn H; obtain ⟨c18, H⟩ := H
           have AQ := eq_true c18
           have QI := decide_eq_true c18
           try have aj9 : (9223372036854775807 < fG.size + 1) = False := eq_false (Nat.not_lt.2 c18)
           replace H := nn H; obtain ⟨c19, H⟩ := H
           have BD := eq_true c19
           have Fb := decide_eq_true c19
           try have aCv : (9223372036854775807 < fG.size + 1 + aiB.size) = False := by have h_ := (eq_false (Nat.not_lt.2 c19) : (9223372036854775807 < (fG ++ (⟨#[32]⟩ : ByteArray)).size + aiB.size) = False); simp only [ByteArray.size_append] at h_; exact h_
           try have ajM : (9223372036854775807 < (fG ++ (⟨#[32]⟩ : ByteArray)).size + aiB.size) = False := eq_false (Nat.not_lt.2 c19)
           have H' := ak H; clear H
           go_wp2_with (first | (go_at_call 208; refine mB (jT.calls Xa.out) ?_; intro w20 hb; replace HB := bs HB hb; clear hb) | (refine gB Tryz.func209 (iV.calls A16.out) ?_; intro w21 hb; replace HB := bs HB hb; clear hb))
           go_roundg k2
           case measure => exact kl
           case rel => exact ⟨_, _, rs, rs, H', ⟨kl⟩, ⟨ul HB.out⟩⟩
          ·
           have uQ : decide (0 < fF) = false := decide_eq_false c17
           clear c17
           replace H := nn H; obtain ⟨c22, H⟩ := H
           have Gm := eq_true c22
           have aaP := decide_eq_true c22
           try have aCw : (9223372036854775807 < fG.size + aiB.size) = False := eq_false (Nat.not_lt.2 c22)
           have H' := ak H; clear H
           go_wp2_with (first | (go_at_call 208; refine mB (jT.calls Xa.out) ?_; intro w23 hb; replace HB := bs HB hb; clear hb) | (refine gB Tryz.func209 (iV.calls A16.out) ?_; intro w24 hb; replace HB := bs HB hb; clear hb))
           go_roundg k2
           case measure => exact kl
           case rel => exact ⟨_, _, rs, rs, H', ⟨kl⟩, ⟨ul HB.out⟩⟩
        ·
         replace H := Ba H; obtain ⟨QE, aep, H⟩ := H; replace H := Ba H; obtain ⟨OO, aaI, H⟩ := H; replace H := Ba H; obtain ⟨Gf, aaT, H⟩ := H; replace H := bd H
         obtain ⟨⟨aiC, aGp⟩, A28, H⟩ := H
         (try dsimp only at H)
         replace H := sp H
         rcases H with ⟨c29, H⟩ | ⟨c29, H⟩
         ·
          have abP : decide (0 < fF) = true := decide_eq_true c29
          clear c29
          replace H := nn H; obtain ⟨c30, H⟩ := H
          have aaV := eq_true c30
          have aCx := decide_eq_true c30
          try have aCy : (9223372036854775807 < fG.size + 1) = False := eq_false (Nat.not_lt.2 c30)
          replace H := nn H; obtain ⟨c31, H⟩ := H
          have aeQ := eq_true c31
          have aeR := decide_eq_true c31
          try have aCz : (9223372036854775807 < fG.size + 1 + aiC.size) = False := by have h_ := (eq_false (Nat.not_lt.2 c31) : (9223372036854775807 < (fG ++ (⟨#[32]⟩ : ByteArray)).size + aiC.size) = False); simp only [ByteArray.size_append] at h_; exact h_
          try have aCA : (9223372036854775807 < (fG ++ (⟨#[32]⟩ : ByteArray)).size + aiC.size) = False := eq_false (Nat.not_lt.2 c31)
          have H' := ak H; clear H
          go_wp2_with (refine gB Tryz.func209 (iV.calls A28.out) ?_; intro w32 hb; replace HB := bs HB hb; clear hb)
          go_roundg k2
          case measure => exact kl
          case rel => exact ⟨_, _, rs, rs, H', ⟨kl⟩, ⟨ul HB.out⟩⟩
         ·
          have abP : decide (0 < fF) = false := decide_eq_false c29
          clear c29
          replace H := nn H; obtain ⟨c33, H⟩ := H
          have OW := eq_true c33
          have XA := decide_eq_true c33
          try have aCB : (9223372036854775807 < fG.size + aiC.size) = False := eq_false (Nat.not_lt.2 c33)
          have H' := ak H; clear H
          go_wp2_with (refine gB Tryz.func209 (iV.calls A28.out) ?_; intro w34 hb; replace HB := bs HB hb; clear hb)
          go_roundg k2
          case measure => exact kl
          case rel => exact ⟨_, _, rs, rs, H', ⟨kl⟩, ⟨ul HB.out⟩⟩
     ·
      obtain ⟨rfl, rfl⟩ := s2 H
      go_wp2
      go_ret2
      exact ⟨er, ul HB.out⟩
  ·
   obtain ⟨rfl, rfl⟩ := s2 H
   go_enter Tryz.func194, Tryz.ntmps194
   go_wp2_with (refine gA Tryz.func207 (iw.calls A3.out) ?_; intro nd)
   go_ret2
   exact ⟨er, ul HB.out⟩
def kH.l0 : Nat → ByteArray → Int → List ByteArray → Int → Int → Option (List ByteArray)
 | 0, _, _, _, _, _ => none
 | k + 1, x0, x1, x5, x6, x7 => if x7 < (x0.size : Int) then (if 0 ≤ x7 then (if (bt x0 x7) = x1 then (if 0 ≤ x6 then (if x6 ≤ x7 then (if x7 ≤ (x0.size : Int) then (if x5.length < 8796093022208 then (kH.l0 k x0 x1 (x5 ++ [x0.extract (x6 : Int).toNat (x7 : Int).toNat]) (wrap64 (x7 + 1)) (wrap64 (x7 + 1))) else (none)) else (none)) else (none)) else (none)) else (kH.l0 k x0 x1 x5 x6 (wrap64 (x7 + 1)))) else (none)) else (if 0 ≤ x6 then (if x6 ≤ (x0.size : Int) then (if x5.length < 8796093022208 then (some (x5 ++ [x0.extract (x6 : Int).toNat x0.size])) else (none)) else (none)) else (none))
def kH.f (k : Nat) (a0 : ByteArray) (a1 : Int) : Option (List ByteArray) := kH.l0 k a0 a1 (([] : List ByteArray)) 0 0
theorem kH.calls {k : Nat} {a0 : ByteArray} {a1 : Int} {r : List ByteArray} {w : World} (h : kH.f k a0 a1 = some r) :
  Calls Tryz.prog 217 #[.string a0, .int .u8 a1] w fun e w' => ∃ rY : Value, e = .returned (rY) ∧ Kd.R Kd.string 9 w' w.heap.size (fun _ => True) rY r ∧ Below w.heap.size w w' := by
 have HB := ak (Below.refl w.heap.size w)
 unfold kH.f at h; have H := h
 clear h
 obtain ⟨aGq, akO⟩ := nm ([] : List ByteArray)
 rw [← akO.out] at H
 have H' := ak H; clear H
 go_enter Tryz.func217, Tryz.ntmps217
 go_wp2_with (refine F8 8 Kd.string 9 akO ?_; intro aGr w3 TU hb; have atp := ak (Kd.aG TU (aj (ul HB.out))); replace HB := bs HB hb; clear hb TU)
 go_loopg [5, 6, 7] k (fun kq v5 v6 v7 w' => ∃ (fF : List ByteArray) (jW : Int) (tV : Int), v6 = .int .i64 jW ∧ v7 = .int .i64 tV ∧ ah (kH.l0 kq a0 a1 fF jW tV = some r) ∧ ah (kq ≤ k) ∧ ah (Kd.R Kd.string 9 w' w.heap.size (fun _ => True) v5 fF) ∧ ah (Below w.heap.size w w'))
 case atStart => exact ⟨_, _, _, rs, rs, H', ⟨Nat.le_refl _⟩, ⟨ur atp.out⟩, ⟨ul HB.out⟩⟩
 case round =>
  clear H'
  obtain ⟨fF, jW, tV, rfl, rfl, HA, yB, rE, HB⟩ := hrel
  cases gk with
  | zero => exact zz HA.out
  | succ k1 =>
   obtain ⟨H⟩ := HA
   simp only [kH.l0] at H
   replace H := sd H
   rcases H with ⟨nR, H⟩ | ⟨nR, H⟩
   ·
    replace H := oN H; obtain ⟨oJ, H⟩ := H; replace H := sq H
    rcases H with ⟨uj, DU, H⟩ | ⟨c8, uj, DU, H⟩
    ·
     replace H := Ba H; obtain ⟨zu, Gn, H⟩ := H; replace H := Ba H; obtain ⟨pF, uI, H⟩ := H; replace H := Ba H; obtain ⟨vV, Fh, H⟩ := H; replace H := nl H; obtain ⟨XM, H⟩ := H
     obtain ⟨aGs, akP⟩ := nm (fF ++ [a0.extract (jW : Int).toNat (tV : Int).toNat])
     rw [← akP.out] at H
     have H' := ak H; clear H
     obtain ⟨p7, q7, hx7⟩ := bx a0 tV
     go_wp2_with (at_builtin; refine aP 20 25 Kd.string 23 9 (.string ⟨#[]⟩) 16 Tryz.underlying23 info9 HB (ur rE.out) akP (by have := XM.out; omega) ?_; intro aGt w13 ho hb hg hat; have atq := ak (ho); replace HB := ak (hb); clear ho hb hg hat rE)
     go_roundg k1
     case measure => exact kl
     case rel => exact ⟨_, _, _, rs, rs, H', ⟨kl⟩, ⟨ur atq.out⟩, ⟨ul HB.out⟩⟩
    ·
     have H' := ak H; clear H
     obtain ⟨p7, q7, hx7⟩ := bx a0 tV
     go_wp2
     go_roundg k1
     case measure => exact kl
     case rel => exact ⟨_, _, _, rs, rs, H', ⟨kl⟩, ⟨ur rE.out⟩, ⟨ul HB.out⟩⟩
   ·
    replace H := Ba H; obtain ⟨rQ, xO, H⟩ := H; replace H := Ba H; obtain ⟨xq, Gi, H⟩ := H; replace H := nl H; obtain ⟨afb, H⟩ := H
    obtain ⟨aGu, akQ⟩ := nm (fF ++ [a0.extract (jW : Int).toNat a0.size])
    rw [← akQ.out] at H
    obtain rfl := s1 H
    go_wp2_with (at_builtin; refine aP 29 33 Kd.string 23 9 (.string ⟨#[]⟩) 16 Tryz.underlying23 info9 HB (ur rE.out) akQ (by have := afb.out; omega) ?_; intro aGv w17 ho hb hg hat; have atr := ak (ho); replace HB := ak (hb); clear ho hb hg hat rE)
    go_ret
    exact ⟨_, er, ur atr.out, ul HB.out⟩
def iW.l0 : Nat → ByteArray → List ByteArray → Int → Option (List ByteArray × Bool)
 | 0, _, _, _ => none
 | k + 1, x0, x4, x5 => if x5 < (x4.length : Int) then (if 0 ≤ x5 then (if ((qg ByteArray.empty x4 x5).size : Int) > 40 then (some ((([] : List ByteArray)), false)) else ((aQ.f k (qg ByteArray.empty x4 x5)).bind fun att => (if att = true then (iW.l0 k x0 x4 (wrap64 (x5 + 1))) else (some ((([] : List ByteArray)), false))))) else (none)) else (some (x4, decide ((x0.size : Int) ≤ 300)))
def iW.f (k : Nat) (a0 : ByteArray) : Option (List ByteArray × Bool) := (kH.f k a0 10).bind fun NT => (iW.l0 k a0 NT 0)
theorem iW.calls {k : Nat} {a0 : ByteArray} {r1 : List ByteArray} {r2 : Bool} {w : World} (h : iW.f k a0 = some (r1, r2)) :
  Calls Tryz.prog 210 #[.string a0] w fun e w' => ∃ rY : Value, e = .returned (.tuple #[rY, .bool r2]) ∧ Kd.R Kd.string 9 w' w.heap.size (fun _ => True) rY r1 ∧ Below w.heap.size w w' := by
 have HB := ak (Below.refl w.heap.size w)
 unfold iW.f at h; have H := h
 clear h
 replace H := bd H; obtain ⟨NT, A2, H⟩ := H
 have H' := ak H; clear H
 go_enter Tryz.func210, Tryz.ntmps210
 go_wp2_with (refine gV Tryz.func217 (kH.calls A2.out) ?_; rintro azJ w3 ⟨ho0, hb⟩; have atu := ak (Kd.aG ho0 (aj (ul HB.out))); replace HB := bs HB hb; clear hb; (try clear ho0))
 go_loopg [5] k (fun kq v5 w' => ∃ (fF : Int), v5 = .int .i64 fF ∧ ah (iW.l0 kq a0 NT fF = some (r1, r2)) ∧ ah (kq ≤ k) ∧ ah (Kd.R Kd.string 9 w' w.heap.size (fun _ => True) azJ NT) ∧ ah (Below w.heap.size w w'))
 case atStart => exact ⟨_, rs, H', ⟨Nat.le_refl _⟩, ⟨ur atu.out⟩, ⟨ul HB.out⟩⟩
 case round =>
  clear H'
  obtain ⟨fF, rfl, HA, yB, iY, HB⟩ := hrel
  cases gk with
  | zero => exact zz HA.out
  | succ k1 =>
   obtain ⟨H⟩ := HA
   simp only [iW.l0] at H
   replace H := sd H
   rcases H with ⟨rC, H⟩ | ⟨rC, H⟩
   ·
    replace H := oN H; obtain ⟨nR, H⟩ := H; replace H := sp H
    rcases H with ⟨c6, H⟩ | ⟨c6, H⟩
    ·
     have oJ : decide (40 < ((qg ByteArray.empty NT fF).size : Int)) = true := decide_eq_true c6
     have yT : decide (40 < (qg ByteArray.empty NT fF).size) = true := decide_eq_true (by omega)
     clear c6
     obtain ⟨aGw, akR⟩ := nm ([] : List ByteArray)
     rw [← akR.out] at H
     obtain ⟨rfl, rfl⟩ := s2 H
     obtain ⟨Ao7, co7, eo7⟩ := Kd.aX iY.out
     subst eo7
     have Q5 := zi fF
     have Q7 := zj fF NT.length
     obtain ⟨abQ, afc, abR⟩ := Kd.jI (Kd.au iY.out).2.2 fF Q5 Q7
     cases afc
     replace Q5 := eq_true Q5
     replace Q7 := eq_true Q7
     go_wp2_with (refine F8 28 Kd.string 9 akR ?_; intro aGx w8 ho9 hb; have atv := ak (Kd.aG (Kd.fK ho9 (Kd.jH (ur iY.out))) (aj (ul HB.out))); replace iY := ak (Kd.fA (ur iY.out) (Kd.eH ho9) hb); replace HB := bs HB hb; clear hb ho9)
     go_ret2
     exact ⟨_, er, ur (Kd.aY atv.out (fun _ hk => trivial)), ul HB.out⟩
    ·
     have oJ : decide (40 < ((qg ByteArray.empty NT fF).size : Int)) = false := decide_eq_false c6
     have yT : decide (40 < (qg ByteArray.empty NT fF).size) = false := decide_eq_false (by omega)
     clear c6
     replace H := bd H; obtain ⟨att, Xa, H⟩ := H; replace H := sb H
     rcases H with ⟨rfl, H⟩ | ⟨rfl, H⟩
     ·
      have H' := ak H; clear H
      obtain ⟨I4, Ie, YS⟩ := Kd.aX iY.out
      subst YS
      have Q5 := zi fF
      have Q7 := zj fF NT.length
      obtain ⟨abQ, afc, abR⟩ := Kd.jI (Kd.au iY.out).2.2 fF Q5 Q7
      cases afc
      replace Q5 := eq_true Q5
      replace Q7 := eq_true Q7
      have Zv := zi fF
      have Zw := zj fF NT.length
      obtain ⟨afd, aop, aiD⟩ := Kd.jI (Kd.au iY.out).2.2 fF Zv Zw
      obtain rfl : abQ = afd := (by injection aop)
      replace Zv := eq_true Zv
      replace Zw := eq_true Zw
      go_wp2_with (go_at_call 159; refine mA (aQ.calls Xa.out) ?_; intro nd)
      go_roundg k1
      case measure => exact kl
      case rel => exact ⟨_, rs, H', ⟨kl⟩, ⟨ur iY.out⟩, ⟨ul HB.out⟩⟩
     ·
      obtain ⟨aGy, akS⟩ := nm ([] : List ByteArray)
      rw [← akS.out] at H
      obtain ⟨rfl, rfl⟩ := s2 H
      obtain ⟨U4, Ii, QB⟩ := Kd.aX iY.out
      subst QB
      have Q5 := zi fF
      have Q7 := zj fF NT.length
      obtain ⟨abQ, afc, abR⟩ := Kd.jI (Kd.au iY.out).2.2 fF Q5 Q7
      cases afc
      replace Q5 := eq_true Q5
      replace Q7 := eq_true Q7
      have Zv := zi fF
      have Zw := zj fF NT.length
      obtain ⟨afd, aop, aiD⟩ := Kd.jI (Kd.au iY.out).2.2 fF Zv Zw
      obtain rfl : abQ = afd := (by injection aop)
      replace Zv := eq_true Zv
      replace Zw := eq_true Zw
      go_wp2_with (first | (go_at_call 159; refine mA (aQ.calls Xa.out) ?_; intro nd) | (refine F8 28 Kd.string 9 akS ?_; intro aGz Tc Px hb; have atw := ak (Kd.aG (Kd.fK Px (Kd.jH (ur iY.out))) (aj (ul HB.out))); replace iY := ak (Kd.fA (ur iY.out) (Kd.eH Px) hb); replace HB := bs HB hb; clear hb Px))
      go_ret2
      exact ⟨_, er, ur (Kd.aY atw.out (fun _ hk => trivial)), ul HB.out⟩
   ·
    obtain ⟨rfl, rfl⟩ := s2 H
    obtain ⟨adl, adn, Zx⟩ := Kd.aX iY.out
    subst Zx
    go_wp2
    go_ret2
    exact ⟨_, er, ur iY.out, ul HB.out⟩
def nI.f (a0 : Int) (a1 : Bool) : Option (ByteArray) := if a0 ≥ 33 then (if a0 ≤ 126 then (if a0 = 61 then (if a0 = 32 then (if a1 = true then ((mg.f a0).bind fun atx => (some atx)) else (some (strOfNums (([a0] : List Int))))) else ((mg.f a0).bind fun aty => (some aty))) else (some (strOfNums (([a0] : List Int))))) else (if a0 = 32 then (if a1 = true then ((mg.f a0).bind fun atz => (some atz)) else (some (strOfNums (([a0] : List Int))))) else ((mg.f a0).bind fun atA => (some atA)))) else (if a0 = 32 then (if a1 = true then ((mg.f a0).bind fun atC => (some atC)) else (some (strOfNums (([a0] : List Int))))) else ((mg.f a0).bind fun atD => (some atD)))
theorem nI.calls {a0 : Int} {a1 : Bool} {r : ByteArray} {w : World} (h : nI.f a0 a1 = some r) :
  Calls Tryz.prog 218 #[.int .u8 a0, .bool a1] w fun e w' => e = .returned (.string r) ∧ Below w.heap.size w w' := by
 have HB := ak (Below.refl w.heap.size w)
 unfold nI.f at h; have H := h
 clear h
 replace H := sp H
 rcases H with ⟨c3, H⟩ | ⟨c3, H⟩
 ·
  have iP : decide (33 ≤ a0) = true := decide_eq_true c3
  clear c3
  replace H := sd H
  rcases H with ⟨rC, H⟩ | ⟨rC, H⟩
  ·
   replace H := sq H
   rcases H with ⟨nR, Kv, H⟩ | ⟨c5, nR, Kv, H⟩
   ·
    replace H := sq H
    rcases H with ⟨oJ, yT, H⟩ | ⟨c6, oJ, yT, H⟩
    ·
     replace H := sb H
     rcases H with ⟨rfl, H⟩ | ⟨rfl, H⟩
     ·
      replace H := bd H; obtain ⟨atx, A8, H⟩ := H
      obtain rfl := s1 H
      go_enter Tryz.func218, Tryz.ntmps218
      go_wp2_with (refine gA Tryz.func221 (mg.calls A8.out) ?_; intro nd)
      go_ret
      exact ⟨er, ul HB.out⟩
     ·
      obtain ⟨aGA, akT⟩ := nm ([a0] : List Int)
      rw [← akT.out] at H
      obtain rfl := s1 H
      go_enter Tryz.func218, Tryz.ntmps218
      go_wp2_with (refine SX 24 (Kd.int .u8) 5 [.int .u8 a0] akT (dK.one (show Kd.M (Kd.int .u8) _ _ _ a0 [.int .u8 a0] from rfl) (dK.none _ _)) ?_; intro aGB w9 PE hb; have atE := ak (Kd.aG PE (aj (ul HB.out))); replace HB := bs HB hb; clear hb PE; have atj := r_ (P := Tryz.prog) Tryz.underlying22 Tryz.underlying5 Tryz.underlying9 (Kd.wI atE.out))
      go_ret
      exact ⟨er, ul HB.out⟩
    ·
     replace H := bd H; obtain ⟨aty, A12, H⟩ := H
     obtain rfl := s1 H
     go_enter Tryz.func218, Tryz.ntmps218
     go_wp2_with (refine gA Tryz.func221 (mg.calls A12.out) ?_; intro nd)
     go_ret
     exact ⟨er, ul HB.out⟩
   ·
    obtain ⟨aGC, akU⟩ := nm ([a0] : List Int)
    rw [← akU.out] at H
    obtain rfl := s1 H
    go_enter Tryz.func218, Tryz.ntmps218
    go_wp2_with (refine SX 24 (Kd.int .u8) 5 [.int .u8 a0] akU (dK.one (show Kd.M (Kd.int .u8) _ _ _ a0 [.int .u8 a0] from rfl) (dK.none _ _)) ?_; intro aGD w13 ae_ hb; have atF := ak (Kd.aG ae_ (aj (ul HB.out))); replace HB := bs HB hb; clear hb ae_; have atm := r_ (P := Tryz.prog) Tryz.underlying22 Tryz.underlying5 Tryz.underlying9 (Kd.wI atF.out))
    go_ret
    exact ⟨er, ul HB.out⟩
  ·
   replace H := sq H
   rcases H with ⟨AP, Ko, H⟩ | ⟨c16, AP, Ko, H⟩
   ·
    replace H := sb H
    rcases H with ⟨rfl, H⟩ | ⟨rfl, H⟩
    ·
     replace H := bd H; obtain ⟨atz, A18, H⟩ := H
     obtain rfl := s1 H
     go_enter Tryz.func218, Tryz.ntmps218
     go_wp2_with (refine gA Tryz.func221 (mg.calls A18.out) ?_; intro nd)
     go_ret
     exact ⟨er, ul HB.out⟩
    ·
     obtain ⟨aGE, akV⟩ := nm ([a0] : List Int)
     rw [← akV.out] at H
     obtain rfl := s1 H
     go_enter Tryz.func218, Tryz.ntmps218
     go_wp2_with (refine SX 24 (Kd.int .u8) 5 [.int .u8 a0] akV (dK.one (show Kd.M (Kd.int .u8) _ _ _ a0 [.int .u8 a0] from rfl) (dK.none _ _)) ?_; intro aGF YM adf hb; have atG := ak (Kd.aG adf (aj (ul HB.out))); replace HB := bs HB hb; clear hb adf; have aCC := r_ (P := Tryz.prog) Tryz.underlying22 Tryz.underlying5 Tryz.underlying9 (Kd.wI atG.out))
     go_ret
     exact ⟨er, ul HB.out⟩
   ·
    replace H := bd H; obtain ⟨atA, A22, H⟩ := H
    obtain rfl := s1 H
    go_enter Tryz.func218, Tryz.ntmps218
    go_wp2_with (refine gA Tryz.func221 (mg.calls A22.out) ?_; intro nd)
    go_ret
    exact ⟨er, ul HB.out⟩
 ·
  have iP : decide (33 ≤ a0) = false := decide_eq_false c3
  clear c3
  replace H := sq H
  rcases H with ⟨BI, OY, H⟩ | ⟨c23, BI, OY, H⟩
  ·
   replace H := sb H
   rcases H with ⟨rfl, H⟩ | ⟨rfl, H⟩
   ·
    replace H := bd H; obtain ⟨atC, A25, H⟩ := H
    obtain rfl := s1 H
    go_enter Tryz.func218, Tryz.ntmps218
    go_wp2_with (refine gA Tryz.func221 (mg.calls A25.out) ?_; intro nd)
    go_ret
    exact ⟨er, ul HB.out⟩
   ·
    obtain ⟨aGG, akW⟩ := nm ([a0] : List Int)
    rw [← akW.out] at H
    obtain rfl := s1 H
    go_enter Tryz.func218, Tryz.ntmps218
    go_wp2_with (refine SX 24 (Kd.int .u8) 5 [.int .u8 a0] akW (dK.one (show Kd.M (Kd.int .u8) _ _ _ a0 [.int .u8 a0] from rfl) (dK.none _ _)) ?_; intro aGH w26 atH hb; have atI := ak (Kd.aG atH (aj (ul HB.out))); replace HB := bs HB hb; clear hb atH; have aCD := r_ (P := Tryz.prog) Tryz.underlying22 Tryz.underlying5 Tryz.underlying9 (Kd.wI atI.out))
    go_ret
    exact ⟨er, ul HB.out⟩
  ·
   replace H := bd H; obtain ⟨atD, A29, H⟩ := H
   obtain rfl := s1 H
   go_enter Tryz.func218, Tryz.ntmps218
   go_wp2_with (refine gA Tryz.func221 (mg.calls A29.out) ?_; intro nd)
   go_ret
   exact ⟨er, ul HB.out⟩
def bG.l0 : Nat → ByteArray → List ByteArray → ByteArray → Int → Option (List ByteArray × Bool)
 | 0, _, _, _, _ => none
 | k + 1, x0, x4, x5, x6 => if x6 < (x0.size : Int) then (if 0 ≤ x6 then (if (bt x0 x6) = 10 then (if x4.length < 8796093022208 then (bG.l0 k x0 (x4 ++ [x5]) (⟨#[]⟩ : ByteArray) (wrap64 (x6 + 1))) else (none)) else (if (wrap64 (x6 + 1)) = (x0.size : Int) then ((nI.f (bt x0 x6) true).bind fun PG => (if (wrap64 ((x5.size : Int) + (PG.size : Int))) > 39 then (if x5.size + 1 ≤ 9223372036854775807 then (if x4.length < 8796093022208 then (if 0 + PG.size ≤ 9223372036854775807 then (bG.l0 k x0 (x4 ++ [x5 ++ (⟨#[61]⟩ : ByteArray)]) ((⟨#[]⟩ : ByteArray) ++ PG) (wrap64 (x6 + 1))) else (none)) else (none)) else (none)) else (if x5.size + PG.size ≤ 9223372036854775807 then (bG.l0 k x0 x4 (x5 ++ PG) (wrap64 (x6 + 1))) else (none)))) else (if 0 ≤ (wrap64 (x6 + 1)) then (if (wrap64 (x6 + 1)) < (x0.size : Int) then ((nI.f (bt x0 x6) ((bt x0 (wrap64 (x6 + 1))) == 10)).bind fun FX => (if (wrap64 ((x5.size : Int) + (FX.size : Int))) > 39 then (if x5.size + 1 ≤ 9223372036854775807 then (if x4.length < 8796093022208 then (if 0 + FX.size ≤ 9223372036854775807 then (bG.l0 k x0 (x4 ++ [x5 ++ (⟨#[61]⟩ : ByteArray)]) ((⟨#[]⟩ : ByteArray) ++ FX) (wrap64 (x6 + 1))) else (none)) else (none)) else (none)) else (if x5.size + FX.size ≤ 9223372036854775807 then (bG.l0 k x0 x4 (x5 ++ FX) (wrap64 (x6 + 1))) else (none)))) else (none)) else (none)))) else (none)) else (if x4.length < 8796093022208 then (some ((x4 ++ [x5]), true)) else (none))
def bG.f (k : Nat) (a0 : ByteArray) : Option (List ByteArray × Bool) := if (a0.size : Int) > 300 then (some ((([] : List ByteArray)), false)) else (bG.l0 k a0 (([] : List ByteArray)) (⟨#[]⟩ : ByteArray) 0)
theorem bG.calls {k : Nat} {a0 : ByteArray} {r1 : List ByteArray} {r2 : Bool} {w : World} (h : bG.f k a0 = some (r1, r2)) :
  Calls Tryz.prog 211 #[.string a0] w fun e w' => ∃ rY : Value, e = .returned (.tuple #[rY, .bool r2]) ∧ Kd.R Kd.string 9 w' w.heap.size (fun _ => True) rY r1 ∧ Below w.heap.size w w' := by
 have HB := ak (Below.refl w.heap.size w)
 unfold bG.f at h; have H := h
 clear h
 replace H := sp H
 rcases H with ⟨c2, H⟩ | ⟨c2, H⟩
 ·
  have o_ : decide (300 < (a0.size : Int)) = true := decide_eq_true c2
  have wu : decide (300 < a0.size) = true := decide_eq_true (by omega)
  clear c2
  obtain ⟨aGI, akX⟩ := nm ([] : List ByteArray)
  rw [← akX.out] at H
  obtain ⟨rfl, rfl⟩ := s2 H
  go_enter Tryz.func211, Tryz.ntmps211
  go_wp2_with (refine F8 11 Kd.string 9 akX ?_; intro aGJ w3 TU hb; have atJ := ak (Kd.aG TU (aj (ul HB.out))); replace HB := bs HB hb; clear hb TU)
  go_ret2
  exact ⟨_, er, ur atJ.out, ul HB.out⟩
 ·
  have o_ : decide (300 < (a0.size : Int)) = false := decide_eq_false c2
  have wu : decide (300 < a0.size) = false := decide_eq_false (by omega)
  clear c2
  obtain ⟨aGK, akY⟩ := nm ([] : List ByteArray)
  rw [← akY.out] at H
  have H' := ak H; clear H
  go_enter Tryz.func211, Tryz.ntmps211
  go_wp2_with (refine F8 12 Kd.string 9 akY ?_; intro aGL w5 YI hb; have atK := ak (Kd.aG YI (aj (ul HB.out))); replace HB := bs HB hb; clear hb YI)
  go_loopg [4, 5, 6] k (fun kq v4 v5 v6 w' => ∃ (fG : List ByteArray) (fF : ByteArray) (jW : Int), v5 = .string fF ∧ v6 = .int .i64 jW ∧ ah (bG.l0 kq a0 fG fF jW = some (r1, r2)) ∧ ah (kq ≤ k) ∧ ah (Kd.R Kd.string 9 w' w.heap.size (fun _ => True) v4 fG) ∧ ah (Below w.heap.size w w'))
  case atStart => exact ⟨_, _, _, rs, rs, H', ⟨Nat.le_refl _⟩, ⟨ur atK.out⟩, ⟨ul HB.out⟩⟩
  case round =>
   clear H'
   try clear c2
   try clear o_
   try clear wu
   obtain ⟨fG, fF, jW, rfl, rfl, HA, yB, iY, HB⟩ := hrel
   cases gk with
   | zero => exact zz HA.out
   | succ k1 =>
    obtain ⟨H⟩ := HA
    simp only [bG.l0] at H
    replace H := sd H
    rcases H with ⟨sH, H⟩ | ⟨sH, H⟩
    ·
     replace H := oN H; obtain ⟨uj, H⟩ := H; replace H := sq H
     rcases H with ⟨pF, uI, H⟩ | ⟨c10, pF, uI, H⟩
     ·
      replace H := nl H; obtain ⟨QV, H⟩ := H
      obtain ⟨aGM, akZ⟩ := nm (fG ++ [fF])
      rw [← akZ.out] at H
      have H' := ak H; clear H
      obtain ⟨p9, q9, YP⟩ := bx a0 jW
      go_wp2_with (at_builtin; refine aP 23 25 Kd.string 23 9 (.string ⟨#[]⟩) 16 Tryz.underlying23 info9 HB (ur iY.out) akZ (by have := QV.out; omega) ?_; intro aGN w12 ho hb hg hat; have atL := ak (ho); replace HB := ak (hb); clear ho hb hg hat iY)
      go_roundg k1
      case measure => exact kl
      case rel => exact ⟨_, _, _, rs, rs, H', ⟨kl⟩, ⟨ur atL.out⟩, ⟨ul HB.out⟩⟩
     ·
      replace H := sq H
      rcases H with ⟨rQ, xO, H⟩ | ⟨c14, rQ, xO, H⟩
      ·
       replace H := bd H; obtain ⟨PG, A15, H⟩ := H; replace H := sp H
       rcases H with ⟨c16, H⟩ | ⟨c16, H⟩
       ·
        have AP : decide (39 < (wrap64 ((fF.size : Int) + (PG.size : Int)))) = true := decide_eq_true c16
        replace H := nn H; obtain ⟨c17, H⟩ := H
        (try (have Ko : decide (39 < ((fF.size : Int) + (PG.size : Int))) = true := decide_eq_true (by have h_ := c16; have h2_ := c17; unfold wrap64 at h_; omega)))
        clear c16
        have uQ := eq_true c17
        have OQ := decide_eq_true c17
        try have atM : (9223372036854775807 < fF.size + 1) = False := eq_false (Nat.not_lt.2 c17)
        replace H := nl H; obtain ⟨atN, H⟩ := H
        obtain ⟨aGO, ak0⟩ := nm (fG ++ [fF ++ (⟨#[61]⟩ : ByteArray)])
        rw [← ak0.out] at H
        replace H := nn H; obtain ⟨c19, H⟩ := H
        have BD := eq_true c19
        have Fb := decide_eq_true c19
        try have ajM : (9223372036854775807 < 0 + PG.size) = False := eq_false (Nat.not_lt.2 c19)
        have H' := ak H; clear H
        obtain ⟨p9, q9, YP⟩ := bx a0 jW
        try go_wp2
        replace iY := ak (Kd.jX iY.out)
        replace HB := ak (iy HB.out)
        obtain ⟨p13, q13, Y3⟩ := bx a0 jW
        refine ro [15] [0, 1, 3, 4, 5, 6, 7, 8, 9, 10, 11, 12, 13, 14, 2, 15, 16] (fun w' => True) trivial ?_
        generalize wr.drew = w20 at iY HB ⊢
        repeat (first | refine yS ?_ | refine P_ ?_)
        refine rB Tryz.func218 (nI.calls A15.out) ?_
        intro w21 hb
        replace iY := rb iY hb
        replace HB := bs HB hb
        clear hb
        refine ⟨sx, ?_⟩
        repeat (first | refine yS ?_ | refine P_ ?_)
        refine on ?_
        try go_wp2_with (at_builtin; refine aP 49 52 Kd.string 23 9 (.string ⟨#[]⟩) 16 Tryz.underlying23 info9 HB (ur iY.out) ak0 (by have := atN.out; omega) ?_; intro aGP Y8 ho hb hg hat; have atO := ak (ho); replace HB := ak (hb); clear ho hb hg hat iY)
        go_roundg k1
        case measure => exact kl
        case rel => exact ⟨_, _, _, rs, rs, H', ⟨kl⟩, ⟨ur atO.out⟩, ⟨ul HB.out⟩⟩
       ·
        have AP : decide (39 < (wrap64 ((fF.size : Int) + (PG.size : Int)))) = false := decide_eq_false c16
        replace H := nn H; obtain ⟨c23, H⟩ := H
        (try (have Ko : decide (39 < ((fF.size : Int) + (PG.size : Int))) = false := decide_eq_false (by have h_ := c16; have h2_ := c23; unfold wrap64 at h_; omega)))
        clear c16
        have BI := eq_true c23
        have OY := decide_eq_true c23
        try have asl : (9223372036854775807 < fF.size + PG.size) = False := eq_false (Nat.not_lt.2 c23)
        have H' := ak H; clear H
        obtain ⟨p9, q9, YP⟩ := bx a0 jW
        try go_wp2
        replace iY := ak (Kd.jX iY.out)
        replace HB := ak (iy HB.out)
        obtain ⟨p13, q13, Y3⟩ := bx a0 jW
        refine ro [15] [0, 1, 3, 4, 5, 6, 7, 8, 9, 10, 11, 12, 13, 14, 2, 15, 16] (fun w' => True) trivial ?_
        generalize wr.drew = w24 at iY HB ⊢
        repeat (first | refine yS ?_ | refine P_ ?_)
        refine rB Tryz.func218 (nI.calls A15.out) ?_
        intro w25 hb
        replace iY := rb iY hb
        replace HB := bs HB hb
        clear hb
        refine ⟨sx, ?_⟩
        repeat (first | refine yS ?_ | refine P_ ?_)
        refine on ?_
        try go_wp2
        go_roundg k1
        case measure => exact kl
        case rel => exact ⟨_, _, _, rs, rs, H', ⟨kl⟩, ⟨ur iY.out⟩, ⟨ul HB.out⟩⟩
      ·
       obtain ⟨Tt, KN⟩ : ∃ j_ : Int, (wrap64 (jW + 1)) = j_ := ⟨_, rfl⟩
       replace H : (if 0 ≤ (Tt) then (if (Tt) < (a0.size : Int) then ((nI.f (bt a0 jW) ((bt a0 (Tt)) == 10)).bind fun FX => (if (wrap64 ((fF.size : Int) + (FX.size : Int))) > 39 then (if fF.size + 1 ≤ 9223372036854775807 then (if fG.length < 8796093022208 then (if 0 + FX.size ≤ 9223372036854775807 then (bG.l0 k1 a0 (fG ++ [fF ++ (⟨#[61]⟩ : ByteArray)]) ((⟨#[]⟩ : ByteArray) ++ FX) Tt) else (none)) else (none)) else (none)) else (if fF.size + FX.size ≤ 9223372036854775807 then (bG.l0 k1 a0 fG (fF ++ FX) Tt) else (none)))) else (none)) else (none)) = some (r1, r2) := by first | (rw [KN] at H; exact H) | (simp only [KN] at H ⊢; exact H)
       (try rw [KN] at rQ)
       (try rw [KN] at xO)
       have azL : (IntKind.i64.wrap (jW + 1)) = Tt := (eu _).trans KN
       replace H := oN H; obtain ⟨Gf, H⟩ := H; replace H := oN H; obtain ⟨Gg, H⟩ := H; replace H := bd H; obtain ⟨FX, A30, H⟩ := H; replace H := sp H
       rcases H with ⟨c31, H⟩ | ⟨c31, H⟩
       ·
        have aeQ : decide (39 < (wrap64 ((fF.size : Int) + (FX.size : Int)))) = true := decide_eq_true c31
        replace H := nn H; obtain ⟨c32, H⟩ := H
        (try (have aeR : decide (39 < ((fF.size : Int) + (FX.size : Int))) = true := decide_eq_true (by have h_ := c31; have h2_ := c32; unfold wrap64 at h_; omega)))
        clear c31
        have Xz := eq_true c32
        have aeI := decide_eq_true c32
        try have aCF : (9223372036854775807 < fF.size + 1) = False := eq_false (Nat.not_lt.2 c32)
        replace H := nl H; obtain ⟨atP, H⟩ := H
        obtain ⟨aGQ, ak1⟩ := nm (fG ++ [fF ++ (⟨#[61]⟩ : ByteArray)])
        rw [← ak1.out] at H
        replace H := nn H; obtain ⟨c34, H⟩ := H
        have XB := eq_true c34
        have XC := decide_eq_true c34
        try have aCG : (9223372036854775807 < 0 + FX.size) = False := eq_false (Nat.not_lt.2 c34)
        have H' := ak H; clear H
        obtain ⟨p9, q9, YP⟩ := bx a0 jW
        try go_wp2
        replace iY := ak (Kd.jX iY.out)
        replace HB := ak (iy HB.out)
        obtain ⟨p13, q13, Y3⟩ := bx a0 jW
        obtain ⟨p29, q29, hx29⟩ := bx a0 (Tt)
        refine ro [15] [0, 1, 3, 4, 5, 6, 7, 8, 9, 10, 11, 2, 12, 13, 14, 15, 16] (fun w' => True) trivial ?_
        generalize wr.drew = w35 at iY HB ⊢
        repeat refine yS ?_
        refine ld (N := some 42) (gk.trans rfl) rfl rfl (fun K hK => ?_)
        refine Ac Tryz.func218 (by kernel_rfl) rfl #[.int .u8 (bt a0 jW), .bool ((bt a0 (Tt)) == 10)] (by rfl) rfl rfl (by (try simp only [List.map_toArray, List.map_cons, List.map_nil]); first | done | (simp only [KN]; rfl) | rfl | (simp only [List.length_drop, List.length_take]; rfl)) ?_
        with_reducible refine (nI.calls A30.out).mono ?_
        rintro e w36 ⟨rfl, hb⟩
        refine ⟨_, rfl, ?_⟩
        replace iY := rb iY hb
        replace HB := bs HB hb
        try clear hb
        refine hK.out _ _ trivial ?_
        clear hK K
        refine no (a' := ?_) ?_ ?_
        rotate_left
        ·
         show Act.put _ (some 42) _ = _
         simp only [Act.put, sK, sN, l_c, eu, f_]
         rfl
        repeat refine yS ?_
        refine on ?_
        try go_wp2_with (at_builtin; refine aP 49 52 Kd.string 23 9 (.string ⟨#[]⟩) 16 Tryz.underlying23 info9 HB (ur iY.out) ak1 (by have := atP.out; omega) ?_; intro aGR w37 ho hb hg hat; have atQ := ak (ho); replace HB := ak (hb); clear ho hb hg hat iY)
        go_roundg k1
        case measure => exact kl
        case rel => exact ⟨_, _, _, rs, (by first | rfl | (simp; done) | (simp only [← KN] <;> (first | rfl | simp)) | (simp [*]; done)), H', ⟨kl⟩, ⟨ur atQ.out⟩, ⟨ul HB.out⟩⟩
       ·
        have aeQ : decide (39 < (wrap64 ((fF.size : Int) + (FX.size : Int)))) = false := decide_eq_false c31
        replace H := nn H; obtain ⟨YN, H⟩ := H
        (try (have aeR : decide (39 < ((fF.size : Int) + (FX.size : Int))) = false := decide_eq_false (by have h_ := c31; have h2_ := YN; unfold wrap64 at h_; omega)))
        clear c31
        have abS := eq_true YN
        have aCH := decide_eq_true YN
        try have aCI : (9223372036854775807 < fF.size + FX.size) = False := eq_false (Nat.not_lt.2 YN)
        have H' := ak H; clear H
        obtain ⟨p9, q9, YP⟩ := bx a0 jW
        try go_wp2
        replace iY := ak (Kd.jX iY.out)
        replace HB := ak (iy HB.out)
        obtain ⟨p13, q13, Y3⟩ := bx a0 jW
        obtain ⟨p29, q29, hx29⟩ := bx a0 (Tt)
        refine ro [15] [0, 1, 3, 4, 5, 6, 7, 8, 9, 10, 11, 2, 12, 13, 14, 15, 16] (fun w' => True) trivial ?_
        generalize wr.drew = w39 at iY HB ⊢
        repeat refine yS ?_
        refine ld (N := some 42) (gk.trans rfl) rfl rfl (fun K hK => ?_)
        refine Ac Tryz.func218 (by kernel_rfl) rfl #[.int .u8 (bt a0 jW), .bool ((bt a0 (Tt)) == 10)] (by rfl) rfl rfl (by (try simp only [List.map_toArray, List.map_cons, List.map_nil]); first | done | (simp only [KN]; rfl) | rfl | (simp only [List.length_drop, List.length_take]; rfl)) ?_
        with_reducible refine (nI.calls A30.out).mono ?_
        rintro e w40 ⟨rfl, hb⟩
        refine ⟨_, rfl, ?_⟩
        replace iY := rb iY hb
        replace HB := bs HB hb
        try clear hb
        refine hK.out _ _ trivial ?_
        clear hK K
        refine no (a' := ?_) ?_ ?_
        rotate_left
        ·
         show Act.put _ (some 42) _ = _
         simp only [Act.put, sK, sN, l_c, eu, f_]
         rfl
        repeat refine yS ?_
        refine on ?_
        try go_wp2
        go_roundg k1
        case measure => exact kl
        case rel => exact ⟨_, _, _, rs, (by first | rfl | (simp; done) | (simp only [← KN] <;> (first | rfl | simp)) | (simp [*]; done)), H', ⟨kl⟩, ⟨ur iY.out⟩, ⟨ul HB.out⟩⟩
    ·
     replace H := nl H; obtain ⟨atS, H⟩ := H
     obtain ⟨aGS, ak2⟩ := nm (fG ++ [fF])
     rw [← ak2.out] at H
     obtain ⟨rfl, rfl⟩ := s2 H
     go_wp2_with (at_builtin; refine aP 57 59 Kd.string 23 9 (.string ⟨#[]⟩) 16 Tryz.underlying23 info9 HB (ur iY.out) ak2 (by have := atS.out; omega) ?_; intro aGT w42 ho hb hg hat; have atT := ak (ho); replace HB := ak (hb); clear ho hb hg hat iY)
     go_ret2
     exact ⟨_, er, ur atT.out, ul HB.out⟩
def kS.l0 : Nat → ByteArray → Int → List ByteArray → Option (List ByteArray)
 | 0, _, _, _ => none
 | k + 1, x0, x1, x5 => if (x0.size : Int) > x1 then (if 0 ≤ x1 then (if x1 ≤ (x0.size : Int) then (if x5.length < 8796093022208 then (kS.l0 k (x0.extract (x1 : Int).toNat x0.size) x1 (x5 ++ [x0.extract 0 (x1 : Int).toNat])) else (none)) else (none)) else (none)) else (if x5.length < 8796093022208 then (some (x5 ++ [x0])) else (none))
def kS.f (k : Nat) (a0 : ByteArray) (a1 : Int) : Option (List ByteArray) := kS.l0 k a0 a1 (([] : List ByteArray))
theorem kS.calls {k : Nat} {a0 : ByteArray} {a1 : Int} {r : List ByteArray} {w : World} (h : kS.f k a0 a1 = some r) :
  Calls Tryz.prog 219 #[.string a0, .int .i64 a1] w fun e w' => ∃ rY : Value, e = .returned (rY) ∧ Kd.R Kd.string 9 w' w.heap.size (fun _ => True) rY r ∧ Below w.heap.size w w' := by
 have HB := ak (Below.refl w.heap.size w)
 unfold kS.f at h; have H := h
 clear h
 obtain ⟨aGU, ak3⟩ := nm ([] : List ByteArray)
 rw [← ak3.out] at H
 have H' := ak H; clear H
 go_enter Tryz.func219, Tryz.ntmps219
 go_wp2_with (refine F8 6 Kd.string 9 ak3 ?_; intro aGV w3 TU hb; have atU := ak (Kd.aG TU (aj (ul HB.out))); replace HB := bs HB hb; clear hb TU)
 go_loopg [0, 5] k (fun kq v0 v5 w' => ∃ (sJ : ByteArray) (fF : List ByteArray), v0 = .string sJ ∧ ah (kS.l0 kq sJ a1 fF = some r) ∧ ah (kq ≤ k) ∧ ah (Kd.R Kd.string 9 w' w.heap.size (fun _ => True) v5 fF) ∧ ah (Below w.heap.size w w'))
 case atStart => exact ⟨_, _, rs, H', ⟨Nat.le_refl _⟩, ⟨ur atU.out⟩, ⟨ul HB.out⟩⟩
 case round =>
  clear H'
  obtain ⟨sJ, fF, rfl, HA, yB, rE, HB⟩ := hrel
  cases gk with
  | zero => exact zz HA.out
  | succ k1 =>
   obtain ⟨H⟩ := HA
   simp only [kS.l0] at H
   replace H := sp H
   rcases H with ⟨c5, H⟩ | ⟨c5, H⟩
   ·
    have nR : decide (a1 < (sJ.size : Int)) = true := decide_eq_true c5
    clear c5
    replace H := Ba H; obtain ⟨oJ, yT, H⟩ := H; replace H := Ba H; obtain ⟨sH, Nw, H⟩ := H; replace H := nl H; obtain ⟨amU, H⟩ := H
    obtain ⟨aGW, ak4⟩ := nm (fF ++ [sJ.extract 0 (a1 : Int).toNat])
    rw [← ak4.out] at H
    have zu := eq_true (of_decide_eq_true (by assumption) : 0 ≤ a1)
    have pF := eq_true (of_decide_eq_true (by assumption) : a1 ≤ (sJ.size : Int))
    have H' := ak H; clear H
    go_wp2_with (at_builtin; refine aP 11 15 Kd.string 23 9 (.string ⟨#[]⟩) 16 Tryz.underlying23 info9 HB (ur rE.out) ak4 (by have := amU.out; omega) ?_; intro aGX U2 ho hb hg hat; have atV := ak (ho); replace HB := ak (hb); clear ho hb hg hat rE)
    go_roundg k1
    case measure => exact kl
    case rel => exact ⟨_, _, rs, H', ⟨kl⟩, ⟨ur atV.out⟩, ⟨ul HB.out⟩⟩
   ·
    have nR : decide (a1 < (sJ.size : Int)) = false := decide_eq_false c5
    clear c5
    replace H := nl H; obtain ⟨XM, H⟩ := H
    obtain ⟨aGY, ak5⟩ := nm (fF ++ [sJ])
    rw [← ak5.out] at H
    obtain rfl := s1 H
    go_wp2_with (at_builtin; refine aP 20 22 Kd.string 23 9 (.string ⟨#[]⟩) 16 Tryz.underlying23 info9 HB (ur rE.out) ak5 (by have := XM.out; omega) ?_; intro aGZ w13 ho hb hg hat; have atW := ak (ho); replace HB := ak (hb); clear ho hb hg hat rE)
    go_ret
    exact ⟨_, er, ur atW.out, ul HB.out⟩
def qH.f  : Option (ByteArray) := some (⟨#[65, 66, 67, 68, 69, 70, 71, 72, 73, 74, 75, 76, 77, 78, 79, 80, 81, 82, 83, 84, 85, 86, 87, 88, 89, 90, 97, 98, 99, 100, 101, 102, 103, 104, 105, 106, 107, 108, 109, 110, 111, 112, 113, 114, 115, 116, 117, 118, 119, 120, 121, 122, 48, 49, 50, 51, 52, 53, 54, 55, 56, 57, 43, 47]⟩ : ByteArray)
theorem qH.calls  (r : ByteArray) (w : World) (h : qH.f  = some r) :
  Calls Tryz.prog 222 #[] w fun e w' => e = .returned (.string r) ∧ dW w w' := by
 unfold qH.f at h; have H := h
 clear h
 obtain rfl := s1 H
 go_enter Tryz.func222, Tryz.ntmps222
 go_wp2
 go_ret
 exact ⟨rs, dn⟩
mutual
def bZ.l0 : Nat → ByteArray → ByteArray → Int → Option (ByteArray)
 | 0, _, _, _ => none
 | k + 1, x0, x3, x4 => if x4 < (x0.size : Int) then (if 0 ≤ x4 then (if (wrap64 (x4 + 1)) < (x0.size : Int) then (if 0 ≤ (wrap64 (x4 + 1)) then (bZ.j1 k x0 x3 x4 (wrap64 ((wrap64 ((wrap64 (bt x0 x4)) * 65536)) + (wrap64 ((wrap64 (bt x0 (wrap64 (x4 + 1)))) * 256))))) else (none)) else (bZ.j1 k x0 x3 x4 (wrap64 ((wrap64 (bt x0 x4)) * 65536)))) else (none)) else (some x3)
def bZ.j1 : Nat → ByteArray → ByteArray → Int → Int → Option (ByteArray)
 | 0, _, _, _, _ => none
 | k + 1, x0, x3, x4, x5 => if (wrap64 (x4 + 2)) < (x0.size : Int) then (if 0 ≤ (wrap64 (x4 + 2)) then (bZ.j2 k x0 x3 x4 (wrap64 (x5 + (wrap64 (bt x0 (wrap64 (x4 + 2))))))) else (none)) else (bZ.j2 k x0 x3 x4 x5)
def bZ.j2 : Nat → ByteArray → ByteArray → Int → Int → Option (ByteArray)
 | 0, _, _, _, _ => none
 | k + 1, x0, x3, x4, x5 => bZ.l1 k x0 x3 x4 x5 0
def bZ.l1 : Nat → ByteArray → ByteArray → Int → Int → Int → Option (ByteArray)
 | 0, _, _, _, _, _ => none
 | k + 1, x0, x3, x4, x5, x6 => if x6 < 4 then (if (wrap64 (x4 + x6)) > (x0.size : Int) then (if x3.size + 1 ≤ 9223372036854775807 then (bZ.l1 k x0 (x3 ++ (⟨#[61]⟩ : ByteArray)) x4 x5 (wrap64 (x6 + 1))) else (none)) else (if 0 ≤ (wrap64 (18 - (wrap64 (6 * x6)))) then ((qH.f).bind fun Jh => (if 0 ≤ (Go.bits .and .i64 (shr .i64 x5 (wrap64 (18 - (wrap64 (6 * x6))))) 63) then (if (Go.bits .and .i64 (shr .i64 x5 (wrap64 (18 - (wrap64 (6 * x6))))) 63) ≤ (wrap64 ((Go.bits .and .i64 (shr .i64 x5 (wrap64 (18 - (wrap64 (6 * x6))))) 63) + 1)) then (if (wrap64 ((Go.bits .and .i64 (shr .i64 x5 (wrap64 (18 - (wrap64 (6 * x6))))) 63) + 1)) ≤ (Jh.size : Int) then (if x3.size + (Jh.extract ((Go.bits .and .i64 (shr .i64 x5 (wrap64 (18 - (wrap64 (6 * x6))))) 63) : Int).toNat ((wrap64 ((Go.bits .and .i64 (shr .i64 x5 (wrap64 (18 - (wrap64 (6 * x6))))) 63) + 1)) : Int).toNat).size ≤ 9223372036854775807 then (bZ.l1 k x0 (x3 ++ (Jh.extract ((Go.bits .and .i64 (shr .i64 x5 (wrap64 (18 - (wrap64 (6 * x6))))) 63) : Int).toNat ((wrap64 ((Go.bits .and .i64 (shr .i64 x5 (wrap64 (18 - (wrap64 (6 * x6))))) 63) + 1)) : Int).toNat)) x4 x5 (wrap64 (x6 + 1))) else (none)) else (none)) else (none)) else (none))) else (none))) else (bZ.l0 k x0 x3 (wrap64 (x4 + 3)))
end
def bZ.f (k : Nat) (a0 : ByteArray) : Option (ByteArray) := bZ.l0 k a0 (⟨#[]⟩ : ByteArray) 0
theorem bZ.calls {k : Nat} {a0 r : ByteArray} {w : World} (h : bZ.f k a0 = some r) :
  Calls Tryz.prog 220 #[.string a0] w fun e w' => e = .returned (.string r) ∧ dW w w' := by
 unfold bZ.f at h; have H := h
 clear h
 have H' := ak H; clear H
 go_enter Tryz.func220, Tryz.ntmps220
 go_wp2
 go_loopg [3, 4] k (fun kq v3 v4 w' => ∃ (dZ : ByteArray) (fG : Int), v3 = .string dZ ∧ v4 = .int .i64 fG ∧ ah (bZ.l0 kq a0 dZ fG = some r) ∧ ah (kq ≤ k) ∧ dW w w')
 case atStart => exact ⟨_, _, rs, rs, H', ⟨Nat.le_refl _⟩, dn⟩
 case round =>
  clear H'
  obtain ⟨dZ, fG, rfl, rfl, HA, yB, ⟨m1, rfl⟩⟩ := hrel
  cases gk with
  | zero => exact zz HA.out
  | succ k1 =>
   obtain ⟨H⟩ := HA
   simp only [bZ.l0] at H
   replace H := sd H
   rcases H with ⟨o_, H⟩ | ⟨o_, H⟩
   ·
    replace H := oN H; obtain ⟨iP, H⟩ := H
    have HC5 := ak H
    clear H
    obtain ⟨p4, q4, hx4⟩ := bx a0 fG
    go_upto_if 23 with (fail)
    go_cut [5] (fun v5 wc => ∃ (kq : Nat) (Xt : Int), v5 = .int .i64 Xt ∧ ah (bZ.j1 kq a0 dZ fG Xt = some r) ∧ ah (kq ≤ k1) ∧ dW w wc)
    case first =>
     have H := HC5.out
     clear HC5
     replace H := sp H
     rcases H with ⟨c6, H⟩ | ⟨c6, H⟩
     ·
      have oJ := decide_eq_true c6
      (try (have yT : decide ((fG + 1) < (a0.size : Int)) = true := decide_eq_true (by have h_ := c6; unfold wrap64 at h_; omega)))
      clear c6
      (first | rw [oJ] | (simp only [eu, f_]; rw [oJ]) | skip)
      obtain ⟨ji7, PD⟩ : ∃ j_ : Int, (wrap64 (fG + 1)) = j_ := ⟨_, rfl⟩
      replace H : (if 0 ≤ (ji7) then (bZ.j1 k1 a0 dZ fG (wrap64 ((wrap64 ((wrap64 (bt a0 fG)) * 65536)) + (wrap64 ((wrap64 (bt a0 (ji7))) * 256))))) else (none)) = some r := by first | (rw [PD] at H; exact H) | (simp only [PD] at H ⊢; exact H)
      (try rw [PD] at oJ)
      have ate : (IntKind.i64.wrap (fG + 1)) = ji7 := (eu _).trans PD
      replace H := oN H; obtain ⟨uj, H⟩ := H
      have H' := ak H; clear H
      obtain ⟨p9, q9, YP⟩ := bx a0 (ji7)
      go_wp2
      go_meet
      case rel => exact ⟨_, _, (by first | rfl | (simp; done) | (simp only [← PD] <;> (first | rfl | simp)) | (simp [*]; done)), H', ⟨kl⟩, dn⟩
     ·
      have oJ := decide_eq_false c6
      (try (have yT : decide ((fG + 1) < (a0.size : Int)) = false := decide_eq_false (by have h_ := c6; unfold wrap64 at h_; omega)))
      clear c6
      (first | rw [oJ] | (simp only [eu, f_]; rw [oJ]) | skip)
      have H' := ak H; clear H
      go_wp2
      go_meet
      case rel => exact ⟨_, _, rs, H', ⟨kl⟩, dn⟩
    case rest =>
     clear HC5
     try clear o_
     try clear iP
     try clear p4
     try clear q4
     try clear hx4
     try clear p4
     try clear q4
     obtain ⟨kq, Xt, rfl, HA, HJ4, ⟨mc4, rfl⟩⟩ := hcut
     cases kq with
     | zero => exact zz HA.out
     | succ kj4 =>
      obtain ⟨H⟩ := HA
      simp only [bZ.j1] at H
      have aoq := ak H
      clear H
      go_upto_if 36 with (fail)
      go_cut [5] (fun v5 wc => ∃ (kq : Nat) (Gu : Int), v5 = .int .i64 Gu ∧ ah (bZ.j2 kq a0 dZ fG Gu = some r) ∧ ah (kq ≤ kj4) ∧ dW w wc)
      case first =>
       have H := aoq.out
       clear aoq
       replace H := sp H
       rcases H with ⟨c11, H⟩ | ⟨c11, H⟩
       ·
        have vV := decide_eq_true c11
        (try (have Fh : decide ((fG + 2) < (a0.size : Int)) = true := decide_eq_true (by have h_ := c11; unfold wrap64 at h_; omega)))
        clear c11
        (first | rw [vV] | (simp only [eu, f_]; rw [vV]) | skip)
        obtain ⟨PI, Fq⟩ : ∃ j_ : Int, (wrap64 (fG + 2)) = j_ := ⟨_, rfl⟩
        replace H : (if 0 ≤ (PI) then (bZ.j2 kj4 a0 dZ fG (wrap64 (Xt + (wrap64 (bt a0 (PI)))))) else (none)) = some r := by first | (rw [Fq] at H; exact H) | (simp only [Fq] at H ⊢; exact H)
        (try rw [Fq] at vV)
        have aor : (IntKind.i64.wrap (fG + 2)) = PI := (eu _).trans Fq
        replace H := oN H; obtain ⟨xk, H⟩ := H
        have H' := ak H; clear H
        obtain ⟨p14, q14, anh⟩ := bx a0 (PI)
        go_wp2
        go_meet
        case rel => exact ⟨_, _, (by first | rfl | (simp; done) | (simp only [← Fq] <;> (first | rfl | simp)) | (simp [*]; done)), H', ⟨kl⟩, dn⟩
       ·
        have vV := decide_eq_false c11
        (try (have Fh : decide ((fG + 2) < (a0.size : Int)) = false := decide_eq_false (by have h_ := c11; unfold wrap64 at h_; omega)))
        clear c11
        (first | rw [vV] | (simp only [eu, f_]; rw [vV]) | skip)
        have H' := ak H; clear H
        go_wp2
        go_meet
        case rel => exact ⟨_, _, rs, H', ⟨kl⟩, dn⟩
      case rest =>
       clear aoq
       try clear o_
       try clear iP
       try clear p4
       try clear q4
       try clear hx4
       try clear p4
       try clear q4
       obtain ⟨kq, Gu, rfl, HA, HJ9, ⟨mc9, rfl⟩⟩ := hcut
       cases kq with
       | zero => exact zz HA.out
       | succ kj9 =>
        obtain ⟨H⟩ := HA
        simp only [bZ.j2] at H
        have H' := ak H; clear H
        go_wp2
        go_loopg [3, 6] kj9 (fun kq v3 v6 w' => ∃ (Tv : ByteArray) (Q8 : Int), v3 = .string Tv ∧ v6 = .int .i64 Q8 ∧ ah (bZ.l1 kq a0 Tv fG Gu Q8 = some r) ∧ ah (kq ≤ kj9) ∧ dW w w')
        case atStart => exact ⟨_, _, rs, rs, H', ⟨Nat.le_refl _⟩, dn⟩
        case round =>
         clear H'
         try clear o_
         try clear iP
         try clear p4
         try clear q4
         try clear hx4
         try clear p4
         try clear q4
         obtain ⟨Tv, Q8, rfl, rfl, HA, HK4, ⟨m4, rfl⟩⟩ := hrel
         cases gk with
         | zero => exact zz HA.out
         | succ k4 =>
          obtain ⟨H⟩ := HA
          simp only [bZ.l1] at H
          replace H := sd H
          rcases H with ⟨xq, H⟩ | ⟨xq, H⟩
          ·
           replace H := sp H
           rcases H with ⟨c16, H⟩ | ⟨c16, H⟩
           ·
            have AP : decide ((a0.size : Int) < (wrap64 (fG + Q8))) = true := decide_eq_true c16
            replace H := nn H; obtain ⟨c17, H⟩ := H
            (try (have Ko : decide ((a0.size : Int) < (fG + Q8)) = true := decide_eq_true (by have h_ := c16; have h2_ := c17; unfold wrap64 at h_; omega)))
            clear c16
            have uQ := eq_true c17
            have OQ := decide_eq_true c17
            try have atM : (9223372036854775807 < Tv.size + 1) = False := eq_false (Nat.not_lt.2 c17)
            have H' := ak H; clear H
            go_wp2
            go_roundg k4
            case measure => exact kl
            case rel => exact ⟨_, _, rs, rs, H', ⟨kl⟩, dn⟩
           ·
            have AP : decide ((a0.size : Int) < (wrap64 (fG + Q8))) = false := decide_eq_false c16
            (try (have Ko : decide ((a0.size : Int) < (fG + Q8)) = false := decide_eq_false (by have h_ := c16; unfold wrap64 at h_; omega)))
            clear c16
            obtain ⟨KO, afe⟩ : ∃ j_ : Int, (wrap64 (18 - (wrap64 (6 * Q8)))) = j_ := ⟨_, rfl⟩
            replace H : (if 0 ≤ (KO) then ((qH.f).bind fun Jh => (if 0 ≤ (Go.bits .and .i64 (shr .i64 Gu (KO)) 63) then (if (Go.bits .and .i64 (shr .i64 Gu (KO)) 63) ≤ (wrap64 ((Go.bits .and .i64 (shr .i64 Gu (KO)) 63) + 1)) then (if (wrap64 ((Go.bits .and .i64 (shr .i64 Gu (KO)) 63) + 1)) ≤ (Jh.size : Int) then (if Tv.size + (Jh.extract ((Go.bits .and .i64 (shr .i64 Gu (KO)) 63) : Int).toNat ((wrap64 ((Go.bits .and .i64 (shr .i64 Gu (KO)) 63) + 1)) : Int).toNat).size ≤ 9223372036854775807 then (bZ.l1 k4 a0 (Tv ++ (Jh.extract ((Go.bits .and .i64 (shr .i64 Gu (KO)) 63) : Int).toNat ((wrap64 ((Go.bits .and .i64 (shr .i64 Gu (KO)) 63) + 1)) : Int).toNat)) fG Gu (wrap64 (Q8 + 1))) else (none)) else (none)) else (none)) else (none))) else (none)) = some r := by first | (rw [afe] at H; exact H) | (simp only [afe] at H ⊢; exact H)
            have azM : (IntKind.i64.wrap (18 - (wrap64 (6 * Q8)))) = KO := (eu _).trans afe
            replace H := Ba H; obtain ⟨BD, Fb, H⟩ := H
            obtain ⟨KP, XO⟩ : ∃ j_ : Int, (shr .i64 Gu (KO)) = j_ := ⟨_, rfl⟩
            replace H : ((qH.f).bind fun Jh => (if 0 ≤ (Go.bits .and .i64 (KP) 63) then (if (Go.bits .and .i64 (KP) 63) ≤ (wrap64 ((Go.bits .and .i64 (KP) 63) + 1)) then (if (wrap64 ((Go.bits .and .i64 (KP) 63) + 1)) ≤ (Jh.size : Int) then (if Tv.size + (Jh.extract ((Go.bits .and .i64 (KP) 63) : Int).toNat ((wrap64 ((Go.bits .and .i64 (KP) 63) + 1)) : Int).toNat).size ≤ 9223372036854775807 then (bZ.l1 k4 a0 (Tv ++ (Jh.extract ((Go.bits .and .i64 (KP) 63) : Int).toNat ((wrap64 ((Go.bits .and .i64 (KP) 63) + 1)) : Int).toNat)) fG Gu (wrap64 (Q8 + 1))) else (none)) else (none)) else (none)) else (none))) = some r := by first | (rw [XO] at H; exact H) | (simp only [XO] at H ⊢; exact H)
            have azN : (Gu / 2 ^ min (KO).toNat 64) = KP := XO
            have azO : (KO) ≤ 64 → (Gu / 2 ^ (KO).toNat) = KP := ado XO
            replace H := bd H; obtain ⟨Jh, A21, H⟩ := H; replace H := Ba H; obtain ⟨Gm, aaP, H⟩ := H; replace H := nn H; obtain ⟨c23, H⟩ := H
            have BI := eq_true c23
            have OY := decide_eq_true c23
            replace H := nn H; obtain ⟨c24, H⟩ := H
            have QK := eq_true c24
            have aeZ := decide_eq_true c24
            replace H := nn H; obtain ⟨c25, H⟩ := H
            have QE := eq_true c25
            have aep := decide_eq_true c25
            try have aCJ : (9223372036854775807 < Tv.size + ((Jh.extract ((Go.bits .and .i64 (KP) 63) : Int).toNat ((wrap64 ((Go.bits .and .i64 (KP) 63) + 1)) : Int).toNat).size)) = False := by have h_ := c25; simp only [ByteArray.size_append, ByteArray.size_extract] at h_; refine eq_false ?_; simp only [decide_eq_true_eq] at *; omega
            try have aqi : (9223372036854775807 < Tv.size + (Jh.extract ((Go.bits .and .i64 (KP) 63) : Int).toNat ((wrap64 ((Go.bits .and .i64 (KP) 63) + 1)) : Int).toNat).size) = False := eq_false (Nat.not_lt.2 c25)
            have H' := ak H; clear H
            go_wp2_with (refine gA Tryz.func222 (qH.calls  Jh _ A21.out) ?_; intro nd)
            go_roundg k4
            case measure => exact kl
            case rel => exact ⟨_, _, (by first | rfl | (simp; done) | (simp only [← XO] <;> (first | rfl | simp)) | (simp [*]; done)), rs, H', ⟨kl⟩, dn⟩
          ·
           have H' := ak H; clear H
           go_wp2
           go_roundg k4
           case measure => exact kl
           case rel => exact ⟨_, _, rs, rs, H', ⟨kl⟩, dn⟩
   ·
    obtain rfl := s1 H
    go_wp2
    go_ret
    exact ⟨rs, dn⟩
def mG.f (k : Nat) (a0 : ByteArray) : Option (List ByteArray × Bool) := if (a0.size : Int) > 300 then (some ((([] : List ByteArray)), false)) else ((bZ.f k a0).bind fun atX => ((kS.f k atX 40).bind fun atY => (some (atY, true))))
theorem mG.calls {k : Nat} {a0 : ByteArray} {r1 : List ByteArray} {r2 : Bool} {w : World} (h : mG.f k a0 = some (r1, r2)) :
  Calls Tryz.prog 212 #[.string a0] w fun e w' => ∃ rY : Value, e = .returned (.tuple #[rY, .bool r2]) ∧ Kd.R Kd.string 9 w' w.heap.size (fun _ => True) rY r1 ∧ Below w.heap.size w w' := by
 have HB := ak (Below.refl w.heap.size w)
 unfold mG.f at h; have H := h
 clear h
 replace H := sp H
 rcases H with ⟨c2, H⟩ | ⟨c2, H⟩
 ·
  have o_ : decide (300 < (a0.size : Int)) = true := decide_eq_true c2
  have wu : decide (300 < a0.size) = true := decide_eq_true (by omega)
  clear c2
  obtain ⟨aG0, ak6⟩ := nm ([] : List ByteArray)
  rw [← ak6.out] at H
  obtain ⟨rfl, rfl⟩ := s2 H
  go_enter Tryz.func212, Tryz.ntmps212
  go_wp2_with (refine F8 7 Kd.string 9 ak6 ?_; intro aG1 w3 TU hb; have atZ := ak (Kd.aG TU (aj (ul HB.out))); replace HB := bs HB hb; clear hb TU)
  go_ret2
  exact ⟨_, er, ur atZ.out, ul HB.out⟩
 ·
  have o_ : decide (300 < (a0.size : Int)) = false := decide_eq_false c2
  have wu : decide (300 < a0.size) = false := decide_eq_false (by omega)
  clear c2
  replace H := bd H; obtain ⟨atX, A5, H⟩ := H; replace H := bd H; obtain ⟨atY, A6, H⟩ := H
  obtain ⟨rfl, rfl⟩ := s2 H
  go_enter Tryz.func212, Tryz.ntmps212
  go_wp2_with (first | (refine gA Tryz.func220 (bZ.calls A5.out) ?_; intro nd) | (refine gV Tryz.func219 (kS.calls A6.out) ?_; rintro aG2 w7 ⟨ho0, hb⟩; have at1 := ak (Kd.aG ho0 (aj (ul HB.out))); replace HB := bs HB hb; clear hb; (try clear ho0)))
  go_ret2
  exact ⟨_, er, ur at1.out, ul HB.out⟩
def kJ.l0 : Nat → List ByteArray → Int → Int → Option (Int)
 | 0, _, _, _ => none
 | k + 1, x0, x3, x4 => if x4 < (x0.length : Int) then (if 0 ≤ x4 then (kJ.l0 k x0 (wrap64 ((wrap64 (x3 + ((qg ByteArray.empty x0 x4).size : Int))) + 1)) (wrap64 (x4 + 1))) else (none)) else (some x3)
def kJ.f (k : Nat) (l0 : List ByteArray) : Option (Int) := kJ.l0 k l0 0 0
theorem kJ.calls {k c0 : Nat} {A0 : Option Addr} {l0 : List ByteArray} {r : Int} {w : World} (hr0 : Kd.C Kd.string w A0 l0.length l0) (hc0 : l0.length ≤ c0) (h : kJ.f k l0 = some r) :
  Calls Tryz.prog 213 #[.slice A0 l0.length c0] w fun e w' => e = .returned (.int .i64 r) ∧ dW w w' := by
 have HR0 := ak hr0
 have zq := ak hc0
 clear hr0 hc0
 unfold kJ.f at h; have H := h
 clear h
 have H' := ak H; clear H
 go_enter Tryz.func213, Tryz.ntmps213
 go_wp2
 go_loopg [3, 4] k (fun kq v3 v4 w' => ∃ (dZ : Int) (fG : Int), v3 = .int .i64 dZ ∧ v4 = .int .i64 fG ∧ ah (kJ.l0 kq l0 dZ fG = some r) ∧ ah (kq ≤ k) ∧ dW w w')
 case atStart => exact ⟨_, _, rs, rs, H', ⟨Nat.le_refl _⟩, dn⟩
 case round =>
  clear H'
  obtain ⟨dZ, fG, rfl, rfl, HA, yB, ⟨m1, rfl⟩⟩ := hrel
  cases gk with
  | zero => exact zz HA.out
  | succ k1 =>
   obtain ⟨H⟩ := HA
   simp only [kJ.l0] at H
   replace H := sd H
   rcases H with ⟨o_, H⟩ | ⟨o_, H⟩
   ·
    replace H := oN H; obtain ⟨iP, H⟩ := H
    have H' := ak H; clear H
    have aos := zi fG
    have aot := zj fG l0.length
    obtain ⟨aCK, azP, axP⟩ := Kd.jI HR0.out fG aos aot
    cases azP
    replace aos := eq_true aos
    replace aot := eq_true aot
    go_wp2
    go_roundg k1
    case measure => exact kl
    case rel => exact ⟨_, _, rs, rs, H', ⟨kl⟩, dn⟩
   ·
    obtain rfl := s1 H
    go_wp2
    go_ret
    exact ⟨rs, dn⟩
def mJ.f (k : Nat) (a0 : ByteArray) : Option (Int × Bool) := if (a0.size : Int) > 300 then (some (0, false)) else ((iW.f k a0).bind fun at6 => (if at6.2 = true then (some (0, true)) else ((bG.f k a0).bind fun at7 => ((mG.f k a0).bind fun aua => ((kJ.f k at7.1).bind fun aub => ((kJ.f k aua.1).bind fun auc => (if aub ≤ auc then (some (1, true)) else (some (2, true)))))))))
theorem mJ.calls {k : Nat} {a0 : ByteArray} {r1 : Int} {r2 : Bool} {w : World} (h : mJ.f k a0 = some (r1, r2)) :
  Calls Tryz.prog 195 #[.string a0] w fun e w' => e = .returned (.tuple #[.int .i64 r1, .bool r2]) ∧ Below w.heap.size w w' := by
 have HB := ak (Below.refl w.heap.size w)
 unfold mJ.f at h; have H := h
 clear h
 replace H := sp H
 rcases H with ⟨c2, H⟩ | ⟨c2, H⟩
 ·
  have o_ : decide (300 < (a0.size : Int)) = true := decide_eq_true c2
  have wu : decide (300 < a0.size) = true := decide_eq_true (by omega)
  clear c2
  obtain ⟨rfl, rfl⟩ := s2 H
  go_enter Tryz.func195, Tryz.ntmps195
  go_wp2
  go_ret2
  exact ⟨er, ul HB.out⟩
 ·
  have o_ : decide (300 < (a0.size : Int)) = false := decide_eq_false c2
  have wu : decide (300 < a0.size) = false := decide_eq_false (by omega)
  clear c2
  replace H := bd H
  obtain ⟨⟨aG3, aG4⟩, A3, H⟩ := H
  (try dsimp only at H)
  replace H := sb H
  rcases H with ⟨rfl, H⟩ | ⟨rfl, H⟩
  ·
   obtain ⟨rfl, rfl⟩ := s2 H
   go_enter Tryz.func195, Tryz.ntmps195
   go_wp2_with (refine gV Tryz.func210 (iW.calls A3.out) ?_; rintro aud w5 ⟨ho0, hb⟩; have Df := ak (Kd.aG ho0 (aj (ul HB.out))); replace HB := bs HB hb; clear hb; (try clear ho0))
   go_ret2
   exact ⟨er, ul HB.out⟩
  ·
   replace H := bd H
   obtain ⟨⟨aG5, aG6⟩, A6, H⟩ := H
   (try dsimp only at H)
   replace H := bd H
   obtain ⟨⟨aG7, aG8⟩, A7, H⟩ := H
   (try dsimp only at H)
   replace H := bd H; obtain ⟨aub, A8, H⟩ := H; replace H := bd H; obtain ⟨auc, A9, H⟩ := H; replace H := sd H
   rcases H with ⟨pF, H⟩ | ⟨pF, H⟩
   ·
    obtain ⟨rfl, rfl⟩ := s2 H
    go_enter Tryz.func195, Tryz.ntmps195
    go_wp2_with (first | (refine gV Tryz.func210 (iW.calls A3.out) ?_; rintro aud U2 ⟨ho0, hb⟩; have Df := ak (Kd.aG ho0 (aj (ul HB.out))); replace HB := bs HB hb; clear hb; (try clear ho0)) | (refine gV Tryz.func211 (bG.calls A6.out) ?_; rintro azQ w12 ⟨ho0, hb⟩; have DY := ak (Kd.aG (Kd.fK ho0 (Kd.jH (ur Df.out))) (aj (ul HB.out))); replace Df := ak (Kd.fA (ur Df.out) (Kd.eH ho0) hb); replace HB := bs HB hb; clear hb; (try clear ho0)) | (refine gV Tryz.func212 (mG.calls A7.out) ?_; rintro azR w13 ⟨ho0, hb⟩; have Q9 := ak (Kd.aG (Kd.fK (Kd.fK ho0 (Kd.jH (ur Df.out))) (Kd.jH (ur DY.out))) (aj (ul HB.out))); replace Df := ak (Kd.fA (ur Df.out) (Kd.eH ho0) hb); replace DY := ak (Kd.fA (ur DY.out) (Kd.eH ho0) hb); replace HB := bs HB hb; clear hb; (try clear ho0); obtain ⟨Xf, Xg, U5⟩ := Kd.aX DY.out; subst U5) | (refine gA Tryz.func213 (kJ.calls (cu ((Kd.au DY.out).2.2)) ((Kd.au DY.out).2.1) A8.out) ?_; intro nd; obtain ⟨Nr, Ns, U6⟩ := Kd.aX Q9.out; subst U6) | (refine gA Tryz.func213 (kJ.calls (cu ((Kd.au Q9.out).2.2)) ((Kd.au Q9.out).2.1) A9.out) ?_; intro nd))
    go_ret2
    exact ⟨er, ul HB.out⟩
   ·
    obtain ⟨rfl, rfl⟩ := s2 H
    go_enter Tryz.func195, Tryz.ntmps195
    go_wp2_with (first | (refine gV Tryz.func210 (iW.calls A3.out) ?_; rintro aud w16 ⟨ho0, hb⟩; have Df := ak (Kd.aG ho0 (aj (ul HB.out))); replace HB := bs HB hb; clear hb; (try clear ho0)) | (refine gV Tryz.func211 (bG.calls A6.out) ?_; rintro azQ w17 ⟨ho0, hb⟩; have DY := ak (Kd.aG (Kd.fK ho0 (Kd.jH (ur Df.out))) (aj (ul HB.out))); replace Df := ak (Kd.fA (ur Df.out) (Kd.eH ho0) hb); replace HB := bs HB hb; clear hb; (try clear ho0)) | (refine gV Tryz.func212 (mG.calls A7.out) ?_; rintro azR w18 ⟨ho0, hb⟩; have Q9 := ak (Kd.aG (Kd.fK (Kd.fK ho0 (Kd.jH (ur Df.out))) (Kd.jH (ur DY.out))) (aj (ul HB.out))); replace Df := ak (Kd.fA (ur Df.out) (Kd.eH ho0) hb); replace DY := ak (Kd.fA (ur DY.out) (Kd.eH ho0) hb); replace HB := bs HB hb; clear hb; (try clear ho0); obtain ⟨aG9, aG_, azS⟩ := Kd.aX DY.out; subst azS) | (refine gA Tryz.func213 (kJ.calls (cu ((Kd.au DY.out).2.2)) ((Kd.au DY.out).2.1) A8.out) ?_; intro nd; obtain ⟨NU, NV, VJ⟩ := Kd.aX Q9.out; subst VJ) | (refine gA Tryz.func213 (kJ.calls (cu ((Kd.au Q9.out).2.2)) ((Kd.au Q9.out).2.1) A9.out) ?_; intro nd))
    go_ret2
    exact ⟨er, ul HB.out⟩
def kC.f (k : Nat) (a0 : ByteArray) (a1 : Int) : Option (List ByteArray × Bool) := if a1 = 0 then ((iW.f k a0).bind fun ak7 => (if ak7.2 = true then (some (ak7.1, true)) else (some ((([] : List ByteArray)), false)))) else (if a1 = 1 then ((bG.f k a0).bind fun ak8 => (some (ak8.1, ak8.2))) else (if a1 = 2 then ((mG.f k a0).bind fun ak9 => (some (ak9.1, ak9.2))) else (some ((([] : List ByteArray)), false))))
theorem kC.calls {k : Nat} {a0 : ByteArray} {a1 : Int} {r1 : List ByteArray} {r2 : Bool} {w : World} (h : kC.f k a0 a1 = some (r1, r2)) :
  Calls Tryz.prog 196 #[.string a0, .int .i64 a1] w fun e w' => ∃ rY : Value, e = .returned (.tuple #[rY, .bool r2]) ∧ Kd.R Kd.string 9 w' w.heap.size (fun _ => True) rY r1 ∧ Below w.heap.size w w' := by
 have HB := ak (Below.refl w.heap.size w)
 unfold kC.f at h; have H := h
 clear h
 replace H := sq H
 rcases H with ⟨iP, yU, H⟩ | ⟨c3, iP, yU, H⟩
 ·
  replace H := bd H
  obtain ⟨⟨aHa, aHb⟩, A4, H⟩ := H
  (try dsimp only at H)
  replace H := sb H
  rcases H with ⟨rfl, H⟩ | ⟨rfl, H⟩
  ·
   obtain ⟨rfl, rfl⟩ := s2 H
   go_enter Tryz.func196, Tryz.ntmps196
   go_wp2_with (refine gV Tryz.func210 (iW.calls A4.out) ?_; rintro azT w6 ⟨ho0, hb⟩; have XP := ak (Kd.aG ho0 (aj (ul HB.out))); replace HB := bs HB hb; clear hb; (try clear ho0))
   go_ret2
   exact ⟨_, er, ur XP.out, ul HB.out⟩
  ·
   obtain ⟨aHc, ak_⟩ := nm ([] : List ByteArray)
   rw [← ak_.out] at H
   obtain ⟨rfl, rfl⟩ := s2 H
   go_enter Tryz.func196, Tryz.ntmps196
   go_wp2_with (first | (refine gV Tryz.func210 (iW.calls A4.out) ?_; rintro azT w7 ⟨ho0, hb⟩; have XP := ak (Kd.aG ho0 (aj (ul HB.out))); replace HB := bs HB hb; clear hb; (try clear ho0)) | (refine F8 30 Kd.string 9 ak_ ?_; intro aHd w8 ho9 hb; have aue := ak (Kd.aG (Kd.fK ho9 (Kd.jH (ur XP.out))) (aj (ul HB.out))); replace XP := ak (Kd.fA (ur XP.out) (Kd.eH ho9) hb); replace HB := bs HB hb; clear hb ho9))
   go_ret2
   exact ⟨_, er, ur (Kd.aY aue.out (fun _ hk => trivial)), ul HB.out⟩
 ·
  replace H := sq H
  rcases H with ⟨pF, uI, H⟩ | ⟨c10, pF, uI, H⟩
  ·
   replace H := bd H
   obtain ⟨⟨aHe, aHf⟩, W9, H⟩ := H
   (try dsimp only at H)
   obtain ⟨rfl, rfl⟩ := s2 H
   go_enter Tryz.func196, Tryz.ntmps196
   go_wp2_with (refine gV Tryz.func211 (bG.calls W9.out) ?_; rintro aHg w12 ⟨ho0, hb⟩; have auf := ak (Kd.aG ho0 (aj (ul HB.out))); replace HB := bs HB hb; clear hb; (try clear ho0))
   go_ret2
   exact ⟨_, er, ur auf.out, ul HB.out⟩
  ·
   replace H := sq H
   rcases H with ⟨xk, AV, H⟩ | ⟨c13, xk, AV, H⟩
   ·
    replace H := bd H
    obtain ⟨⟨aHh, aHi⟩, A14, H⟩ := H
    (try dsimp only at H)
    obtain ⟨rfl, rfl⟩ := s2 H
    go_enter Tryz.func196, Tryz.ntmps196
    go_wp2_with (refine gV Tryz.func212 (mG.calls A14.out) ?_; rintro aHj w15 ⟨ho0, hb⟩; have aug := ak (Kd.aG ho0 (aj (ul HB.out))); replace HB := bs HB hb; clear hb; (try clear ho0))
    go_ret2
    exact ⟨_, er, ur aug.out, ul HB.out⟩
   ·
    obtain ⟨aHk, ala⟩ := nm ([] : List ByteArray)
    rw [← ala.out] at H
    obtain ⟨rfl, rfl⟩ := s2 H
    go_enter Tryz.func196, Tryz.ntmps196
    go_wp2_with (refine F8 30 Kd.string 9 ala ?_; intro aHl w16 auh hb; have aui := ak (Kd.aG auh (aj (ul HB.out))); replace HB := bs HB hb; clear hb auh)
    go_ret2
    exact ⟨_, er, ur aui.out, ul HB.out⟩
end Go.Proofs.YtncdadcmghglkaaGreatDoor.PFnPartValid
