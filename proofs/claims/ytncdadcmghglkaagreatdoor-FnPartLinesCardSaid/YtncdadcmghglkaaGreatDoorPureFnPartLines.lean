/- Proved here: the pure form of the law FnPartLines (fields come first) returns true for all arguments; conditions: none beyond those that the printed statement bears. -/
import Derived.Test.YtncdadcmghglkaaGreatDoorPFnPartLinesx29
import Derived.Test.YtncdadcmghglkaaGreatDoorVFnPartLinesZbt
import Derived.Test.YtncdadcmghglkaaGreatDoorVFnPartLinesMore
import Derived.Lib.TrimByte
import Derived.Lib.CutLaws
import Derived.Lib.ReplaceLaws
import Derived.Lib.Join
import Derived.Lib.JoinLaws
import Derived.Lib.Split
import Derived.Lib.CountLaws
-- dense
namespace Go.Proofs.YtncdadcmghglkaaGreatDoor.Pure
open Go.Proofs.YtncdadcmghglkaaGreatDoorW.iZ Go.RowKit Go.Proofs.YtncdadcmghglkaaGreatDoor.X Go.Proofs.YtncdadcmghglkaaGreatDoor.PFnPartLines Go.Proofs.YtncdadcmghglkaaGreatDoorW.bI Go.Proofs.YtncdadcmghglkaaGreatDoorW.iy Go.Proofs.YtncdadcmghglkaaGreatDoor.Z
set_option linter.unusedVariables false
set_option linter.unusedSimpArgs false
/-! Several answers from one number of rounds on. -/
def Evp (p : Nat → Prop) : Prop := ∃ K, ∀ k, K ≤ k → p k
def stp {α : Type} [DecidableEq α] (r : List α) (c : α) : Bool ⊕ List α := match r with
 | [] => .inl false
 | d :: r => if c = d then .inr r else .inl false
/-! Texts that came in: their size, a copy, and the same again. -/
def Bf : List Str → Nat
 | [] => 0
 | c :: r => c.length + Bf r
theorem P7 (a b : List Str) : Bf (a ++ b) = Bf a + Bf b := by
 induction a with
 | nil => simp [Bf]
 | cons c a ih => simp only [List.cons_append, Bf, ih]; omega
theorem Uz {a : List Str} {c : Str} (h : c ∈ a) : c.length ≤ Bf a := by
 induction a with
 | nil => cases h
 | cons d a ih =>
  simp only [Bf]
  rcases List.mem_cons.mp h with rfl | h
  ·
   omega
  ·
   have := ih h; omega
/-! Fields that came in: pairs of texts. -/
def sN (p : Str × Str) : gX := ⟨aW p.1, aW p.2⟩
def Aq : List (Str × Str) → Nat
 | [] => 0
 | c :: r => c.1.length + c.2.length + Aq r
theorem ahv {a : List (Str × Str)} {c : Str × Str} (h : c ∈ a) : c.1.length + c.2.length ≤ Aq a := by
 induction a with
 | nil => cases h
 | cons d a ih =>
  simp only [Aq]
  rcases List.mem_cons.mp h with rfl | h
  ·
   omega
  ·
   have := ih h; omega
theorem xB {ls p r : List (Str × Str)} {c : Str × Str} (h : ls = p ++ c :: r) : fC (ls.map sN) (p.length : Int) = sN c := by
 unfold fC
 rw [List.getD_eq_getElem?_getD, h]
 simp
def sane (ls : List (Str × Str)) : Prop := ∀ x ∈ ls, x.1.length ≤ 9223372036854775807 ∧ x.2.length ≤ 9223372036854775807
/-! Parts: rows of texts, and parts within parts. -/
inductive Pt where
 | mk (f : List (Str × Str)) (b : List Str) (k : List Pt)
mutual
def e32 : Pt → nG
 | .mk f b k => ⟨f.map sN, b.map aW, ahw k⟩
def ahw : List Pt → List nG
 | [] => []
 | p :: r => e32 p :: ahw r
end
theorem aff (k : List Pt) : ahw k = k.map e32 := by
 induction k with
 | nil => rfl
 | cons p r ih => rw [ahw, ih]; rfl
theorem yt (f : List (Str × Str)) (b : List Str) (k : List Pt) : e32 (.mk f b k) = ⟨f.map sN, b.map aW, k.map e32⟩ := by rw [e32, aff]
theorem Fp {ls p r : List Pt} {c : Pt} (h : ls = p ++ c :: r) : cO (ls.map e32) (p.length : Int) = e32 c := by
 unfold cO
 rw [List.getD_eq_getElem?_getD, h]
 simp
mutual
def QF : Pt → Nat
 | .mk f b k => f.length + Aq f + b.length + Bf b + k.length + Fq k
def Fq : List Pt → Nat
 | [] => 0
 | p :: r => QF p + Fq r
end
theorem P8 {k : List Pt} {p : Pt} (h : p ∈ k) : QF p ≤ Fq k := by
 induction k with
 | nil => cases h
 | cons d a ih =>
  rw [Fq]
  rcases List.mem_cons.mp h with rfl | h
  ·
   omega
  ·
   have := ih h; omega
mutual
def smt : Pt → Pt → Bool
 | .mk f b k, .mk g c l => decide (f = g) && (decide (b = c) && (decide (k.length = l.length) && avJ k l))
def avJ : List Pt → List Pt → Bool
 | [], _ => true
 | _ :: _, [] => false
 | p :: r, q :: s => smt p q && avJ r s
end
/-- What holds of a part if it holds of it where it holds of all its parts. -/
theorem afg {P : Pt → Prop} (h : ∀ f b k, (∀ p ∈ k, P p) → P (.mk f b k)) (p : Pt) : P p := by
 have key : ∀ (n : Nat) (p : Pt), SizeOf.sizeOf p < n → P p := by
  intro n
  induction n with
  | zero => intro p hp; omega
  | succ n ih =>
   intro p hp
   cases p with
   | mk f b k =>
    refine h f b k fun q hq => ih q ?_
    have := List.sizeOf_lt_of_mem hq
    simp only [Pt.mk.sizeOf_spec] at hp
    omega
 exact key _ p (Nat.lt_succ_self _)
/-! The reader of draws. -/
theorem X3 (a b : Nat) (ha : a < 9223372036854775808) (hb : b < 9223372036854775808) : Go.bits .xor .i64 (a : Int) (b : Int) = ((a ^^^ b : Nat) : Int) := by
 have hx : a ^^^ b < 2 ^ 63 := Nat.xor_lt_two_pow (by omega) (by omega)
 have h1 : (BitVec.ofInt 64 (a : Int)).toNat = a := by
  rw [BitVec.ofInt_natCast, BitVec.toNat_ofNat]; exact Nat.mod_eq_of_lt (by omega)
 have h2 : (BitVec.ofInt 64 (b : Int)).toNat = b := by
  rw [BitVec.ofInt_natCast, BitVec.toNat_ofNat]; exact Nat.mod_eq_of_lt (by omega)
 show IntKind.i64.wrap ((BitVec.ofInt 64 (a : Int) ^^^ BitVec.ofInt 64 (b : Int)).toNat : Int) = _
 rw [BitVec.toNat_xor, h1, h2]
 rw [iK]
 exact aV (by omega) (by omega)
theorem tmod_in {a b : Int} (ha : 0 ≤ a) (hb : 1 ≤ b) : 0 ≤ Int.tmod a b ∧ Int.tmod a b < b := by
 rw [Int.tmod_eq_emod_of_nonneg ha]
 exact ⟨Int.emod_nonneg _ (by omega), Int.emod_lt_of_pos _ (by omega)⟩
/-- What is known of the bytes that are drawn from. -/
def UZ (l : List Int) : Prop := l.length ≤ 2000 ∧ ∀ x ∈ l, 0 ≤ x ∧ x ≤ 255
theorem aaM {l : List Int} (h : UZ l) (i : Int) : 0 ≤ rd l i ∧ rd l i ≤ 255 := by
 unfold rd
 rw [List.getD_eq_getElem?_getD]
 cases e : l[i.toNat]? with
 | none => simp
 | some x => exact h.2 x (List.mem_of_getElem? e)
theorem Gj (l : List Int) (p n : Int) (hl : UZ l) (h0 : 0 ≤ p) (h1 : p ≤ 1000000000) (hn : 1 ≤ n) (hn2 : n ≤ 1000000000) :
  ∃ v, Ev (fun k => b_.f k l p n) (v, p + 1) ∧ 0 ≤ v ∧ v < n := by
 have hw : wrap64 (p + 1) = p + 1 := aV (by omega) (by omega)
 have hw2 : wrap64 (p + 1 - 1) = p := by rw [aV (by omega) (by omega)]; omega
 have hlen := hl.1
 unfold b_.f
 rw [hw]
 by_cases he : (l.length : Int) = 0
 ·
  refine ⟨0, vn (by omega) (vc ?_), by omega, by omega⟩
  simp only [b_.j0]
  refine vp ?_ (vs _)
  rw [he]; rfl
 have hb : ((l.length : Int) == 0) = false := by simp at he ⊢; exact he
 rw [hb]
 by_cases hlt : p < (l.length : Int)
 ·
  have hv := tmod_in (aaM hl p).1 hn
  have hr : wrap64 (rd l p) = rd l p := by have := aaM hl p; exact aV (by omega) (by omega)
  refine ⟨Int.tmod (rd l p) n, vn (by omega) (vc ?_), hv.1, hv.2⟩
  simp only [b_.j0, hw2, hr]
  exact vn (by simp) (vp hlt (vp h0 (vn (by omega) (vs _))))
 ·
  have hq := tmod_in h0 (b := (l.length : Int)) (by omega)
  have hm : wrap64 (wrap64 (p * 7) + 3) = p * 7 + 3 := by rw [aV (x := p * 7) (by omega) (by omega), aV (by omega) (by omega)]
  have hq2 := tmod_in (a := p * 7 + 3) (by omega) (b := (l.length : Int)) (by omega)
  have r1 := aaM hl (Int.tmod p l.length)
  have r2 := aaM hl (Int.tmod (p * 7 + 3) l.length)
  generalize hA : rd l (Int.tmod p l.length) = A at r1
  generalize hB : rd l (Int.tmod (p * 7 + 3) l.length) = B at r2
  have hd : 0 ≤ Int.tdiv p l.length ∧ Int.tdiv p l.length ≤ p := by
   rw [Int.tdiv_eq_ediv_of_nonneg h0]
   refine ⟨Int.ediv_nonneg h0 (by omega), Int.ediv_le_self _ h0⟩
  generalize hD : Int.tdiv p l.length = D at hd
  have w1 : wrap64 A = A := aV (by omega) (by omega)
  have w2 : wrap64 B = B := aV (by omega) (by omega)
  have w3 : wrap64 (A * 131) = A * 131 := aV (by omega) (by omega)
  have w4 : wrap64 (B * 1117) = B * 1117 := aV (by omega) (by omega)
  have w5 : wrap64 (A * 131 + B * 1117) = A * 131 + B * 1117 := aV (by omega) (by omega)
  have w6 : wrap64 (p * 29) = p * 29 := aV (by omega) (by omega)
  have w7 : wrap64 (A * 131 + B * 1117 + p * 29) = A * 131 + B * 1117 + p * 29 := aV (by omega) (by omega)
  have w8 : wrap64 D = D := aV (by omega) (by omega)
  have w9 : wrap64 (D * 53) = D * 53 := aV (by omega) (by omega)
  have w10 : wrap64 (A * 131 + B * 1117 + p * 29 + D * 53) = A * 131 + B * 1117 + p * 29 + D * 53 := aV (by omega) (by omega)
  have hX : 0 ≤ A * 131 + B * 1117 + p * 29 + D * 53 ∧ A * 131 + B * 1117 + p * 29 + D * 53 < 9223372036854775808 := by omega
  generalize hXX : A * 131 + B * 1117 + p * 29 + D * 53 = X at hX w10
  have hX2 : 0 ≤ Int.tdiv X 64 ∧ Int.tdiv X 64 ≤ X := by
   rw [Int.tdiv_eq_ediv_of_nonneg hX.1]
   refine ⟨Int.ediv_nonneg hX.1 (by omega), Int.ediv_le_self _ hX.1⟩
  have U3 : wrap64 (Int.tdiv X 64) = Int.tdiv X 64 := aV (by omega) (by omega)
  have aAk : 0 ≤ Go.bits .xor .i64 X (Int.tdiv X 64) := by
   obtain ⟨a, ha⟩ := Int.eq_ofNat_of_zero_le hX.1
   obtain ⟨b, hb⟩ := Int.eq_ofNat_of_zero_le hX2.1
   rw [hb, ha, X3 _ _ (by omega) (by omega)]
   omega
  have hv := tmod_in aAk hn
  refine ⟨Int.tmod (Go.bits .xor .i64 X (Int.tdiv X 64)) n, vn (by omega) (vc ?_), hv.1, hv.2⟩
  simp only [b_.j0, hw2, hm, hA, hB, hD, w1, w2, w3, w4, w5, w6, w7, w8, w9, hXX, w10, U3]
  exact vn (by simp) (vn hlt (vn he (vp hq.1 (vp hq.2 (vp hq2.1 (vp hq2.2 (vn (by omega) (vs _))))))))
theorem Wn {l : List Int} (h : ∀ x ∈ l, (Lit.int .u8 x).wf = true) (n : Nat) (hn : (l.take n).length ≤ 2000) : UZ (l.take n) := by
 refine ⟨hn, fun x hx => ?_⟩
 have := h x (List.mem_of_mem_take hx)
 simp [Lit.wf, IntKind.min, IntKind.max, IntKind.bits, IntKind.signed] at this
 omega
theorem avK (l : List Int) (p : Int) (ws : List ByteArray) (hl : UZ l) (h0 : 0 ≤ p) (h1 : p ≤ 1000000000) (hn : 1 ≤ ws.length) (hn2 : ws.length ≤ 1000000) :
  ∃ v, Ev (fun k => fH.f k l p ws) (v, p + 1) ∧ v ∈ ws := by
 obtain ⟨i, hi, i0, i1⟩ := Gj l p ws.length hl h0 h1 (by omega) (by omega)
 have hlt : i.toNat < ws.length := by omega
 refine ⟨mX ByteArray.empty ws i, ?_, ?_⟩
 ·
  unfold fH.f
  exact vb hi (vp i0 (vp i1 (vs _)))
 ·
  unfold mX
  rw [List.getD_eq_getElem?_getD, List.getElem?_eq_getElem hlt]
  exact List.getElem_mem hlt
theorem UA (l : List Int) (p : Int) (ws : List Int) (hl : UZ l) (h0 : 0 ≤ p) (h1 : p ≤ 1000000000) (hn : 1 ≤ ws.length) (hn2 : ws.length ≤ 1000000) :
  ∃ v, Ev (fun k => jY.f k l p ws) (v, p + 1) ∧ v ∈ ws := by
 obtain ⟨i, hi, i0, i1⟩ := Gj l p ws.length hl h0 h1 (by omega) (by omega)
 have hlt : i.toNat < ws.length := by omega
 refine ⟨rd ws i, ?_, ?_⟩
 ·
  unfold jY.f
  exact vb hi (vp i0 (vp i1 (vs _)))
 ·
  unfold rd
  rw [List.getD_eq_getElem?_getD, List.getElem?_eq_getElem hlt]
  exact List.getElem_mem hlt
theorem ahx (l : List Int) (h : ∀ x ∈ l, (Lit.int .u8 x).wf = true) : ∃ l', sU.f l = some (l', 0) ∧ UZ l' := by
 unfold sU.f
 by_cases hc : (l.length : Int) > 2000
 ·
  refine ⟨l.take 2000, ?_, Wn h 2000 (by rw [List.length_take]; omega)⟩
  rw [if_pos hc, if_pos (by omega)]
 ·
  refine ⟨l, by rw [if_neg hc], ?_⟩
  have := Wn h l.length (by rw [List.take_length]; omega)
  rwa [List.take_length] at this
theorem Gl {n : Int} {ws : List Int} (h : n ∈ ws) (m : Nat) (hm : ∀ x ∈ ws, 0 ≤ x ∧ x ≤ (m : Int)) : ∃ k : Nat, n = (k : Int) ∧ k ≤ m := by
 have := hm n h
 exact ⟨n.toNat, by omega, by omega⟩
theorem P9 {ps p r : List (List Str)} {c : List Str} (h : ps = p ++ c :: r) : xH (ps.map (List.map aW)) (p.length : Int) = c.map aW := by
 unfold xH
 rw [List.getD_eq_getElem?_getD, h]
 simp
/-- How many lines there are, one more counted for each part. -/
def tl : List (List Str) → Nat
 | [] => 0
 | c :: r => c.length + 1 + tl r
theorem CW (a b : List (List Str)) : tl (a ++ b) = tl a + tl b := by
 induction a with
 | nil => simp [tl]
 | cons c a ih => simp only [List.cons_append, tl, ih]; omega
theorem UC (a : List (List Str)) : a.length ≤ tl a := by
 induction a with
 | nil => simp [tl]
 | cons c a ih => simp only [List.length_cons, tl]; omega
theorem anQ {a : List (List Str)} {c : List Str} (h : c ∈ a) : c.length ≤ tl a := by
 induction a with
 | nil => cases h
 | cons d a ih =>
  simp only [tl]
  rcases List.mem_cons.mp h with rfl | h
  ·
   omega
  ·
   have := ih h; omega
/-! Letters and digits, boundaries: the model. -/
def Il (c : UInt8) : Bool := decide (97 ≤ (c.toNat : Int) ∧ (c.toNat : Int) ≤ 122) || decide (65 ≤ (c.toNat : Int) ∧ (c.toNat : Int) ≤ 90)
def abQ (c : UInt8) : Bool := decide (48 ≤ (c.toNat : Int) ∧ (c.toNat : Int) ≤ 57)
def Bg (c : UInt8) : Bool := Il c || abQ c
def Fv (l : Str) : Bool := decide (1 ≤ l.length) && decide (l.length ≤ 20) && l.all Bg
theorem P_ {l : Str} (h : Fv l = true) : l.length ≤ 20 := by
 unfold Fv at h; simp at h; exact h.1.2
theorem yu (c : UInt8) : bC.f (c.toNat : Int) = some (Il c) := by
 unfold bC.f Il
 by_cases h1 : 97 ≤ (c.toNat : Int) <;> by_cases h2 : (c.toNat : Int) ≤ 122 <;> by_cases h3 : 65 ≤ (c.toNat : Int) <;> by_cases h4 : (c.toNat : Int) ≤ 90 <;> simp [h1, h2, h3, h4]
theorem Ei (c : UInt8) : dF.f (c.toNat : Int) = some (abQ c) := by
 unfold dF.f abQ
 by_cases h1 : 48 ≤ (c.toNat : Int) <;> by_cases h2 : (c.toNat : Int) ≤ 57 <;> simp [h1, h2]
theorem sD (c : UInt8) : gJ.f (c.toNat : Int) = some (Bg c) := by
 unfold gJ.f Bg Il abQ
 by_cases h1 : 97 ≤ (c.toNat : Int) <;> by_cases h2 : (c.toNat : Int) ≤ 122 <;> by_cases h3 : 65 ≤ (c.toNat : Int) <;> by_cases h4 : (c.toNat : Int) ≤ 90 <;> by_cases h5 : 48 ≤ (c.toNat : Int) <;> by_cases h6 : (c.toNat : Int) ≤ 57 <;> simp [h1, h2, h3, h4, h5, h6]
/-! Atoms: the model. -/
def Qa : Str := [33, 35, 36, 37, 38, 39, 42, 43, 45, 47, 61, 63, 94, 95, 96, 123, 124, 125, 126]
def vJ (c : UInt8) : Bool := Bg c || decide (c ∈ Qa)
def Qb (l : Str) : Bool := decide (1 ≤ l.length) && decide (l.length ≤ 40) && l.all vJ
theorem Qc {p : UInt8 → Prop} (h : ∀ n : Nat, n < 256 → p (UInt8.ofNat n)) (c : UInt8) : p c := by
 have := h c.toNat c.toNat_lt
 rwa [UInt8.ofNat_toNat] at this
theorem wo (c : UInt8) : kN.f (c.toNat : Int) = some (vJ c) := by
 revert c
 exact Qc (by decide +kernel)
theorem zO (l : Str) (hl : l.length ≤ 1000000000000000) : Ev (fun k => dL.f k (aW l)) (l.all vJ) := by
 unfold dL.f
 rw [au]
 refine vq (pG (xs := l) (F := fun k (_ : Unit) i => dL.l0 k (aW l) (l.length : Int) i) (st := fun _ c => if vJ c = true then .inr () else .inl false) (fin := fun _ => true) (s := ()) (fun _ _ => True) trivial ?_ ?_) ?_
 ·
  intro p c r s h _
  have hz := jf h
  have e1 := jo h
  have w1 : wrap64 ((p.length : Int) + 1) = (p.length : Int) + 1 := aV (by omega) (by omega)
  simp only [dL.l0, e1, w1, au]
  clear w1 e1
  cases e : vJ c with
  | true =>
   simp only [if_true]
   refine ⟨(fun v hv => by cases hv), fun s' hs => ⟨trivial, fun v hv => ?_⟩⟩
   refine vp (by omega) (vp (by omega) (vp (by omega) (jA (wo c) (vp e hv))))
  | false =>
   refine ⟨(fun v hv => ?_), fun s' hs => by simp at hs⟩
   simp only [Bool.false_eq_true, if_false, Sum.inl.injEq] at hv
   subst hv
   refine vp (by omega) (vp (by omega) (vp (by omega) (jA (wo c) (vn (by rw [e]; simp) (vs _)))))
 ·
  intro s _
  simp only [dL.l0]
  exact vn (by omega) (vs _)
 ·
  clear hl
  induction l with
  | nil => rfl
  | cons c r ih =>
   unfold run
   cases e : vJ c with
   | true => simp [e, ih]
   | false => simp [e]
theorem J7 (l : Str) (hl : l.length ≤ 1000000000000000) : Ev (fun k => oO.f k (aW l)) (Qb l) := by
 unfold oO.f Qb
 rw [au]
 by_cases h1 : 1 ≤ l.length
 ·
  rw [decide_eq_true h1]
  refine vp (by omega) ?_
  by_cases h2 : l.length ≤ 40
  ·
   rw [decide_eq_true h2]
   exact vp (by omega) (vb (zO l hl) (vs _))
  ·
   rw [decide_eq_false h2]
   exact vn (by omega) (vs _)
 ·
  rw [decide_eq_false h1]
  exact vn (by omega) (vs _)
theorem Ar (c : UInt8) : Ev (fun k => jm.f k (c.toNat : Int)) (vJ c) := by
 unfold jm.f
 have lit : (⟨#[33, 35, 36, 37, 38, 39, 42, 43, 45, 47, 61, 63, 94, 95, 96, 123, 124, 125, 126]⟩ : ByteArray) = aW Qa := rfl
 have hlen : Qa.length = 19 := rfl
 refine vq (pG (xs := Qa) (F := fun k (_ : Unit) i => jm.l0 k (c.toNat : Int) i) (st := fun _ d => if c = d then .inl true else .inr ()) (fin := fun _ => Bg c) (s := ()) (fun _ _ => True) trivial ?_ ?_) ?_
 ·
  intro p d r s h _
  have hz := jf h
  have e1 := jo h
  have w1 : wrap64 ((p.length : Int) + 1) = (p.length : Int) + 1 := aV (by omega) (by omega)
  simp only [jm.l0, lit, e1, w1]
  clear w1 e1
  by_cases e : c = d
  ·
   simp only [if_pos e]
   refine ⟨(fun v hv => ?_), fun s' hs => by cases hs⟩
   cases hv
   exact vp (by omega) (vp (by omega) (vp (by rw [e]) (vs _)))
  ·
   simp only [if_neg e]
   refine ⟨(fun v hv => by cases hv), fun s' hs => ⟨trivial, fun v hv => ?_⟩⟩
   exact vp (by omega) (vp (by omega) (vn (fun hh => e (UInt8.toNat_inj.mp (by omega))) hv))
 ·
  intro s _
  simp only [jm.l0]
  exact vn (by omega) (jA (sD c) (vs _))
 ·
  have key : ∀ r : Str, run (fun (_ : Unit) d => if c = d then .inl true else .inr ()) (fun _ => Bg c) r () = (Bg c || decide (c ∈ r)) := by
   intro r
   induction r with
   | nil => simp [run]
   | cons d r ih =>
    unfold run
    by_cases e : c = d
    ·
     simp [e]
    ·
     simp [e, ih]
  exact key Qa
theorem J8 (l : Str) (hl : l.length ≤ 1000000000000000) : Ev (fun k => dZ.f k (aW l)) (Qb l) := by
 unfold dZ.f
 have hj' : ∀ i : Int, Ev (fun k => dZ.j1 k (aW l) i false) (decide (1 ≤ l.length) && decide (l.length ≤ 40)) := by
  intro i
  refine vc ?_
  simp only [dZ.j1, au]
  by_cases h1 : 1 ≤ l.length
  ·
   rw [decide_eq_true h1]
   refine vn (by simp) (vp (by omega) (vq (vs _) ?_))
   rw [Bool.true_and]
   by_cases h2 : l.length ≤ 40
   ·
    rw [decide_eq_true h2]; exact decide_eq_true (by omega)
   ·
    rw [decide_eq_false h2]; exact decide_eq_false (by omega)
  ·
   rw [decide_eq_false h1]
   exact vn (by simp) (vn (by omega) (vs _))
 refine vq (pG (xs := l) (F := fun k (_ : Nat) i => dZ.l0 k (aW l) i) (st := fun n c => if n ≤ 40 then (if vJ c = true then .inr (n + 1) else .inl false) else .inl (decide (1 ≤ l.length) && decide (l.length ≤ 40))) (fin := fun _ => decide (1 ≤ l.length) && decide (l.length ≤ 40)) (s := 0) (fun p n => n = p.length) rfl ?_ ?_) ?_
 ·
  intro p c r n h hn
  subst hn
  have hz := jf h
  have e1 := jo h
  have w1 : wrap64 ((p.length : Int) + 1) = (p.length : Int) + 1 := aV (by omega) (by omega)
  by_cases h20 : p.length ≤ 40
  ·
   simp only [if_pos h20]
   have hd : decide ((p.length : Int) ≤ 40) = true := decide_eq_true (by omega)
   simp only [dZ.l0, hd, au]
   cases e : vJ c with
   | true =>
    simp only [if_true]
    refine ⟨(fun v hv => by cases hv), fun s' hs => ⟨?_, fun v hv => ?_⟩⟩
    ·
     cases hs; simp
    ·
     refine vp (by omega) (vc ?_)
     simp only [dZ.j1, e1, w1, au]
     clear w1 e1
     exact vp trivial (vp (by omega) (vp (by omega) (vb (Ar c) (vp e hv))))
   | false =>
    refine ⟨(fun v hv => ?_), fun s' hs => by simp at hs⟩
    simp only [Bool.false_eq_true, if_false, Sum.inl.injEq] at hv
    subst hv
    refine vp (by omega) (vc ?_)
    simp only [dZ.j1, e1, w1, au]
    clear w1 e1
    exact vp trivial (vp (by omega) (vp (by omega) (vb (Ar c) (vn (by rw [e]; simp) (vs _)))))
  ·
   simp only [if_neg h20]
   have hd : decide ((p.length : Int) ≤ 40) = false := decide_eq_false (by omega)
   refine ⟨(fun v hv => ?_), fun s' hs => by cases hs⟩
   cases hv
   simp only [dZ.l0, hd, au]
   clear w1 e1
   exact vp (by omega) (hj' _)
 ·
  intro s hs
  subst hs
  simp only [dZ.l0, au]
  exact vn (by omega) (hj' _)
 ·
  unfold Qb
  have key : ∀ (r : Str) (n : Nat), n + r.length = l.length → run (fun n c => if n ≤ 40 then (if vJ c = true then .inr (n + 1) else .inl false) else .inl (decide (1 ≤ l.length) && decide (l.length ≤ 40))) (fun _ => decide (1 ≤ l.length) && decide (l.length ≤ 40)) r n = (decide (1 ≤ l.length) && decide (l.length ≤ 40) && r.all vJ) := by
   intro r
   induction r with
   | nil => intro n _; simp [run]
   | cons c r ih =>
    intro n hn
    simp only [List.length_cons] at hn
    unfold run
    by_cases h20 : n ≤ 40
    ·
     simp only [if_pos h20]
     cases e : vJ c with
     | true => simp [e, ih (n + 1) (by omega)]
     | false => simp [e]
    ·
     simp only [if_neg h20]
     have : decide (l.length ≤ 40) = false := decide_eq_false (by omega)
     simp [this]
  exact key l 0 (by omega)
/-! Names, small letters: the model. -/
def UD (c : UInt8) : Bool := Bg c || decide (c = 45)
def Gz (l : Str) : Bool := decide (l.length ≤ 30) && (match l with
 | [] => false
 | c :: _ => Il c) && l.all UD
def avL (c : UInt8) : UInt8 := if 65 ≤ c ∧ c ≤ 90 then c + 32 else c
def low (l : Str) : Str := l.map avL
def isSmall (l : Str) : Bool := Gz l && decide (low l = l)
theorem Wp {l : Str} (h : Gz l = true) : l.length ≤ 30 := by
 unfold Gz at h; simp at h; exact h.1.1
theorem Gm (a b : Str) : (a == b) = decide (a = b) := by
 rw [Bool.eq_iff_iff]; simp
theorem afh (c : UInt8) : QL (c.toNat : Int) = ((avL c).toNat : Int) := by
 revert c
 exact Qc (by decide +kernel)
theorem afi (l : Str) : (zn l).map QL = zn (low l) := by
 unfold zn low
 rw [List.map_map, List.map_map]
 exact List.map_congr_left (fun c _ => afh c)
theorem BO (l : Str) : (low l).length = l.length := by unfold low; simp
theorem l9 (l : Str) (hl : l.length ≤ 140737488355328) : iW.f (aW l) = some (aW (low l)) := by
 unfold iW.f
 rw [au, if_pos hl, Nz, afi, xC]
theorem mg (l : Str) (hl : l.length ≤ 140737488355328) : iF.f (aW l) = some (aW (low l)) := by
 unfold iF.f
 rw [au, if_pos hl, Nz, afi, xC]
theorem LQ (a b : Str) (ha : a.length ≤ 140737488355328) (hb : b.length ≤ 140737488355328) : rH.f (aW a) (aW b) = some (decide (low a = low b)) := by
 unfold rH.f
 rw [l9 a ha, l9 b hb]
 simp only [Option.bind_some, lU, Gm]
theorem LU (a b : Str) (ha : a.length ≤ 140737488355328) (hb : b.length ≤ 140737488355328) : qx.f (aW a) (aW b) = some (decide (low a = low b)) := by
 unfold qx.f
 rw [mg a ha, mg b hb]
 simp only [Option.bind_some, lU, Gm]
theorem CX (c : UInt8) : qm.f (c.toNat : Int) = some (UD c) := by
 unfold qm.f UD Bg
 rw [yu, Ei]
 have := wK c 45 (by omega)
 by_cases e : c = 45
 ·
  have h2 := this.mpr e
  cases Il c <;> cases abQ c <;> simp [e, h2]
 ·
  have h2 : ¬ (c.toNat : Int) = 45 := fun hh => e (this.mp hh)
  cases Il c <;> cases abQ c <;> simp [e, h2]
theorem Bh (l : Str) (hl : l.length ≤ 1000000000000000) : Ev (fun k => eF.f k (aW l)) (l.all UD) := by
 unfold eF.f
 rw [au]
 refine vq (pG (xs := l) (F := fun k (_ : Unit) i => eF.l0 k (aW l) (l.length : Int) i) (st := fun _ c => if UD c = true then .inr () else .inl false) (fin := fun _ => true) (s := ()) (fun _ _ => True) trivial ?_ ?_) ?_
 ·
  intro p c r s h _
  have hz := jf h
  have e1 := jo h
  have w1 : wrap64 ((p.length : Int) + 1) = (p.length : Int) + 1 := aV (by omega) (by omega)
  simp only [eF.l0, e1, w1, au]
  clear w1 e1
  cases e : UD c with
  | true =>
   simp only [if_true]
   refine ⟨(fun v hv => by cases hv), fun s' hs => ⟨trivial, fun v hv => ?_⟩⟩
   refine vp (by omega) (vp (by omega) (vp (by omega) (jA (CX c) (vp e hv))))
  | false =>
   refine ⟨(fun v hv => ?_), fun s' hs => by simp at hs⟩
   simp only [Bool.false_eq_true, if_false, Sum.inl.injEq] at hv
   subst hv
   refine vp (by omega) (vp (by omega) (vp (by omega) (jA (CX c) (vn (by rw [e]; simp) (vs _)))))
 ·
  intro s _
  simp only [eF.l0]
  exact vn (by omega) (vs _)
 ·
  clear hl
  induction l with
  | nil => rfl
  | cons c r ih =>
   unfold run
   cases e : UD c with
   | true => simp [e, ih]
   | false => simp [e]
theorem Fz (l : Str) (hl : l.length ≤ 1000000000000000) : Ev (fun k => jk.f k (aW l)) (Gz l) := by
 unfold jk.f Gz
 rw [au]
 cases l with
 | nil => exact vn (by simp) (vs _)
 | cons c r =>
  simp only [aaN]
  refine vp (by simp only [List.length_cons]; omega) ?_
  by_cases h2 : (c :: r).length ≤ 30
  ·
   rw [decide_eq_true h2]
   refine vp (by omega) (vp (by simp) (jA (yu c) ?_))
   cases e : Il c with
   | true => exact vp rfl (vb (Bh (c :: r) hl) (vs _))
   | false => exact vn (by simp) (vs _)
  ·
   rw [decide_eq_false h2]
   exact vn (by omega) (vs _)
theorem vO (l : Str) (hl : l.length ≤ 140737488355328) : Ev (fun k => gI.f k (aW l)) (isSmall l) := by
 unfold gI.f isSmall
 refine vb (Fz l (by omega)) ?_
 cases e : Gz l with
 | true =>
  refine vp rfl (jA (l9 l hl) (vq (vs _) ?_))
  simp only [lU, Gm, Bool.true_and]
 | false => exact vn (by simp) (vs _)
theorem FB (l : Str) (hl : l.length ≤ 1000000000000000) : Ev (fun k => bP.f k (aW l)) (Gz l) := by
 unfold bP.f
 have hj' : ∀ i : Int, Ev (fun k => bP.j1 k (aW l) i false) (decide (1 ≤ l.length) && decide (l.length ≤ 30)) := by
  intro i
  refine vc ?_
  simp only [bP.j1, au]
  by_cases h1 : 1 ≤ l.length
  ·
   rw [decide_eq_true h1]
   refine vn (by simp) (vp (by omega) (vq (vs _) ?_))
   rw [Bool.true_and]
   by_cases h2 : l.length ≤ 30
   ·
    rw [decide_eq_true h2]; exact decide_eq_true (by omega)
   ·
    rw [decide_eq_false h2]; exact decide_eq_false (by omega)
  ·
   rw [decide_eq_false h1]
   exact vn (by simp) (vn (by omega) (vs _))
 refine vq (pG (xs := l) (F := fun k (_ : Nat) i => bP.l0 k (aW l) i) (st := fun n c => if n ≤ 30 then (if UD c = true then (if n = 0 then (if Il c = true then .inr (n + 1) else .inl false) else .inr (n + 1)) else .inl false) else .inl (decide (1 ≤ l.length) && decide (l.length ≤ 30))) (fin := fun _ => decide (1 ≤ l.length) && decide (l.length ≤ 30)) (s := 0) (fun p n => n = p.length) rfl ?_ ?_) ?_
 ·
  intro p c r n h hn
  subst hn
  have hz := jf h
  have e1 := jo h
  have w1 : wrap64 ((p.length : Int) + 1) = (p.length : Int) + 1 := aV (by omega) (by omega)
  by_cases h20 : p.length ≤ 30
  ·
   simp only [if_pos h20]
   have hd : decide ((p.length : Int) ≤ 30) = true := decide_eq_true (by omega)
   simp only [bP.l0, hd, au]
   have h45 := wK c 45 (by omega)
   have hlet : UD c = true → (Il c = true ↔ ¬ (c.toNat : Int) ≤ 57) := Qc (p := fun c => UD c = true → (Il c = true ↔ ¬ (c.toNat : Int) ≤ 57)) (by decide +kernel) c
   cases e : UD c with
   | true =>
    have hlt := hlet e
    have go : ∀ v, Ev (fun k => if (p.length : Int) = 0 then (if (c.toNat : Int) ≤ 57 then some false else bP.l0 k (aW l) ((p.length : Int) + 1)) else bP.l0 k (aW l) ((p.length : Int) + 1)) v → Ev (fun k => if (p.length : Int) < (l.length : Int) then bP.j1 (k + 0) (aW l) (p.length : Int) true else bP.j1 (k + 0) (aW l) (p.length : Int) false) v := by
     intro v hv
     refine vp (by omega) (vc ?_)
     simp only [bP.j1, e1, w1, au]
     clear w1 e1
     refine vp trivial (vp (by omega) (vp (by omega) (jA (sD c) ?_)))
     cases ea : Bg c with
     | true => exact vp rfl hv
     | false =>
      have : c = 45 := by
       unfold UD at e
       rw [ea, Bool.false_or] at e
       exact of_decide_eq_true e
      exact vn (by simp) (vp (h45.mpr this) hv)
    simp only [if_true]
    by_cases h0 : p.length = 0
    ·
     simp only [if_pos h0]
     by_cases hL : Il c = true
     ·
      simp only [if_pos hL]
      refine ⟨(fun v hv => by cases hv), fun s' hs => ⟨?_, fun v hv => ?_⟩⟩
      ·
       cases hs; simp
      ·
       exact go v (vp (by omega) (vn (hlt.mp hL) hv))
     ·
      simp only [if_neg hL]
      refine ⟨(fun v hv => ?_), fun s' hs => by cases hs⟩
      cases hv
      exact go false (vp (by omega) (vp (Decidable.not_not.mp (fun hh => hL (hlt.mpr hh))) (vs _)))
    ·
     simp only [if_neg h0]
     refine ⟨(fun v hv => by cases hv), fun s' hs => ⟨?_, fun v hv => ?_⟩⟩
     ·
      cases hs; simp
     ·
      exact go v (vn (by omega) hv)
   | false =>
    refine ⟨(fun v hv => ?_), fun s' hs => by simp at hs⟩
    simp only [Bool.false_eq_true, if_false, Sum.inl.injEq] at hv
    subst hv
    refine vp (by omega) (vc ?_)
    simp only [bP.j1, e1, w1, au]
    clear w1 e1
    unfold UD at e
    rw [Bool.or_eq_false_iff] at e
    exact vp trivial (vp (by omega) (vp (by omega) (jA (sD c) (vn (by rw [e.1]; simp) (vn (fun hh => (of_decide_eq_false e.2) (h45.mp hh)) (vs _))))))
  ·
   simp only [if_neg h20]
   have hd : decide ((p.length : Int) ≤ 30) = false := decide_eq_false (by omega)
   refine ⟨(fun v hv => ?_), fun s' hs => by cases hs⟩
   cases hv
   simp only [bP.l0, hd, au]
   clear w1 e1
   exact vp (by omega) (hj' _)
 ·
  intro s hs
  subst hs
  simp only [bP.l0, au]
  exact vn (by omega) (hj' _)
 ·
  have key : ∀ (r : Str) (n : Nat), 1 ≤ n → n + r.length = l.length → run (fun n c => if n ≤ 30 then (if UD c = true then (if n = 0 then (if Il c = true then .inr (n + 1) else .inl false) else .inr (n + 1)) else .inl false) else .inl (decide (1 ≤ l.length) && decide (l.length ≤ 30))) (fun _ => decide (1 ≤ l.length) && decide (l.length ≤ 30)) r n = (decide (l.length ≤ 30) && r.all UD) := by
   intro r
   induction r with
   | nil => intro n h1 h2; have : decide (1 ≤ l.length) = true := decide_eq_true (by simp at h2; omega); simp only [run, this]; simp
   | cons c r ih =>
    intro n h1 hn
    simp only [List.length_cons] at hn
    unfold run
    have h1l : decide (1 ≤ l.length) = true := decide_eq_true (by omega)
    by_cases h20 : n ≤ 30
    ·
     simp only [if_pos h20, if_neg (show ¬ n = 0 by omega)]
     cases e : UD c with
     | true => simp [e, ih (n + 1) (by omega) (by omega)]
     | false => simp [e]
    ·
     simp only [if_neg h20]
     have : decide (l.length ≤ 30) = false := decide_eq_false (by omega)
     simp [this]
  cases l with
  | nil => simp [run, Gz]
  | cons c r =>
   unfold run Gz
   have hc := key r 1 (by omega) (by simp; omega)
   simp only [if_pos (show (0 : Nat) ≤ 30 by omega), if_true]
   cases e : UD c with
   | true =>
    cases e2 : Il c with
    | true => simp only [if_true]; rw [hc]; simp [e]
    | false => simp
   | false => simp [e]
theorem Au (l : Str) (hl : l.length ≤ 140737488355328) : Ev (fun k => kE.f k (aW l)) (isSmall l) := by
 unfold kE.f isSmall
 refine vb (FB l (by omega)) ?_
 cases e : Gz l with
 | true =>
  refine vp rfl (jA (mg l hl) (vq (vs _) ?_))
  simp only [lU, Gm, Bool.true_and]
 | false => exact vn (by simp) (vs _)
/-! The place of a name. -/
def fidx (n : Str) : List (Str × Str) → Nat → Int
 | [], _ => -1
 | c :: r, i => if low c.1 = low n then (i : Int) else fidx n r (i + 1)
def small (ls : List (Str × Str)) : Prop := ∀ x ∈ ls, x.1.length ≤ 1048576 ∧ x.2.length ≤ 1048576
theorem CY {ls : List (Str × Str)} (h : Aq ls ≤ 1048576) : small ls := fun x hx => by
 have := ahv hx
 exact ⟨by omega, by omega⟩
theorem Qd (n : Str) (r : List (Str × Str)) : ∀ i : Nat, fidx n r i = -1 ∨ ((i : Int) ≤ fidx n r i ∧ fidx n r i < i + r.length) := by
 induction r with
 | nil => intro i; exact Or.inl rfl
 | cons c r ih =>
  intro i
  unfold fidx
  split
  ·
   right; simp only [List.length_cons]; omega
  ·
   rcases ih (i + 1) with h | ⟨h1, h2⟩
   ·
    exact Or.inl h
   ·
    right; simp only [List.length_cons]; omega
theorem Wq (n : Str) (r : List (Str × Str)) : ∀ i : Nat, run (fun (i : Nat) (c : Str × Str) => if low c.1 = low n then .inl (i : Int) else .inr (i + 1)) (fun _ => (-1 : Int)) r i = fidx n r i := by
 induction r with
 | nil => intro i; rfl
 | cons c r ih =>
  intro i
  unfold run fidx
  by_cases e : low c.1 = low n
  ·
   simp only [if_pos e]
  ·
   simp only [if_neg e, ih]
theorem FC (ls : List (Str × Str)) (n : Str) (hs : small ls) (hn : n.length ≤ 1048576) (hl : ls.length ≤ 1048576) : Ev (fun k => jF.f k (ls.map sN) (aW n)) (fidx n ls 0) := by
 unfold jF.f
 refine vq (pG (xs := ls) (F := fun k (_ : Nat) i => jF.l0 k (ls.map sN) (aW n) i) (st := fun i c => if low c.1 = low n then .inl (i : Int) else .inr (i + 1)) (fin := fun _ => (-1 : Int)) (s := 0) (fun p i => i = p.length) rfl ?_ ?_) (Wq n ls 0)
 ·
  intro p c r i h hi
  subst hi
  have hz := jf h
  have e1 := xB h
  have hc := hs c (by rw [h]; simp)
  have w1 : wrap64 ((p.length : Int) + 1) = (p.length : Int) + 1 := aV (by omega) (by omega)
  have hq := LU c.1 n (by omega) (by omega)
  simp only [jF.l0, e1, w1, List.length_map, sN, hq]
  clear w1 e1
  by_cases e : low c.1 = low n
  ·
   simp only [if_pos e]
   refine ⟨(fun v hv => ?_), fun s' hs => by cases hs⟩
   cases hv
   exact vp (by omega) (vp (by omega) (jA rfl (vp (decide_eq_true e) (vs _))))
  ·
   simp only [if_neg e]
   refine ⟨(fun v hv => by cases hv), fun s' hs => ⟨?_, fun v hv => ?_⟩⟩
   ·
    cases hs; simp
   ·
    exact vp (by omega) (vp (by omega) (jA rfl (vn (by simp [e]) hv)))
 ·
  intro s _
  simp only [jF.l0, List.length_map]
  exact vn (by omega) (vs _)
theorem Aw (ls : List (Str × Str)) (n : Str) (hs : small ls) (hn : n.length ≤ 1048576) (hl : ls.length ≤ 1048576) : Ev (fun k => kM.f k (ls.map sN) (aW n)) (fidx n ls 0) := by
 unfold kM.f eX.f
 refine vb ?_ (vs _)
 rw [List.length_map]
 refine vq (pG (xs := ls) (F := fun k (_ : Nat) i => eX.l0 k (ls.map sN) (ls.length : Int) i (aW n)) (st := fun i c => if low c.1 = low n then .inl (i : Int) else .inr (i + 1)) (fin := fun _ => (-1 : Int)) (s := 0) (fun p i => i = p.length) rfl ?_ ?_) (Wq n ls 0)
 ·
  intro p c r i h hi
  subst hi
  have hz := jf h
  have e1 := xB h
  have hc := hs c (by rw [h]; simp)
  have w1 : wrap64 ((p.length : Int) + 1) = (p.length : Int) + 1 := aV (by omega) (by omega)
  have hq := LQ c.1 n (by omega) (by omega)
  simp only [eX.l0, nO.f, e1, w1, List.length_map, sN, hq, Option.bind_some]
  clear w1 e1
  by_cases e : low c.1 = low n
  ·
   simp only [if_pos e]
   refine ⟨(fun v hv => ?_), fun s' hs => by cases hs⟩
   cases hv
   exact vp (by omega) (vp (by omega) (vp (by omega) (vp (decide_eq_true e) (vs _))))
  ·
   simp only [if_neg e]
   refine ⟨(fun v hv => by cases hv), fun s' hs => ⟨?_, fun v hv => ?_⟩⟩
   ·
    cases hs; simp
   ·
    exact vp (by omega) (vp (by omega) (vp (by omega) (vn (by simp [e]) hv)))
 ·
  intro s _
  simp only [eX.l0]
  exact vn (by omega) (vs _)
/-! Texts: the model. -/
def okB (c : UInt8) : Bool := 32 ≤ c && c ≤ 126
def kW (l : Str) : Bool := l.all okB && decide (l.length ≤ 200)
theorem afj (c : UInt8) (h : (c.toNat : Int) < 32) : okB c = false := by
 have : c < 32 := (avM c 32 (by omega)).mp h
 unfold okB
 simp [UInt8.le_iff_toNat_le, UInt8.lt_iff_toNat_lt] at this ⊢
 omega
theorem afk (c : UInt8) (h : (c.toNat : Int) > 126) : okB c = false := by
 unfold okB
 simp [UInt8.le_iff_toNat_le, UInt8.lt_iff_toNat_lt]
 omega
theorem aaO (c : UInt8) (h : ¬ (c.toNat : Int) < 32) (h2 : ¬ (c.toNat : Int) > 126) : okB c = true := by
 unfold okB
 simp [UInt8.le_iff_toNat_le, UInt8.lt_iff_toNat_lt]
 omega
theorem Io {l : Str} (h : kW l = true) : l.length ≤ 200 := by
 unfold kW at h; simp at h; exact h.2
theorem GH (l : Str) (hl : l.length ≤ 1000000000000000) (r : Str) : ∀ (p : Str), l = p ++ r → Ev (fun k => bg.l0 k (aW l) (l.length : Int) (p.length : Int)) (r.all okB && decide (l.length ≤ 200)) := by
 induction r with
 | nil =>
  intro p h
  have hz : l.length = p.length := by rw [h, List.append_nil]
  refine vc ?_
  simp only [bg.l0, au]
  repeat (first | refine vp (by first | assumption | omega | decide) ?_ | refine vn (by first | assumption | omega | decide) ?_)
  exact vq (vs _) (by simp; omega)
 | cons c r ih =>
  intro p h
  have hz : l.length = p.length + (r.length + 1) := by rw [h]; simp
  have e1 : bt (aW l) (p.length : Int) = (c.toNat : Int) := by rw [h]; exact X4 p r c
  have := ih (p ++ [c]) (by rw [h]; simp)
  rw [nR] at this
  refine vc ?_
  simp (disch := omega) only [bg.l0, au, e1, aV]
  by_cases h1 : (c.toNat : Int) < 32
  ·
   repeat (first | refine vp (by first | assumption | omega | decide) ?_ | refine vn (by first | assumption | omega | decide) ?_)
   exact vq (vs _) (by simp [afj c h1])
  ·
   by_cases h2 : (c.toNat : Int) > 126
   ·
    repeat (first | refine vp (by first | assumption | omega | decide) ?_ | refine vn (by first | assumption | omega | decide) ?_)
    exact vq (vs _) (by simp [afk c h2])
   ·
    repeat (first | refine vp (by first | assumption | omega | decide) ?_ | refine vn (by first | assumption | omega | decide) ?_)
    exact vq this (by simp [aaO c h1 h2])
theorem pI (l : Str) (hl : l.length ≤ 1000000000000000) : Ev (fun k => bg.f k (aW l)) (kW l) := by
 unfold bg.f
 rw [au]
 exact GH l hl l [] rfl
theorem GI (l : Str) (hl : l.length ≤ 1000000000000000) (r : Str) : ∀ (p : Str), l = p ++ r → Ev (fun k => aQ.l0 k (aW l) (p.length : Int)) (r.all okB && decide (l.length ≤ 200)) := by
 induction r with
 | nil =>
  intro p h
  have hz : l.length = p.length := by rw [h, List.append_nil]
  refine vc ?_
  simp only [aQ.l0, au]
  repeat (first | refine vp (by first | assumption | omega | decide) ?_ | refine vn (by first | assumption | omega | decide) ?_)
  refine vc ?_
  simp only [aQ.j1, au]
  repeat (first | refine vp (by first | assumption | omega | decide) ?_ | refine vn (by first | assumption | omega | decide) ?_)
  exact vq (vs _) (by simp; omega)
 | cons c r ih =>
  intro p h
  have hz : l.length = p.length + (r.length + 1) := by rw [h]; simp
  have e1 : bt (aW l) (p.length : Int) = (c.toNat : Int) := by rw [h]; exact X4 p r c
  have := ih (p ++ [c]) (by rw [h]; simp)
  rw [nR] at this
  by_cases h0 : (p.length : Int) ≤ 200
  ·
   refine vc ?_
   simp only [aQ.l0, au]
   repeat (first | refine vp (by first | assumption | omega | decide) ?_ | refine vn (by first | assumption | omega | decide) ?_)
   refine vc ?_
   simp (disch := omega) only [aQ.j1, au, e1, aV, decide_eq_true h0]
   by_cases h1 : (c.toNat : Int) < 32
   ·
    repeat (first | refine vp (by first | assumption | omega | decide) ?_ | refine vn (by first | assumption | omega | decide) ?_)
    exact vq (vs _) (by simp [afj c h1])
   ·
    by_cases h2 : (c.toNat : Int) > 126
    ·
     repeat (first | refine vp (by first | assumption | omega | decide) ?_ | refine vn (by first | assumption | omega | decide) ?_)
     exact vq (vs _) (by simp [afk c h2])
    ·
     repeat (first | refine vp (by first | assumption | omega | decide) ?_ | refine vn (by first | assumption | omega | decide) ?_)
     exact vq this (by simp [aaO c h1 h2])
  ·
   refine vc ?_
   simp only [aQ.l0, au]
   repeat (first | refine vp (by first | assumption | omega | decide) ?_ | refine vn (by first | assumption | omega | decide) ?_)
   refine vc ?_
   simp only [aQ.j1, au, decide_eq_false h0]
   repeat (first | refine vp (by first | assumption | omega | decide) ?_ | refine vn (by first | assumption | omega | decide) ?_)
   have d1 : decide ((l.length : Int) ≤ 200) = false := decide_eq_false (by omega)
   have d2 : decide (l.length ≤ 200) = false := decide_eq_false (by omega)
   exact vq (vs _) (by rw [d1, d2, Bool.and_false])
theorem kU (l : Str) (hl : l.length ≤ 1000000000000000) : Ev (fun k => aQ.f k (aW l)) (kW l) := by
 unfold aQ.f
 exact GI l hl l [] rfl
/-! Words quoted. -/
def LV (c : UInt8) : Str := if c = 34 ∨ c = 92 then [92, c] else [c]
def esc : Str → Str
 | [] => []
 | c :: r => LV c ++ esc r
def quote (l : Str) : Str := 34 :: (esc l ++ [34])
def qw (l : Str) : Str := if kW l = true then (if Qb l = true then l else quote l) else []
theorem Qe (a b : Str) : esc (a ++ b) = esc a ++ esc b := by
 induction a with
 | nil => rfl
 | cons c a ih => simp only [List.cons_append, esc, ih, List.append_assoc]
theorem afl (c : UInt8) : (LV c).length ≤ 2 := by unfold LV; split <;> simp
theorem J9 (l : Str) : (esc l).length ≤ 2 * l.length := by
 induction l with
 | nil => simp [esc]
 | cons c r ih => have := afl c; simp only [esc, List.length_append, List.length_cons]; omega
theorem X5 (l : Str) : (qw l).length ≤ 2 * l.length + 2 := by
 unfold qw quote
 have := J9 l
 split
 ·
  split
  ·
   omega
  ·
   simp only [List.length_cons, List.length_append, List.length_nil]; omega
 ·
  simp
theorem J_ (l : Str) (hl : l.length ≤ 1048576) : Ev (fun k => iY.f k (aW l)) (aW (qw l)) := by
 have key : ∀ (r p : Str), l = p ++ r → Ev (fun k => iY.l0 k (aW l) (zn (34 :: esc p)) (l.length : Int) (p.length : Int)) (aW (quote l)) := by
  intro r
  induction r with
  | nil =>
   intro p h
   rw [List.append_nil] at h
   subst h
   have h1 := J9 l
   refine vc ?_
   simp only [iY.l0, LW]
   refine vn (by omega) (vp (by simp only [List.length_cons]; omega) (vq (vs _) ?_))
   rw [show ([34] : List Int) = zn [34] from rfl, ← Gn, xC]
   rfl
  | cons c r ih =>
   intro p h
   have hz := jf h
   have e1 := jo h
   have h1 := J9 p
   have hh := ih (p ++ [c]) (by rw [h]; simp)
   rw [nR, Qe] at hh
   have w1 : wrap64 ((p.length : Int) + 1) = (p.length : Int) + 1 := aV (by omega) (by omega)
   have Qg := wK c 34 (by omega)
   have h92 := wK c 92 (by omega)
   have b1 : (34 :: esc p : Str).length < 140737488355328 := by simp only [List.length_cons]; omega
   have b2 : (34 :: esc p ++ [92] : Str).length < 140737488355328 := by simp only [List.length_cons, List.length_append, List.length_nil]; omega
   refine vc ?_
   have e92 : ([92] : List Int) = zn [92] := rfl
   have ec : ([(c.toNat : Int)] : List Int) = zn [c] := rfl
   simp only [iY.l0, e1, w1, au, LW, Option.bind_some, e92, ec, ← Gn]
   clear w1 e1
   refine vp (by omega) (vp (by omega) (vp (by omega) ?_))
   have two : LV c = [92, c] → (34 :: esc p ++ [92]) ++ [c] = 34 :: (esc p ++ (esc [c])) := fun h => by simp [esc, h]
   have one : LV c = [c] → (34 :: esc p) ++ [c] = 34 :: (esc p ++ (esc [c])) := fun h => by simp [esc, h]
   by_cases c1 : (c.toNat : Int) = 34
   ·
    have hc : c = 34 := Qg.mp c1
    refine vp c1 (vp b1 (vp b2 ?_))
    rw [two (by unfold LV; rw [if_pos (Or.inl hc)])]
    exact hh
   ·
    have hc : ¬ c = 34 := fun h => c1 (Qg.mpr h)
    by_cases c2 : (c.toNat : Int) = 92
    ·
     have hc2 : c = 92 := h92.mp c2
     refine vn c1 (vp c2 (vp b1 (vp b2 ?_)))
     rw [two (by unfold LV; rw [if_pos (Or.inr hc2)])]
     exact hh
    ·
     have hc2 : ¬ c = 92 := fun h => c2 (h92.mpr h)
     refine vn c1 (vn c2 (vp b1 ?_))
     rw [one (by unfold LV; rw [if_neg (by simp [hc, hc2])])]
     exact hh
 unfold iY.f qw
 refine vb (pI l (by omega)) ?_
 cases e1 : kW l with
 | false => exact vn (by simp) (vq (vs _) rfl)
 | true =>
  refine vp rfl (vb (J7 l (by omega)) ?_)
  cases e2 : Qb l with
  | true => exact vp rfl (vs _)
  | false =>
   have := key l [] rfl
   simp only [au]
   exact vn (by simp) this
theorem Ko (l : Str) (hl : l.length ≤ 1048576) : Ev (fun k => qF.f k (aW l)) (aW (qw l)) := by
 have key : ∀ (r p : Str), l = p ++ r → Ev (fun k => jS.l0 k (aW l) (aW (34 :: esc p)) (p.length : Int)) (aW (quote l)) := by
  intro r
  induction r with
  | nil =>
   intro p h
   rw [List.append_nil] at h
   subst h
   have h1 := J9 l
   refine vc ?_
   simp only [jS.l0, au]
   refine vn (by omega) (vp (by simp only [List.length_cons]; omega) (vq (vs _) ?_))
   rw [show (⟨#[34]⟩ : ByteArray) = aW [34] from rfl, jZ]
   rfl
  | cons c r ih =>
   intro p h
   have hz := jf h
   have e1 := jo h
   have h1 := J9 p
   have hh := ih (p ++ [c]) (by rw [h]; simp)
   rw [nR, Qe] at hh
   have w1 : wrap64 ((p.length : Int) + 1) = ((p.length + 1 : Nat) : Int) := (aV (by omega) (by omega)).trans (by omega)
   have w2 : ((p.length + 1 : Nat) : Int) = (p.length : Int) + 1 := by omega
   have Qg := wK c 34 (by omega)
   have h92 := wK c 92 (by omega)
   have e3 : strOfNums ([92] : List Int) = aW [92] := xC [92]
   have e4 : (l.drop p.length).take (p.length + 1 - p.length) = [c] := by
    rw [h, List.drop_left, show p.length + 1 - p.length = 1 by omega]; rfl
   refine vc ?_
   simp only [jS.l0, e1, w1, au, Option.bind_some, e3, Int.toNat_natCast, jw, e4, jZ]
   clear w1 e1 e3 e4
   simp only [w2]
   refine vp (by omega) (vp (by omega) ?_)
   have two : LV c = [92, c] → (34 :: esc p ++ [92]) ++ [c] = 34 :: (esc p ++ (esc [c])) := fun h => by simp [esc, h]
   have one : LV c = [c] → (34 :: esc p) ++ [c] = 34 :: (esc p ++ (esc [c])) := fun h => by simp [esc, h]
   have b1 : (34 :: esc p : Str).length + ([92] : Str).length ≤ 9223372036854775807 := by simp only [List.length_cons, List.length_nil]; omega
   have b2 : (34 :: esc p ++ [92] : Str).length + ([c] : Str).length ≤ 9223372036854775807 := by simp only [List.length_cons, List.length_append, List.length_nil]; omega
   have b3 : (34 :: esc p : Str).length + ([c] : Str).length ≤ 9223372036854775807 := by simp only [List.length_cons, List.length_nil]; omega
   by_cases c1 : (c.toNat : Int) = 34
   ·
    have hc : c = 34 := Qg.mp c1
    refine vp c1 (vp b1 (vp (by omega) (vp (by omega) (vp b2 ?_))))
    rw [two (by unfold LV; rw [if_pos (Or.inl hc)])]
    exact hh
   ·
    have hc : ¬ c = 34 := fun h => c1 (Qg.mpr h)
    by_cases c2 : (c.toNat : Int) = 92
    ·
     have hc2 : c = 92 := h92.mp c2
     refine vn c1 (vp c2 (vp b1 (vp (by omega) (vp (by omega) (vp b2 ?_)))))
     rw [two (by unfold LV; rw [if_pos (Or.inr hc2)])]
     exact hh
    ·
     have hc2 : ¬ c = 92 := fun h => c2 (h92.mpr h)
     refine vn c1 (vn c2 (vp (by omega) (vp (by omega) (vp b3 ?_))))
     rw [one (by unfold LV; rw [if_neg (by simp [hc, hc2])])]
     exact hh
 unfold qF.f qw
 refine vb (kU l (by omega)) ?_
 cases e1 : kW l with
 | false => exact vn (by simp) (vq (vs _) rfl)
 | true =>
  refine vp rfl (vb (J8 l (by omega)) ?_)
  cases e2 : Qb l with
  | true => exact vp rfl (vs _)
  | false =>
   have := key l [] rfl
   unfold jS.f
   exact vn (by simp) (vb this (vs _))
/-! Kinds as texts, valid kinds. -/
def aaP (p : Str × Str) : Str := [59, 32] ++ p.1 ++ [61] ++ qw p.2
def sO : List (Str × Str) → Str
 | [] => []
 | c :: r => aaP c ++ sO r
def Kq (a b : Str) (ps : List (Str × Str)) : Str := (a ++ [47] ++ b) ++ sO ps
def kfl (q : List (Str × Str)) : List (Str × Str) → Bool
 | [] => true
 | c :: r => isSmall c.1 && (kW c.2 && decide (c.2.length ≤ 40)) && decide (¬ (fidx c.1 q 0 ≥ 0)) && kfl (q ++ [c]) r
def uS (a b : Str) (ps : List (Str × Str)) : Bool := isSmall a && isSmall b && decide (¬ (ps.length > 4)) && kfl [] ps && decide ((Kq a b ps).length ≤ 150)
theorem RN (p : Str × Str) : (aaP p).length = 3 + p.1.length + (qw p.2).length := by
 unfold aaP; simp only [List.length_append, List.length_cons, List.length_nil]
 omega
theorem Kr (a b : List (Str × Str)) : sO (a ++ b) = sO a ++ sO b := by
 induction a with
 | nil => rfl
 | cons c a ih => simp only [List.cons_append, sO, ih, List.append_assoc]
theorem RP (ps : List (Str × Str)) : (sO ps).length ≤ 2 * Aq ps + 5 * ps.length := by
 induction ps with
 | nil => simp [sO]
 | cons c r ih =>
  have h1 := RN c
  have h2 := X5 c.2
  simp only [sO, Aq, List.length_append, List.length_cons]
  omega
theorem yw (a b : List (Str × Str)) : Aq (a ++ b) = Aq a + Aq b := by
 induction a with
 | nil => simp [Aq]
 | cons c a ih => simp only [List.cons_append, Aq, ih]; omega
theorem Qh {ls p r : List (Str × Str)} (h : ls = p ++ r) (hs : small ls) : small p := fun x hx => hs x (by rw [h]; exact List.mem_append_left _ hx)
theorem Kt {ls p r : List (Str × Str)} (h : ls = p ++ r) : (ls.map sN).take p.length = p.map sN := by
 rw [h, List.map_append]
 exact List.take_left' (by simp)
theorem LX (a b : Str) (ps : List (Str × Str)) (ha : a.length ≤ 1048576) (hb : b.length ≤ 1048576) (hz : Aq ps ≤ 1048576) (hn : ps.length ≤ 1048576) : Ev (fun k => gU.f k (aW a) (aW b) (ps.map sN)) (aW (Kq a b ps)) := by
 have hs := CY hz
 unfold gU.f
 have e47 : (⟨#[47]⟩ : ByteArray) = aW [47] := rfl
 simp only [e47, jZ, au, List.length_map]
 refine vp (by omega) (vp (by first | omega | (simp only [List.length_append, List.length_cons, List.length_nil]; omega)) ?_)
 have key : ∀ (r p : List (Str × Str)), ps = p ++ r → Ev (fun k => gU.l0 k (aW (a ++ [47] ++ b ++ sO p)) (ps.map sN) (ps.length : Int) (p.length : Int)) (aW (Kq a b ps)) := by
  intro r
  induction r with
  | nil =>
   intro p h
   rw [List.append_nil] at h
   subst h
   refine vc ?_
   simp only [gU.l0]
   exact vn (by omega) (vs _)
  | cons c r ih =>
   intro p h
   have hz2 := jf h
   have e1 := xB h
   have hc := hs c (by rw [h]; simp)
   have hh := ih (p ++ [c]) (by rw [h]; simp)
   rw [nR, Kr] at hh
   have hq := X5 c.2
   have hp : (sO p).length ≤ 20000000 := by
    have h1 := RP p
    have h2 : Aq p ≤ Aq ps := by rw [h, yw]; omega
    omega
   have hi := J_ c.2 (by omega)
   have w1 : wrap64 ((p.length : Int) + 1) = (p.length : Int) + 1 := aV (by omega) (by omega)
   have e59 : (⟨#[59, 32]⟩ : ByteArray) = aW [59, 32] := rfl
   have e61 : (⟨#[61]⟩ : ByteArray) = aW [61] := rfl
   refine vc ?_
   simp only [gU.l0, e1, w1, sN, e59, e61, au, jZ, List.length_map]
   clear w1 e1
   refine vp (by omega) (vp (by omega) (vp (by omega) (vp (by first | omega | (simp only [List.length_cons, List.length_nil]; omega)) (vp (by first | omega | (simp only [List.length_append, List.length_cons, List.length_nil]; omega)) (vb hi ?_)))))
   simp only [au, jZ]
   refine vp (by first | omega | (simp only [List.length_append, List.length_cons, List.length_nil]; omega)) (vp (by first | omega | (simp only [List.length_append, List.length_cons, List.length_nil]; omega)) ?_)
   have e : a ++ [47] ++ b ++ sO p ++ ([59, 32] ++ c.1 ++ [61] ++ qw c.2) = a ++ [47] ++ b ++ (sO p ++ sO [c]) := by
    simp [sO, aaP]
   rw [e]
   exact hh
 have := key ps [] rfl
 simpa [sO] using this
theorem BP (a b : Str) (ps : List (Str × Str)) (ha : a.length ≤ 1048576) (hb : b.length ≤ 1048576) (hz : Aq ps ≤ 1048576) (hn : ps.length ≤ 1048576) : Ev (fun k => bJ.f k (aW a) (aW b) (ps.map sN)) (uS a b ps) := by
 have hs := CY hz
 have ht := LX a b ps ha hb hz hn
 have hbad : Ev (fun k => bJ.j0 k true (aW a) (aW b) (ps.map sN)) false := by
  refine vc ?_
  simp only [bJ.j0]
  exact vp trivial (vs _)
 have key : ∀ (r p : List (Str × Str)), ps = p ++ r → Ev (fun k => bJ.l0 k (ps.map sN) (ps.length : Int) (p.length : Int) (aW a) (aW b) (ps.map sN)) (kfl p r && decide ((Kq a b ps).length ≤ 150)) := by
  intro r
  induction r with
  | nil =>
   intro p h
   rw [List.append_nil] at h
   subst h
   refine vc ?_
   simp only [bJ.l0, kfl, Bool.true_and]
   refine vn (by omega) (vb ht (vq (vs _) ?_))
   rw [au]
   by_cases h1 : (Kq a b ps).length ≤ 150
   ·
    rw [decide_eq_true h1]; exact decide_eq_true (by omega)
   ·
    rw [decide_eq_false h1]; exact decide_eq_false (by omega)
  | cons c r ih =>
   intro p h
   have hz2 := jf h
   have e1 := xB h
   have hc := hs c (by rw [h]; simp)
   have hh := ih (p ++ [c]) (by rw [h]; simp)
   rw [nR] at hh
   have w1 : wrap64 ((p.length : Int) + 1) = (p.length : Int) + 1 := aV (by omega) (by omega)
   have i1 := vO c.1 (by omega)
   have i2 := pI c.2 (by omega)
   have i3 := Aw p c.1 (Qh h hs) hc.1 (by omega)
   have e3 := Kt h
   refine vc ?_
   simp only [bJ.l0, kfl, e1, w1, sN, au, List.length_map, Int.toNat_natCast]
   clear w1 e1
   refine vp (by omega) (vp (by omega) (vp (by omega) (vb i1 ?_)))
   cases q1 : isSmall c.1 with
   | false => exact vn (by simp) (vs _)
   | true =>
    refine vp rfl (vb i2 ?_)
    cases q2 : kW c.2 with
    | false => exact vn (by simp) (vs _)
    | true =>
     refine vp rfl ?_
     by_cases q3 : c.2.length ≤ 40
     ·
      rw [decide_eq_true q3]
      refine vn (by omega) (vp (by omega) ?_)
      rw [e3]
      refine vb i3 ?_
      by_cases q4 : fidx c.1 p 0 ≥ 0
      ·
       refine vp q4 (vq (vs _) ?_)
       rw [decide_eq_false (fun hn => hn q4)]; rfl
      ·
       refine vn q4 ?_
       rw [decide_eq_true q4]
       simpa using hh
     ·
      rw [decide_eq_false q3]
      exact vp (by omega) (vs _)
 unfold bJ.f uS
 refine vb (vO a (by omega)) ?_
 cases q1 : isSmall a with
 | false => exact vn (by simp) hbad
 | true =>
  refine vp rfl (vb (vO b (by omega)) ?_)
  cases q2 : isSmall b with
  | false => exact vn (by simp) hbad
  | true =>
   refine vp rfl (vc ?_)
   simp only [bJ.j0, List.length_map]
   by_cases q3 : ps.length > 4
   ·
    refine vp (decide_eq_true (by omega)) (vq (vs _) ?_)
    rw [decide_eq_false (fun hn => hn q3)]; rfl
   ·
    refine vn (by simp; omega) ?_
    rw [decide_eq_true q3]
    have := key ps [] rfl
    simpa using this
theorem Qi (l : Str) (hl : l.length ≤ 1000000000) : Ev (fun k => rC.f k (aW l)) (kW l && decide (l.length ≤ 40)) := by
 unfold rC.f
 refine vb (kU l (by omega)) ?_
 cases q2 : kW l with
 | false => exact vn (by simp) (vs _)
 | true =>
  refine vp rfl (vq (vs _) ?_)
  rw [au, Bool.true_and]
  by_cases h1 : l.length ≤ 40
  ·
   rw [decide_eq_true h1]; exact decide_eq_true (by omega)
  ·
   rw [decide_eq_false h1]; exact decide_eq_false (by omega)
theorem BQ (a b : Str) (ps : List (Str × Str)) (ha : a.length ≤ 1048576) (hb : b.length ≤ 1048576) (hz : Aq ps ≤ 1048576) (hn : ps.length ≤ 1048576) : Ev (fun k => aX.f k (aW a) (aW b) (ps.map sN)) (uS a b ps) := by
 have hs := CY hz
 have hbad : Ev (fun k => aX.j0 k true (aW a) (aW b) (ps.map sN)) false := by
  refine vc ?_
  simp only [aX.j0]
  exact vp trivial (vs _)
 have key : ∀ (r p : List (Str × Str)), ps = p ++ r → Ev (fun k => aX.l0 k (((a ++ [47] ++ b ++ sO p : Str).length : Nat) : Int) (p.length : Int) (aW a) (aW b) (ps.map sN)) (kfl p r && decide ((Kq a b ps).length ≤ 150)) := by
  intro r
  induction r with
  | nil =>
   intro p h
   rw [List.append_nil] at h
   subst h
   refine vc ?_
   simp only [aX.l0, kfl, Bool.true_and, List.length_map]
   refine vn (by omega) (vq (vs _) ?_)
   have e : a ++ [47] ++ b ++ sO ps = Kq a b ps := rfl
   rw [e]
   by_cases h1 : (Kq a b ps).length ≤ 150
   ·
    rw [decide_eq_true h1]; exact decide_eq_true (by omega)
   ·
    rw [decide_eq_false h1]; exact decide_eq_false (by omega)
  | cons c r ih =>
   intro p h
   have hz2 := jf h
   have e1 := xB h
   have hc := hs c (by rw [h]; simp)
   have hh := ih (p ++ [c]) (by rw [h]; simp)
   rw [nR] at hh
   have hp : (sO p).length ≤ 20000000 := by
    have h1 := RP p
    have h2 : Aq p ≤ Aq ps := by rw [h, yw]; omega
    omega
   have hq := X5 c.2
   have hk := RN c
   have i1 := Au c.1 (by omega)
   have i2 := Qi c.2 (by omega)
   have i3 := FC p c.1 (Qh h hs) hc.1 (by omega)
   have i4 := Ko c.2 (by omega)
   have e3 := Kt h
   have en : (a ++ [47] ++ b ++ sO (p ++ [c]) : Str).length = (a ++ [47] ++ b ++ sO p : Str).length + 3 + c.1.length + (qw c.2).length := by
    rw [Kr]
    simp only [List.length_append, sO, List.length_nil, hk]
    omega
   have hm : (a ++ [47] ++ b ++ sO p : Str).length ≤ 30000000 := by
    simp only [List.length_append, List.length_cons, List.length_nil]; omega
   rw [en] at hh
   generalize (a ++ [47] ++ b ++ sO p : Str).length = m at hh hm
   have w1 : Unit → wrap64 ((p.length : Int) + 1) = (p.length : Int) + 1 ∧ wrap64 (wrap64 (wrap64 ((m : Int) + 3) + (c.1.length : Int)) + ((qw c.2).length : Int)) = ((m + 3 + c.1.length + (qw c.2).length : Nat) : Int) := by
    intro _
    have x1 : wrap64 ((m : Int) + 3) = (m : Int) + 3 := aV (by omega) (by omega)
    rw [x1]
    clear x1
    have x2 : wrap64 ((m : Int) + 3 + (c.1.length : Int)) = (m : Int) + 3 + (c.1.length : Int) := aV (by omega) (by omega)
    rw [x2]
    clear x2
    exact ⟨aV (by omega) (by omega), (aV (by omega) (by omega)).trans (by omega)⟩
   refine vc ?_
   simp only [aX.l0, kfl, e1, (w1 ()).1, sN, au, List.length_map, Int.toNat_natCast]
   refine vp (by omega) (vp (by omega) (vb i1 ?_))
   cases q1 : isSmall c.1 with
   | false => exact vn (by simp) (vs _)
   | true =>
    refine vp rfl (vb i2 ?_)
    cases q2 : (kW c.2 && decide (c.2.length ≤ 40)) with
    | false => exact vn (by simp) (vs _)
    | true =>
     refine vp rfl (vp (by omega) ?_)
     rw [e3]
     refine vb i3 ?_
     by_cases q4 : fidx c.1 p 0 ≥ 0
     ·
      refine vp q4 (vq (vs _) ?_)
      rw [decide_eq_false (fun hn => hn q4)]; rfl
     ·
      refine vn q4 (vb i4 ?_)
      rw [decide_eq_true q4]
      simp only [au, (w1 ()).2]
      simpa using hh
 unfold aX.f uS
 refine vb (Au a (by omega)) ?_
 cases q1 : isSmall a with
 | false => exact vn (by simp) hbad
 | true =>
  refine vp rfl (vb (Au b (by omega)) ?_)
  cases q2 : isSmall b with
  | false => exact vn (by simp) hbad
  | true =>
   refine vp rfl (vc ?_)
   simp only [aX.j0, List.length_map, au]
   by_cases q3 : ps.length > 4
   ·
    refine vp (decide_eq_true (by omega)) (vq (vs _) ?_)
    rw [decide_eq_false (fun hn => hn q3)]; rfl
   ·
    refine vn (by simp; omega) ?_
    rw [decide_eq_true q3]
    have := key ps [] rfl
    have x1 : wrap64 ((a.length : Int) + (b.length : Int)) = (a.length : Int) + (b.length : Int) := aV (by omega) (by omega)
    rw [x1]
    clear x1
    have x2 : wrap64 ((a.length : Int) + (b.length : Int) + 1) = (((a ++ [47] ++ b ++ sO [] : Str).length : Nat) : Int) := by
     refine (aV (by omega) (by omega)).trans ?_
     simp only [sO, List.length_append, List.length_cons, List.length_nil]
     omega
    rw [x2]
    simpa using this
theorem yY (c : UInt8) : lY.f (c.toNat : Int) = some (Bg c) := by
 unfold lY.f Bg
 rw [yu, Ei]
 cases Il c <;> simp
theorem yZ (l : Str) (hl : l.length ≤ 1000000000000000) : Ev (fun k => dw.f k (aW l)) (l.all Bg) := by
 unfold dw.f
 rw [au]
 refine vq (pG (xs := l) (F := fun k (_ : Unit) i => dw.l0 k (aW l) (l.length : Int) i) (st := fun _ c => if Bg c = true then .inr () else .inl false) (fin := fun _ => true) (s := ()) (fun _ _ => True) trivial ?_ ?_) ?_
 ·
  intro p c r s h _
  have hz := jf h
  have e1 := jo h
  have w1 : wrap64 ((p.length : Int) + 1) = (p.length : Int) + 1 := aV (by omega) (by omega)
  simp only [dw.l0, e1, w1, au]
  clear w1 e1
  cases e : Bg c with
  | true =>
   simp only [if_true]
   refine ⟨(fun v hv => by cases hv), fun s' hs => ⟨trivial, fun v hv => ?_⟩⟩
   refine vp (by omega) (vp (by omega) (vp (by omega) (jA (yY c) (vp e hv))))
  | false =>
   refine ⟨(fun v hv => ?_), fun s' hs => by simp at hs⟩
   simp only [Bool.false_eq_true, if_false, Sum.inl.injEq] at hv
   subst hv
   refine vp (by omega) (vp (by omega) (vp (by omega) (jA (yY c) (vn (by rw [e]; simp) (vs _)))))
 ·
  intro s _
  simp only [dw.l0]
  exact vn (by omega) (vs _)
 ·
  clear hl
  induction l with
  | nil => rfl
  | cons c r ih =>
   unfold run
   cases e : Bg c with
   | true => simp [e, ih]
   | false => simp [e]
theorem Az (l : Str) (hl : l.length ≤ 1000000000000000) : Ev (fun k => jU.f k (aW l)) (Fv l) := by
 unfold jU.f Fv
 rw [au]
 by_cases h1 : 1 ≤ l.length
 ·
  rw [decide_eq_true h1]
  refine vp (by omega) ?_
  by_cases h2 : l.length ≤ 20
  ·
   rw [decide_eq_true h2]
   exact vp (by omega) (vb (yZ l hl) (vs _))
  ·
   rw [decide_eq_false h2]
   exact vn (by omega) (vs _)
 ·
  rw [decide_eq_false h1]
  exact vn (by omega) (vs _)
theorem AA (l : Str) (hl : l.length ≤ 1000000000000000) : Ev (fun k => bU.f k (aW l)) (Fv l) := by
 unfold bU.f
 have hj : Ev (fun k => bU.j1 k (aW l) (0 : Int) false) (decide (1 ≤ l.length) && decide (l.length ≤ 20)) := by
  refine vc ?_
  simp only [bU.j1, au]
  by_cases h1 : 1 ≤ l.length
  ·
   rw [decide_eq_true h1]
   refine vn (by simp) (vp (by omega) (vq (vs _) ?_))
   rw [Bool.true_and]
   by_cases h2 : l.length ≤ 20
   ·
    rw [decide_eq_true h2]; exact decide_eq_true (by omega)
   ·
    rw [decide_eq_false h2]; exact decide_eq_false (by omega)
  ·
   rw [decide_eq_false h1]
   exact vn (by simp) (vn (by omega) (vs _))
 have hj' : ∀ i : Int, Ev (fun k => bU.j1 k (aW l) i false) (decide (1 ≤ l.length) && decide (l.length ≤ 20)) := by
  intro i
  obtain ⟨K, hK⟩ := hj
  refine ⟨K + 1, fun k hk => ?_⟩
  have := hK k (by omega)
  obtain ⟨m, rfl⟩ : ∃ m, k = m + 1 := ⟨k - 1, by omega⟩
  simp only [bU.j1] at this ⊢
  exact this
 refine vq (pG (xs := l) (F := fun k (_ : Nat) i => bU.l0 k (aW l) i) (st := fun n c => if n ≤ 20 then (if Bg c = true then .inr (n + 1) else .inl false) else .inl (decide (1 ≤ l.length) && decide (l.length ≤ 20))) (fin := fun _ => decide (1 ≤ l.length) && decide (l.length ≤ 20)) (s := 0) (fun p n => n = p.length) rfl ?_ ?_) ?_
 ·
  intro p c r n h hn
  subst hn
  have hz := jf h
  have e1 := jo h
  have w1 : wrap64 ((p.length : Int) + 1) = (p.length : Int) + 1 := aV (by omega) (by omega)
  by_cases h20 : p.length ≤ 20
  ·
   simp only [if_pos h20]
   have hd : decide ((p.length : Int) ≤ 20) = true := decide_eq_true (by omega)
   simp only [bU.l0, hd, au]
   cases e : Bg c with
   | true =>
    simp only [if_true]
    refine ⟨(fun v hv => by cases hv), fun s' hs => ⟨?_, fun v hv => ?_⟩⟩
    ·
     cases hs; simp
    ·
     refine vp (by omega) (vc ?_)
     simp only [bU.j1, e1, w1, au]
     clear w1 e1
     exact vp trivial (vp (by omega) (vp (by omega) (jA (sD c) (vp e hv))))
   | false =>
    refine ⟨(fun v hv => ?_), fun s' hs => by simp at hs⟩
    simp only [Bool.false_eq_true, if_false, Sum.inl.injEq] at hv
    subst hv
    refine vp (by omega) (vc ?_)
    simp only [bU.j1, e1, w1, au]
    clear w1 e1
    exact vp trivial (vp (by omega) (vp (by omega) (jA (sD c) (vn (by rw [e]; simp) (vs _)))))
  ·
   simp only [if_neg h20]
   have hd : decide ((p.length : Int) ≤ 20) = false := decide_eq_false (by omega)
   refine ⟨(fun v hv => ?_), fun s' hs => by cases hs⟩
   cases hv
   simp only [bU.l0, hd, au]
   clear w1 e1
   exact vp (by omega) (hj' _)
 ·
  intro s hs
  subst hs
  simp only [bU.l0, au]
  exact vn (by omega) (hj' _)
 ·
  unfold Fv
  have key : ∀ (r : Str) (n : Nat), n + r.length = l.length → run (fun n c => if n ≤ 20 then (if Bg c = true then .inr (n + 1) else .inl false) else .inl (decide (1 ≤ l.length) && decide (l.length ≤ 20))) (fun _ => decide (1 ≤ l.length) && decide (l.length ≤ 20)) r n = (decide (1 ≤ l.length) && decide (l.length ≤ 20) && r.all Bg) := by
   intro r
   induction r with
   | nil => intro n _; simp [run]
   | cons c r ih =>
    intro n hn
    simp only [List.length_cons] at hn
    unfold run
    by_cases h20 : n ≤ 20
    ·
     simp only [if_pos h20]
     cases e : Bg c with
     | true => simp [e, ih (n + 1) (by omega)]
     | false => simp [e]
    ·
     simp only [if_neg h20]
     have : decide (l.length ≤ 20) = false := decide_eq_false (by omega)
     simp [this]
  exact key l 0 (by omega)
/-! The boundary of a kind. -/
def yx (ps : List (Str × Str)) (n : Str) : Str × Bool := if fidx n ps 0 < 0 then ([], false) else ((ps.getD (fidx n ps 0).toNat ([], [])).2, true)
def multi : Str := [109, 117, 108, 116, 105, 112, 97, 114, 116]
def bnd : Str := [98, 111, 117, 110, 100, 97, 114, 121]
def NZ (a b : Str) (ps : List (Str × Str)) : Str × Bool := if uS a b ps = true ∧ a = multi ∧ Fv (yx ps bnd).1 = true then ((yx ps bnd).1, true) else ([], false)
theorem DY (ps : List (Str × Str)) (n : Str) (hs : small ps) : (yx ps n).1.length ≤ 1048576 := by
 unfold yx
 split
 ·
  simp
 ·
  rw [List.getD_eq_getElem?_getD]
  cases e : ps[(fidx n ps 0).toNat]? with
  | none => simp
  | some x => exact (hs x (List.mem_of_getElem? e)).2
theorem RQ (ps : List (Str × Str)) (i : Int) : (fC (ps.map sN) i).f1 = aW ((ps.getD i.toNat ([], [])).2) := by
 unfold fC
 rw [List.getD_eq_getElem?_getD, List.getD_eq_getElem?_getD, List.getElem?_map]
 cases ps[i.toNat]? with
 | none => rfl
 | some x => rfl
theorem CZ (ps : List (Str × Str)) (n : Str) (hs : small ps) (hn : n.length ≤ 1048576) (hl : ps.length ≤ 1048576) : Ev (fun k => mF.f k (ps.map sN) (aW n)) (aW (yx ps n).1, (yx ps n).2) := by
 unfold mF.f yx
 refine vb (Aw ps n hs hn hl) ?_
 have hr := Qd n ps 0
 by_cases h : fidx n ps 0 < 0
 ·
  simp only [if_pos h]; exact vq (vs _) rfl
 ·
  simp only [if_neg h, List.length_map, RQ]
  exact vp (by omega) (vp (by omega) (vs _))
theorem C9 (ps : List (Str × Str)) (n : Str) (hs : small ps) (hn : n.length ≤ 1048576) (hl : ps.length ≤ 1048576) : Ev (fun k => jL.f k (ps.map sN) (aW n)) (aW (yx ps n).1, (yx ps n).2) := by
 unfold jL.f yx
 refine vb (FC ps n hs hn hl) ?_
 have hr := Qd n ps 0
 by_cases h : fidx n ps 0 < 0
 ·
  simp only [if_pos h]; exact vq (vs _) rfl
 ·
  simp only [if_neg h, List.length_map, RQ]
  exact vp (by omega) (vp (by omega) (vs _))
theorem RS (ps : List (Str × Str)) (n : Str) (h : (yx ps n).2 = false) : (yx ps n).1 = [] := by
 unfold yx at *
 split at h
 ·
  rename_i h1; rw [if_pos h1]
 ·
  cases h
theorem aaQ : (⟨#[98, 111, 117, 110, 100, 97, 114, 121]⟩ : ByteArray) = aW bnd := rfl
theorem Ip (a b : Str) (ps : List (Str × Str)) (ha : a.length ≤ 1048576) (hb : b.length ≤ 1048576) (hz : Aq ps ≤ 1048576) (hn : ps.length ≤ 1048576) : Ev (fun k => jd.f k (aW a) (aW b) (ps.map sN)) (aW (NZ a b ps).1, (NZ a b ps).2) := by
 have hs := CY hz
 have hg := DY ps bnd hs
 unfold jd.f
 refine vb (BP a b ps ha hb hz hn) ?_
 simp only [lU]
 have hbad : NZ a b ps = ([], false) → Ev (fun k => jd.j0 k true (aW a) (aW b) (ps.map sN)) (aW (NZ a b ps).1, (NZ a b ps).2) := by
  intro e
  rw [e]
  refine vc ?_
  simp only [jd.j0]
  exact vp trivial (vq (vs _) rfl)
 cases e : uS a b ps with
 | false => exact vn (by simp) (hbad (by unfold NZ; rw [if_neg (by simp [e])]))
 | true =>
  refine vp rfl ?_
  by_cases hm : a = multi
  ·
   have e2 : (a != ([109, 117, 108, 116, 105, 112, 97, 114, 116] : List UInt8)) = false := by rw [hm]; decide
   rw [e2]
   refine vc ?_
   simp only [jd.j0, aaQ]
   refine vn (by simp) (vb (CZ ps bnd hs (by decide) (by omega)) (vb (Az (yx ps bnd).1 (by omega)) ?_))
   cases e3 : Fv (yx ps bnd).1 with
   | true =>
    have hv : NZ a b ps = ((yx ps bnd).1, true) := by unfold NZ; rw [if_pos ⟨e, hm, e3⟩]
    rw [hv]; exact vp rfl (vs _)
   | false =>
    have hv : NZ a b ps = ([], false) := by unfold NZ; rw [if_neg (by rw [e3]; simp)]
    rw [hv]; exact vn (by simp) (vq (vs _) rfl)
  ·
   have e2 : (a != ([109, 117, 108, 116, 105, 112, 97, 114, 116] : List UInt8)) = true := by simpa [multi] using hm
   rw [e2]
   exact hbad (by unfold NZ; rw [if_neg (by simp [hm])])
theorem AB (a b : Str) (ps : List (Str × Str)) (ha : a.length ≤ 1048576) (hb : b.length ≤ 1048576) (hz : Aq ps ≤ 1048576) (hn : ps.length ≤ 1048576) : Ev (fun k => mP.f k (aW a) (aW b) (ps.map sN)) (aW (NZ a b ps).1, (NZ a b ps).2) := by
 have hs := CY hz
 have hg := DY ps bnd hs
 unfold mP.f
 simp only [aaQ, lU]
 refine vb (C9 ps bnd hs (by decide) (by omega)) (vb (BQ a b ps ha hb hz hn) ?_)
 cases e : uS a b ps with
 | false =>
  have hv : NZ a b ps = ([], false) := by unfold NZ; rw [if_neg (by rw [e]; simp)]
  rw [hv]; exact vn (by simp) (vq (vs _) rfl)
 | true =>
  refine vp rfl ?_
  by_cases hm : a = multi
  ·
   refine vp hm ?_
   cases e4 : (yx ps bnd).2 with
   | false =>
    have := RS ps bnd e4
    have hv : NZ a b ps = ([], false) := by unfold NZ; rw [if_neg (by rw [this]; simp [Fv])]
    rw [hv]; exact vn (by simp) (vq (vs _) rfl)
   | true =>
    refine vp rfl (vb (AA (yx ps bnd).1 (by omega)) ?_)
    cases e3 : Fv (yx ps bnd).1 with
    | true =>
     have hv : NZ a b ps = ((yx ps bnd).1, true) := by unfold NZ; rw [if_pos ⟨e, hm, e3⟩]
     rw [hv]; exact vp rfl (vs _)
    | false =>
     have hv : NZ a b ps = ([], false) := by unfold NZ; rw [if_neg (by rw [e3]; simp)]
     rw [hv]; exact vn (by simp) (vq (vs _) rfl)
  ·
   have hv : NZ a b ps = ([], false) := by unfold NZ; rw [if_neg (by simp [hm])]
   rw [hv]; exact vn hm (vq (vs _) rfl)
/-! Kinds parsed: the model. -/
def Ku : Str → Option (Str × Str)
 | [] => none
 | c :: r => if c = 34 then some ([], r) else if c = 92 then (match r with
   | [] => none
   | d :: t => (Ku t).map fun q => (d :: q.1, q.2)) else (Ku r).map fun q => (c :: q.1, q.2)
theorem C_ (c : UInt8) (r : Str) : Ku (c :: r) = if c = 34 then some ([], r) else if c = 92 then (match r with
   | [] => none
   | d :: t => (Ku t).map fun q => (d :: q.1, q.2)) else (Ku r).map fun q => (c :: q.1, q.2) := by rw [Ku.eq_def]; rfl
def nq (q : Nat) (c : UInt8) : Nat := if q = 2 then 1 else if q = 1 then (if c = 34 then 0 else if c = 92 then 2 else 1) else (if c = 34 then 1 else 0)
def rE (b : UInt8) : Nat → Str → Option (Str × Str)
 | _, [] => none
 | q, c :: r => if q = 0 ∧ c = b then some ([], r) else (rE b (nq q c) r).map fun x => (c :: x.1, x.2)
def hd1 (c : UInt8) : List Str → List Str
 | [] => [[c]]
 | x :: r => (c :: x) :: r
def parts (b : UInt8) : Nat → Str → List Str
 | _, [] => [[]]
 | q, c :: r => if q = 0 ∧ c = b then [] :: parts b 0 r else hd1 c (parts b (nq q c) r)
theorem Gp (b : UInt8) : ∀ (n : Nat) (r w t : Str), r.length ≤ n → Ku r = some (w, t) → ∃ m, r = m ++ t ∧ w.length < m.length ∧ rE b 1 r = (rE b 0 t).map fun x => (m ++ x.1, x.2) := by
 intro n
 induction n with
 | zero => intro r w t h h2; cases r with
  | nil => cases h2
  | cons c r => simp at h
 | succ n ih =>
  intro r w t h h2
  cases r with
  | nil => cases h2
  | cons c r =>
   simp only [List.length_cons] at h
   rw [C_] at h2
   by_cases c1 : c = 34
   ·
    rw [if_pos c1] at h2
    cases h2
    refine ⟨[c], rfl, by simp, ?_⟩
    rw [rE, if_neg (by simp), c1]
    rfl
   ·
    rw [if_neg c1] at h2
    by_cases c2 : c = 92
    ·
     rw [if_pos c2] at h2
     cases r with
     | nil => cases h2
     | cons d r =>
      simp only [List.length_cons] at h
      simp only [Option.map_eq_some_iff] at h2
      obtain ⟨⟨w1, t1⟩, e1, e2⟩ := h2
      cases e2
      obtain ⟨m, e3, e4, e5⟩ := ih r w1 t1 (by omega) e1
      refine ⟨c :: d :: m, by rw [e3]; rfl, by simp only [List.length_cons]; omega, ?_⟩
      rw [rE, if_neg (by simp), c2, rE, if_neg (by simp [nq])]
      have : nq (nq 1 92) d = 1 := by simp [nq]
      rw [this, e5]
      cases rE b 0 t1 <;> rfl
    ·
     rw [if_neg c2] at h2
     simp only [Option.map_eq_some_iff] at h2
     obtain ⟨⟨w1, t1⟩, e1, e2⟩ := h2
     cases e2
     obtain ⟨m, e3, e4, e5⟩ := ih r w1 t1 (by omega) e1
     refine ⟨c :: m, by rw [e3]; rfl, by simp only [List.length_cons]; omega, ?_⟩
     have : nq 1 c = 1 := by simp [nq, c1, c2]
     rw [rE, if_neg (by simp), this, e5]
     cases rE b 0 t1 <;> rfl
theorem Ws (b : UInt8) : ∀ (n : Nat) (r : Str), r.length ≤ n → Ku r = none → rE b 1 r = none := by
 intro n
 induction n with
 | zero => intro r h h2; cases r with
  | nil => rfl
  | cons c r => simp at h
 | succ n ih =>
  intro r h h2
  cases r with
  | nil => rfl
  | cons c r =>
   simp only [List.length_cons] at h
   rw [C_] at h2
   by_cases c1 : c = 34
   ·
    rw [if_pos c1] at h2; cases h2
   ·
    rw [if_neg c1] at h2
    by_cases c2 : c = 92
    ·
     rw [if_pos c2] at h2
     cases r with
     | nil => rw [rE, if_neg (by simp)]; rfl
     | cons d r =>
      simp only [List.length_cons] at h
      simp only [Option.map_eq_none_iff] at h2
      rw [rE, if_neg (by simp), c2, rE, if_neg (by simp [nq])]
      have : nq (nq 1 92) d = 1 := by simp [nq]
      rw [this, ih r (by omega) h2]; rfl
    ·
     rw [if_neg c2] at h2
     simp only [Option.map_eq_none_iff] at h2
     have : nq 1 c = 1 := by simp [nq, c1, c2]
     rw [rE, if_neg (by simp), this, ih r (by omega) h2]; rfl
theorem aaR (b : UInt8) (s : Str) : ∀ (q : Nat) (x t : Str), rE b q s = some (x, t) → s = x ++ b :: t := by
 induction s with
 | nil => intro q x t h; cases h
 | cons c r ih =>
  intro q x t h
  rw [rE] at h
  split at h
  ·
   rename_i hc; cases h; rw [hc.2]; rfl
  ·
   simp only [Option.map_eq_some_iff] at h
   obtain ⟨⟨w1, t1⟩, e1, e2⟩ := h
   cases e2
   rw [ih _ _ _ e1]; rfl
theorem LY (b : UInt8) (s : Str) : ∀ q : Nat, parts b q s = match rE b q s with
  | none => [s]
  | some x => x.1 :: parts b 0 x.2 := by
 induction s with
 | nil => intro q; rfl
 | cons c r ih =>
  intro q
  rw [parts, rE]
  by_cases h : q = 0 ∧ c = b
  ·
   rw [if_pos h, if_pos h]
  ·
   rw [if_neg h, if_neg h, ih]
   cases rE b (nq q c) r <;> rfl
theorem RU (b : UInt8) (s : Str) : ∀ q : Nat, 1 ≤ (parts b q s).length ∧ (parts b q s).length ≤ s.length + 1 := by
 induction s with
 | nil => intro q; exact ⟨Nat.le_refl _, Nat.le_refl _⟩
 | cons c r ih =>
  intro q
  rw [parts]
  split
  ·
   have := ih 0; simp only [List.length_cons]; omega
  ·
   have := ih (nq q c)
   cases e : parts b (nq q c) r with
   | nil => rw [e] at this; simp at this
   | cons y l => rw [e] at this; simp only [hd1, List.length_cons] at this ⊢; omega
/-- Each part is a piece of the text. -/
theorem abR (b : UInt8) (s : Str) : ∀ (q : Nat) (x : Str), x ∈ parts b q s → x.length ≤ s.length ∧ ∀ c ∈ x, c ∈ s := by
 induction s with
 | nil => intro q x h; simp only [parts, List.mem_singleton] at h; subst h; simp
 | cons c r ih =>
  intro q x h
  rw [parts] at h
  split at h
  ·
   rcases List.mem_cons.mp h with rfl | h
   ·
    simp
   ·
    obtain ⟨h1, h2⟩ := ih _ x h
    exact ⟨by simp only [List.length_cons]; omega, fun d hd => List.mem_cons_of_mem _ (h2 d hd)⟩
  ·
   cases e : parts b (nq q c) r with
   | nil => have := RU b r (nq q c); rw [e] at this; simp at this
   | cons y l =>
    rw [e, hd1] at h
    rcases List.mem_cons.mp h with rfl | h
    ·
     obtain ⟨h1, h2⟩ := ih (nq q c) y (by rw [e]; simp)
     refine ⟨by simp only [List.length_cons]; omega, fun d hd => ?_⟩
     rcases List.mem_cons.mp hd with rfl | hd
     ·
      simp
     ·
      exact List.mem_cons_of_mem _ (h2 d hd)
    ·
     obtain ⟨h1, h2⟩ := ih (nq q c) x (by rw [e]; exact List.mem_cons_of_mem _ h)
     exact ⟨by simp only [List.length_cons]; omega, fun d hd => List.mem_cons_of_mem _ (h2 d hd)⟩
/-! Words. -/
def Kv : Nat → Bool → Str → Option (List Str)
 | 0, _, _ => none
 | _ + 1, _, [] => some []
 | n + 1, a, c :: r => if c = 32 then Kv n true r else if a = false then none else if c = 34 then (match Ku r with
   | none => none
   | some q => (Kv n false q.2).map (q.1 :: ·)) else if (c :: r).takeWhile vJ = [] then none else (Kv n false ((c :: r).dropWhile vJ)).map ((c :: r).takeWhile vJ :: ·)
def words (s : Str) : Option (List Str) := Kv (s.length + 1) true s
/-! Cut at a byte. -/
def xG (b : UInt8) : Str → Option (Str × Str)
 | [] => none
 | c :: r => if c = b then some ([], r) else (xG b r).map fun x => (c :: x.1, x.2)
theorem UE (b : UInt8) (s : Str) : ∀ (x t : Str), xG b s = some (x, t) → s = x ++ b :: t := by
 induction s with
 | nil => intro x t h; cases h
 | cons c r ih =>
  intro x t h
  rw [xG] at h
  split at h
  ·
   rename_i hc; cases h; rw [hc]; rfl
  ·
   simp only [Option.map_eq_some_iff] at h
   obtain ⟨⟨w1, t1⟩, e1, e2⟩ := h
   cases e2
   rw [ih _ _ e1]; rfl
theorem ahy (b : UInt8) (s : Str) : Lib.index s [b] = match xG b s with
  | none => -1
  | some x => (x.1.length : Int) := by
 induction s with
 | nil => rfl
 | cons c r ih =>
  rw [Lib.index, xG]
  by_cases h : c = b
  ·
   rw [if_pos (by simp [List.isPrefixOf, h]), if_pos h]; rfl
  ·
   rw [if_neg (by simp only [List.isPrefixOf, Bool.and_true, beq_iff_eq]; exact fun e => h e.symm), if_neg h, ih]
   cases e : xG b r with
   | none => rfl
   | some q =>
    simp only [Option.map_some, List.length_cons]
    rw [if_neg (by simp)]
    rfl
theorem avN (b : UInt8) (s : Str) : Lib.cut s [b] = match xG b s with
  | none => (s, [], false)
  | some x => (x.1, x.2, true) := by
 unfold Lib.cut
 rw [ahy]
 cases e : xG b s with
 | none => rfl
 | some q =>
  obtain ⟨x, t⟩ := q
  have := UE b s x t e
  simp only
  rw [if_pos (by omega)]
  subst this
  simp
def trim (l : Str) : Str := Lib.trimB l 32
theorem Cj (p : UInt8 → Bool) (l : Str) : ∃ m, l = m ++ l.dropWhile p ∧ ∀ c ∈ m, p c = true := by
 induction l with
 | nil => exact ⟨[], rfl, by simp⟩
 | cons c r ih =>
  cases e : p c with
  | true =>
   obtain ⟨m, h1, h2⟩ := ih
   refine ⟨c :: m, by simp [List.dropWhile, e]; exact h1, fun d hd => ?_⟩
   rcases List.mem_cons.mp hd with rfl | hd
   ·
    exact e
   ·
    exact h2 d hd
  | false => exact ⟨[], by simp [List.dropWhile, e], by simp⟩
/-- What is trimmed: spaces ahead and behind. -/
theorem Iq (l : Str) : ∃ i j, l = List.replicate i 32 ++ trim l ++ List.replicate j 32 := by
 unfold trim Lib.trimB Lib.trimLeftB Lib.trimRightB
 have rep : ∀ m : Str, (∀ c ∈ m, (c == 32) = true) → m = List.replicate m.length 32 := fun m h => List.eq_replicate_iff.mpr ⟨rfl, fun c hc => by simpa using h c hc⟩
 obtain ⟨m, h1, h2⟩ := Cj (· == 32) l.reverse
 obtain ⟨m2, h3, h4⟩ := Cj (· == 32) (l.reverse.dropWhile (· == 32)).reverse
 refine ⟨m2.length, m.length, ?_⟩
 rw [← rep m2 h4, ← h3]
 have e : m.reverse = List.replicate m.length 32 := by
  have := rep m.reverse (fun c hc => h2 c (List.mem_reverse.mp hc))
  rwa [List.length_reverse] at this
 rw [← e, ← List.reverse_append, ← h1, List.reverse_reverse]
theorem Dc (l : Str) : (trim l).length ≤ l.length := by
 obtain ⟨i, j, h⟩ := Iq l
 have := congrArg List.length h
 simp only [List.length_append] at this
 omega
theorem Wu (l : Str) (c : UInt8) (hc : c ∈ l) (h32 : c ≠ 32) : c ∈ trim l := by
 obtain ⟨i, j, h⟩ := Iq l
 rw [h] at hc
 simp only [List.mem_append, List.mem_replicate] at hc
 rcases hc with (⟨_, h⟩ | h) | ⟨_, h⟩
 ·
  exact absurd h h32
 ·
  exact h
 ·
  exact absurd h h32
theorem RV (l : Str) : trim (32 :: l) = trim l := by
 unfold trim Lib.trimB Lib.trimLeftB Lib.trimRightB
 rw [List.reverse_cons, List.dropWhile_append]
 split
 ·
  rename_i h
  have : l.reverse.dropWhile (· == 32) = [] := by simpa using h
  rw [this]; rfl
 ·
  rw [List.reverse_append]; simp
/-- One parameter; all of them; a kind. -/
def Ir (s : Str) : Option (Str × Str) := match xG 61 s with
 | none => none
 | some x => match words x.2 with
  | some [w] => some (low (trim x.1), w)
  | _ => none
def Qj : List Str → Option (List (Str × Str))
 | [] => some []
 | s :: r => match Ir s with
  | none => none
  | some x => (Qj r).map (x :: ·)
def pkO (o : Option (Str × Str)) (ps : Option (List (Str × Str))) : Option (Str × Str × List (Str × Str)) := match o, ps with
 | some x, some ps => if uS (low x.1) (low x.2) ps = true then some (low x.1, low x.2, ps) else none
 | _, _ => none
def pk (s : Str) : Option (Str × Str × List (Str × Str)) := if kW s = true then pkO (xG 47 (trim ((parts 59 0 s).headD []))) (Qj ((parts 59 0 s).drop 1)) else none
/-! Kinds parsed: the program. -/
theorem afm (c b : UInt8) : ((c.toNat : Int) = (b.toNat : Int)) ↔ c = b := by
 constructor
 ·
  intro e; exact UInt8.toNat_inj.mp (by omega)
 ·
  intro e; rw [e]
def QW (L : Nat) (acc : Str) : Option (Str × Str) → ByteArray × Int × Bool
 | none => (aW [], 0, false)
 | some q => (aW (acc ++ q.1), ((L - q.2.length : Nat) : Int), true)
theorem LZ (l : Str) (hl : l.length ≤ 1048576) : ∀ (n : Nat) (r p acc : Str), r.length ≤ n → l = p ++ r → acc.length ≤ p.length → Ev (fun k => jl.l0 k (aW l) (zn acc) (p.length : Int)) (QW l.length acc (Ku r)) := by
 intro n
 induction n with
 | zero =>
  intro r p acc h h2 h3
  have : r = [] := List.length_eq_zero_iff.mp (by omega)
  subst this
  rw [List.append_nil] at h2
  subst h2
  refine vc ?_
  simp only [jl.l0, au]
  exact vn (by omega) (vq (vs _) rfl)
 | succ n ih =>
  intro r p acc h h2 h3
  cases r with
  | nil =>
   rw [List.append_nil] at h2
   subst h2
   refine vc ?_
   simp only [jl.l0, au]
   exact vn (by omega) (vq (vs _) rfl)
  | cons c r =>
   simp only [List.length_cons] at h
   have hz := jf h2
   have e1 := jo h2
   have w1 : wrap64 ((p.length : Int) + 1) = ((p.length + 1 : Nat) : Int) := (aV (by omega) (by omega)).trans (by omega)
   have Qg : (c.toNat : Int) = 34 ↔ c = 34 := wK c 34 (by omega)
   have h92 : (c.toNat : Int) = 92 ↔ c = 92 := wK c 92 (by omega)
   refine vc ?_
   simp only [jl.l0, e1, w1, au, LW]
   clear e1 w1
   rw [C_]
   refine vp (by omega) (vp (by omega) ?_)
   by_cases c1 : (c.toNat : Int) = 34
   ·
    refine vp c1 (vq (vs _) ?_)
    rw [if_pos (Qg.mp c1), QW, xC, show l.length - r.length = p.length + 1 by omega]
    simp
   ·
    refine vn c1 ?_
    rw [if_neg (fun hh => c1 (Qg.mpr hh))]
    by_cases c2 : (c.toNat : Int) = 92
    ·
     refine vp c2 ?_
     rw [if_pos (h92.mp c2)]
     cases r with
     | nil =>
      simp only [List.length_nil] at hz
      exact vp (by omega) (vq (vs _) rfl)
     | cons d r =>
      simp only [List.length_cons] at h hz
      have e2 : bt (aW l) ((p.length + 1 : Nat) : Int) = (d.toNat : Int) := by
       have := jo (l := l) (p := p ++ [c]) (c := d) (r := r) (by rw [h2]; simp)
       rwa [List.length_append] at this
      have w2 : wrap64 (((p.length + 1 : Nat) : Int) + 1) = ((p.length + 2 : Nat) : Int) := (aV (by omega) (by omega)).trans (by omega)
      have := ih r (p ++ [c, d]) (acc ++ [d]) (by omega) (by rw [h2]; simp) (by simp; omega)
      rw [Gn, List.length_append] at this
      have e3 : ([(d.toNat : Int)] : List Int) = zn [d] := rfl
      rw [e2, w2, e3]
      clear e2 w2
      refine vn (by omega) (vp (by omega) (vp (by omega) (vp (by omega) (vq this ?_))))
      show _ = QW l.length acc ((Ku r).map fun q => (d :: q.1, q.2))
      cases Ku r with
      | none => rfl
      | some q => simp [QW]
    ·
     refine vn c2 ?_
     rw [if_neg (fun hh => c2 (h92.mpr hh))]
     have := ih r (p ++ [c]) (acc ++ [c]) (by omega) (by rw [h2]; simp) (by simp; omega)
     rw [Gn, List.length_append] at this
     have e3 : ([(c.toNat : Int)] : List Int) = zn [c] := rfl
     rw [e3]
     refine vp (by omega) (vq this ?_)
     cases Ku r with
     | none => rfl
     | some q => simp [QW]
theorem FD (c : UInt8) (r : Str) (hl : r.length ≤ 1048575) : Ev (fun k => jl.f k (aW (c :: r))) (QW (r.length + 1) [] (Ku r)) := LZ (c :: r) (by simp only [List.length_cons]; omega) r.length r [c] [] (Nat.le_refl _) rfl (by simp)
def Wv (p : Nat) : Option (Str × Str) → Int
 | none => -1
 | some q => ((p + q.1.length : Nat) : Int)
theorem AL {l p r : Str} (h : l = p ++ r) : l.drop p.length = r := by rw [h, List.drop_left]
theorem Kw (l : Str) (b : UInt8) (hb : b ≠ 34) (hl : l.length ≤ 1048576) : ∀ (n : Nat) (r p : Str), r.length ≤ n → l = p ++ r → Ev (fun k => jE.l0 k (aW l) (b.toNat : Int) (p.length : Int)) (Wv p.length (rE b 0 r)) := by
 intro n
 induction n with
 | zero =>
  intro r p h h2
  have : r = [] := List.length_eq_zero_iff.mp (by omega)
  subst this
  rw [List.append_nil] at h2
  subst h2
  refine vc ?_
  simp only [jE.l0, au]
  exact vn (by omega) (vq (vs _) rfl)
 | succ n ih =>
  intro r p h h2
  cases r with
  | nil =>
   rw [List.append_nil] at h2
   subst h2
   refine vc ?_
   simp only [jE.l0, au]
   exact vn (by omega) (vq (vs _) rfl)
  | cons c r =>
   simp only [List.length_cons] at h
   have hz := jf h2
   have e1 := jo h2
   have w1 : wrap64 ((p.length : Int) + 1) = ((p.length + 1 : Nat) : Int) := (aV (by omega) (by omega)).trans (by omega)
   have Qg : (c.toNat : Int) = 34 ↔ c = 34 := wK c 34 (by omega)
   have hbb := afm c b
   have ex : (aW l).extract (p.length : Int).toNat l.length = aW (c :: r) := by
    rw [Int.toNat_natCast, jw, AL h2, List.take_of_length_le (by simp only [List.length_cons]; omega)]
   refine vc ?_
   simp only [jE.l0, e1, w1, au, ex]
   clear e1 w1 ex
   rw [rE]
   refine vp (by omega) (vp (by omega) ?_)
   by_cases c1 : (c.toNat : Int) = 34
   ·
    have hc := Qg.mp c1
    refine vp c1 (vp (by omega) (vb (FD c r (by omega)) ?_))
    rw [if_neg (by intro hh; exact hb (hh.2.symm.trans hc)), show nq 0 c = 1 by rw [hc]; rfl]
    cases e : Ku r with
    | none => rw [Ws b r.length r (Nat.le_refl _) e]; exact vn (by simp [QW]) (vq (vs _) rfl)
    | some q =>
     obtain ⟨w, t⟩ := q
     obtain ⟨m, h3, h4, h5⟩ := Gp b r.length r w t (Nat.le_refl _) e
     have hm : r.length = m.length + t.length := by rw [h3, List.length_append]
     have := ih t (p ++ c :: m) (by omega) (by rw [h2, h3]; simp)
     refine vp rfl ?_
     simp only [QW]
     have w2 : wrap64 (((r.length + 1 - t.length : Nat) : Int) - 1) = (m.length : Int) := (aV (by omega) (by omega)).trans (by omega)
     rw [w2]
     clear w2
     have w3 : wrap64 ((p.length : Int) + (m.length : Int)) = ((p.length + m.length : Nat) : Int) := (aV (by omega) (by omega)).trans (by omega)
     rw [w3]
     clear w3
     have w4 : wrap64 (((p.length + m.length : Nat) : Int) + 1) = ((p ++ c :: m).length : Int) := (aV (by omega) (by omega)).trans (by simp only [List.length_append, List.length_cons]; omega)
     rw [w4, h5]
     clear w4
     refine vq this ?_
     cases rE b 0 t with
     | none => rfl
     | some x => simp only [Option.map_some, Wv, List.length_append, List.length_cons]; omega
   ·
    refine vn c1 ?_
    have hc : ¬ c = 34 := fun hh => c1 (Qg.mpr hh)
    by_cases c2 : c = b
    ·
     rw [if_pos ⟨rfl, c2⟩]
     exact vp (hbb.mpr c2) (vq (vs _) (by simp [Wv]))
    ·
     rw [if_neg (fun hh => c2 hh.2), show nq 0 c = 0 by simp [nq, hc]]
     have := ih r (p ++ [c]) (by omega) (by rw [h2]; simp)
     rw [List.length_append] at this
     refine vn (fun hh => c2 (hbb.mp hh)) (vq this ?_)
     cases rE b 0 r with
     | none => rfl
     | some x => simp only [Option.map_some, Wv, List.length_append, List.length_cons, List.length_nil]; omega
theorem Ej (l : Str) (b : UInt8) (hb : b ≠ 34) (hl : l.length ≤ 1048576) : Ev (fun k => jE.f k (aW l) (b.toNat : Int)) (Wv 0 (rE b 0 l)) := Kw l b hb hl l.length l [] (Nat.le_refl _) rfl
theorem DZ (b : UInt8) (hb : b ≠ 34) : ∀ (n : Nat) (s : Str) (acc : List Str), s.length ≤ n → s.length + acc.length ≤ 1048576 → Ev (fun k => dJ.l0 k (aW s) (b.toNat : Int) (acc.map aW)) ((acc ++ parts b 0 s).map aW) := by
 intro n
 induction n with
 | zero =>
  intro s acc h h2
  have : s = [] := List.length_eq_zero_iff.mp (by omega)
  subst this
  refine vc ?_
  simp only [dJ.l0, List.length_map]
  refine vb (Ej [] b hb (by simp)) (vp (by simp [rE, Wv]) (vp (by simp at h2; omega) (vq (vs _) ?_)))
  simp [parts]
 | succ n ih =>
  intro s acc h h2
  refine vc ?_
  simp only [dJ.l0, List.length_map, au]
  refine vb (Ej s b hb (by omega)) ?_
  rw [LY]
  cases e : rE b 0 s with
  | none => exact vp (by simp [Wv]) (vp (by omega) (vq (vs _) (by simp)))
  | some q =>
   obtain ⟨x, t⟩ := q
   have hs := aaR b s 0 x t e
   have hz : s.length = x.length + (t.length + 1) := by rw [hs]; simp
   have := ih t (acc ++ [x]) (by omega) (by simp; omega)
   have w1 : wrap64 ((x.length : Int) + 1) = ((x.length + 1 : Nat) : Int) := (aV (by omega) (by omega)).trans (by omega)
   simp only [Wv, Nat.zero_add, w1, Int.toNat_natCast, jw, List.drop_zero, Nat.sub_zero]
   have e1 : s.take x.length = x := by rw [hs, List.take_left]
   have e2 : (s.drop (x.length + 1)).take (s.length - (x.length + 1)) = t := by
    rw [List.take_of_length_le (by simp), hs, ← List.drop_drop, List.drop_left]; rfl
   rw [e1, e2]
   clear w1
   refine vn (by omega) (vp (by omega) (vp (by omega) (vp (by omega) (vp (by omega) (vp (by omega) (vq (r := ((acc ++ [x] ++ parts b 0 t).map aW)) ?_ (by simp)))))))
   simpa using this
theorem FH (s : Str) (hs : s.length ≤ 1048576) : Ev (fun k => dJ.f k (aW s) 59) ((parts 59 0 s).map aW) := by
 have := DZ 59 (by decide) s.length s [] (Nat.le_refl _) (by simpa using hs)
 unfold dJ.f
 simpa using this
def GK (acc : List Str) : Option (List Str) → List ByteArray × Bool
 | none => ([], false)
 | some ws => ((acc ++ ws).map aW, true)
/-- The run of an atom, from its begin. -/
theorem GL (l : Str) (acc : List Str) (hl : l.length ≤ 1048576) (ha : acc.length ≤ 1048576) (p : Str) (v : List ByteArray × Bool) : ∀ (r a : Str), l = p ++ (a ++ r) → a.all vJ = true →
  (a ++ r.takeWhile vJ = [] → v = ([], false)) →
  (a ++ r.takeWhile vJ ≠ [] → Ev (fun k => dH.l0 k (aW l) ((acc ++ [a ++ r.takeWhile vJ]).map aW) (((p ++ (a ++ r.takeWhile vJ)).length : Nat) : Int) false) v) →
  Ev (fun k => dH.l1 k (aW l) (acc.map aW) (p.length : Int) (((p ++ a).length : Nat) : Int)) v := by
 intro r
 induction r with
 | nil =>
  intro a h h2 h3 h4
  have hz : l.length = p.length + a.length := by rw [h]; simp
  have hpa : (p ++ a).length = p.length + a.length := by simp
  simp only [List.takeWhile_nil, List.append_nil] at h3 h4
  refine vc ?_
  simp only [dH.l1, au, List.length_map]
  refine vn (by omega) ?_
  by_cases e : a = []
  ·
   rw [h3 e]; subst e; exact vp (by simp) (vs _)
  ·
   have hne : 0 < a.length := List.length_pos_iff.mpr e
   have ex : (aW l).extract (p.length : Int).toNat (((p ++ a).length : Nat) : Int).toNat = aW a := by
    rw [Int.toNat_natCast, Int.toNat_natCast, jw, AL h, hpa, List.append_nil]
    rw [List.take_of_length_le (by omega)]
   rw [ex]
   have := h4 e
   rw [List.map_append, List.map_singleton] at this
   exact vn (by omega) (vp (by omega) (vp (by omega) (vp (by omega) (vp (by omega) this))))
 | cons c r ih =>
  intro a h h2 h3 h4
  have hz : l.length = p.length + (a.length + (r.length + 1)) := by rw [h]; simp
  have hpa : (p ++ a).length = p.length + a.length := by simp
  have e1 : bt (aW l) (((p ++ a).length : Nat) : Int) = (c.toNat : Int) := jo (l := l) (p := p ++ a) (c := c) (r := r) (by rw [h]; simp)
  have w1 : wrap64 ((((p ++ a).length : Nat) : Int) + 1) = ((p ++ (a ++ [c])).length : Int) := (aV (by omega) (by omega)).trans (by simp only [List.length_append, List.length_cons, List.length_nil]; omega)
  refine vc ?_
  simp only [dH.l1, au, List.length_map, e1, w1]
  clear e1 w1
  refine vp (by omega) (vp (by omega) (jA (wo c) ?_))
  cases e : vJ c with
  | true =>
   refine vp rfl ?_
   have ec : a ++ (c :: r).takeWhile vJ = a ++ [c] ++ r.takeWhile vJ := by simp [List.takeWhile, e]
   refine ih (a ++ [c]) (by rw [h]; simp) (by simp [h2, e]) (fun hh => h3 (by rw [ec]; exact hh)) (fun hh => ?_)
   have := h4 (by rw [ec]; exact hh)
   rwa [ec] at this
  | false =>
   have et : (c :: r).takeWhile vJ = [] := by simp [List.takeWhile, e]
   rw [et, List.append_nil] at h3 h4
   refine vn (by simp) ?_
   by_cases e : a = []
   ·
    rw [h3 e]; subst e; exact vp (by simp) (vs _)
   ·
    have hne : 0 < a.length := List.length_pos_iff.mpr e
    have ex : (aW l).extract (p.length : Int).toNat (((p ++ a).length : Nat) : Int).toNat = aW a := by
     rw [Int.toNat_natCast, Int.toNat_natCast, jw, AL h, hpa, show p.length + a.length - p.length = a.length by omega, List.take_left]
    rw [ex]
    have := h4 e
    rw [List.map_append, List.map_singleton] at this
    exact vn (by omega) (vp (by omega) (vp (by omega) (vp (by omega) (vp (by omega) this))))
theorem BR (p : UInt8 → Bool) (l : Str) : l.takeWhile p ++ l.dropWhile p = l := List.takeWhile_append_dropWhile
theorem FI (l : Str) (hl : l.length ≤ 1048576) : ∀ (n : Nat) (r p : Str) (acc : List Str) (a : Bool), r.length < n → l = p ++ r → acc.length ≤ p.length → Ev (fun k => dH.l0 k (aW l) (acc.map aW) (p.length : Int) a) (GK acc (Kv n a r)) := by
 intro n
 induction n with
 | zero => intro r p acc a h; omega
 | succ n ih =>
  intro r p acc a h h2 h3
  refine vc ?_
  cases r with
  | nil =>
   rw [List.append_nil] at h2
   subst h2
   simp only [dH.l0, au]
   exact vn (by omega) (vq (vs _) (by simp [Kv, GK]))
  | cons c r =>
   simp only [List.length_cons] at h
   have hz := jf h2
   have e1 := jo h2
   have w1 : wrap64 ((p.length : Int) + 1) = (((p ++ [c]).length : Nat) : Int) := (aV (by omega) (by omega)).trans (by simp)
   have h32 : (c.toNat : Int) = 32 ↔ c = 32 := wK c 32 (by omega)
   have Qg : (c.toNat : Int) = 34 ↔ c = 34 := wK c 34 (by omega)
   have ex : (aW l).extract (p.length : Int).toNat l.length = aW (c :: r) := by
    rw [Int.toNat_natCast, jw, AL h2, List.take_of_length_le (by simp only [List.length_cons]; omega)]
   simp only [dH.l0, e1, w1, au, ex, List.length_map]
   clear e1 w1 ex
   rw [Kv]
   refine vp (by omega) (vp (by omega) ?_)
   by_cases c1 : (c.toNat : Int) = 32
   ·
    rw [if_pos (h32.mp c1)]
    exact vp c1 (ih r (p ++ [c]) acc true (by omega) (by rw [h2]; simp) (by simp; omega))
   ·
    rw [if_neg (fun hh => c1 (h32.mpr hh))]
    refine vn c1 ?_
    cases a with
    | false => exact vn (by simp) (vq (vs _) rfl)
    | true =>
     refine vp rfl ?_
     rw [if_neg (by simp)]
     by_cases c2 : (c.toNat : Int) = 34
     ·
      rw [if_pos (Qg.mp c2)]
      refine vp c2 (vp (by omega) (vb (FD c r (by omega)) ?_))
      cases e : Ku r with
      | none => exact vn (by simp [QW]) (vq (vs _) rfl)
      | some q =>
       obtain ⟨w, t⟩ := q
       obtain ⟨m, h4, h5, _⟩ := Gp 0 r.length r w t (Nat.le_refl _) e
       have hm : r.length = m.length + t.length := by rw [h4, List.length_append]
       have := ih t (p ++ c :: m) (acc ++ [w]) false (by omega) (by rw [h2, h4]; simp) (by simp; omega)
       have w2 : wrap64 ((p.length : Int) + ((r.length + 1 - t.length : Nat) : Int)) = ((p ++ c :: m).length : Int) := (aV (by omega) (by omega)).trans (by simp only [List.length_append, List.length_cons]; omega)
       simp only [QW, List.nil_append, w2]
       rw [List.map_append, List.map_singleton] at this
       refine vp trivial (vp (by omega) (vq this ?_))
       cases Kv n false t with
       | none => rfl
       | some ws => simp [GK]
     ·
      rw [if_neg (fun hh => c2 (Qg.mpr hh))]
      refine vn c2 ?_
      have hsw := BR vJ (c :: r)
      refine GL l acc hl (by omega) p _ (c :: r) [] h2 rfl (fun hh => ?_) (fun hh => ?_) |> fun hq => by simpa using hq
      ·
       rw [List.nil_append] at hh; rw [if_pos hh]; rfl
      ·
       rw [List.nil_append] at hh ⊢
       rw [if_neg hh]
       have hne : 0 < ((c :: r).takeWhile vJ).length := List.length_pos_iff.mpr hh
       have hlen : ((c :: r).takeWhile vJ).length + ((c :: r).dropWhile vJ).length = r.length + 1 := by
        have := congrArg List.length hsw
        rwa [List.length_append, List.length_cons] at this
       have := ih ((c :: r).dropWhile vJ) (p ++ (c :: r).takeWhile vJ) (acc ++ [(c :: r).takeWhile vJ]) false (by omega) (by rw [List.append_assoc, hsw]; exact h2) (by simp only [List.length_append, List.length_cons, List.length_nil]; omega)
       refine vq this ?_
       cases Kv n false ((c :: r).dropWhile vJ) with
       | none => rfl
       | some ws => simp [GK]
theorem AO (l : Str) (hl : l.length ≤ 1048576) (ht : kW l = true) : Ev (fun k => dH.f k (aW l)) (GK [] (words l)) := by
 unfold dH.f
 refine vb (pI l (by omega)) (vp ht ?_)
 exact FI l hl (l.length + 1) l [] [] true (by omega) rfl (by simp)
/-! The program's ParseKind. -/
def N7 : Option (Str × Str × List (Str × Str)) → ByteArray × ByteArray × List gX × Bool
 | none => (aW [], aW [], [], false)
 | some x => (aW x.1, aW x.2.1, x.2.2.map sN, true)
theorem Em (l : Str) (hl : l.length ≤ 1048576) : kH.f (aW l) ⟨#[32]⟩ = some (aW (trim l)) := by
 unfold kH.f
 rw [if_pos rfl, if_pos (by rw [au]; omega)]
 rfl
def FM (s : Str) : Option (Str × Str) → ByteArray × ByteArray × Bool
 | none => (aW s, aW [], false)
 | some x => (aW x.1, aW x.2, true)
theorem FN (b : UInt8) (l : Str) (hl : l.length ≤ 1048576) : strings_Cut.f (aW l) ⟨#[b]⟩ = some (FM l (xG b l)) := by
 unfold strings_Cut.f
 rw [if_pos (by rw [au]; omega)]
 have e : Lib.cut (aW l).data.toList (⟨#[b]⟩ : ByteArray).data.toList = Lib.cut l [b] := rfl
 rw [e, avN]
 cases xG b l with
 | none => rfl
 | some x => rfl
theorem Wx {b : UInt8} {s x t : Str} (h : xG b s = some (x, t)) : s.length = x.length + t.length + 1 := by
 rw [UE b s x t h]; simp; omega
theorem Qk {s t : Str} (h : kW s = true) (hl : t.length ≤ s.length) (hm : ∀ c ∈ t, c ∈ s) : kW t = true := by
 unfold kW at *
 simp only [Bool.and_eq_true, List.all_eq_true, decide_eq_true_iff] at *
 exact ⟨fun c hc => h.1 c (hm c hc), by omega⟩
theorem ahz : ∀ (n : Nat) (a : Bool) (s : Str) (ws : List Str), Kv n a s = some ws → ∀ w ∈ ws, w.length ≤ s.length := by
 intro n
 induction n with
 | zero => intro a s ws h; cases h
 | succ n ih =>
  intro a s ws h
  cases s with
  | nil => simp only [Kv, Option.some.injEq] at h; subst h; simp
  | cons c r =>
   rw [Kv] at h
   split at h
   ·
    intro w hw; have := ih _ _ _ h w hw; simp only [List.length_cons]; omega
   ·
    split at h
    ·
     cases h
    ·
     split at h
     ·
      cases e : Ku r with
      | none => rw [e] at h; cases h
      | some q =>
       obtain ⟨w1, t⟩ := q
       obtain ⟨m, h4, h5, _⟩ := Gp 0 r.length r w1 t (Nat.le_refl _) e
       have hm : r.length = m.length + t.length := by rw [h4, List.length_append]
       rw [e] at h
       simp only [Option.map_eq_some_iff] at h
       obtain ⟨v, e1, rfl⟩ := h
       intro w hw
       simp only [List.length_cons]
       rcases List.mem_cons.mp hw with rfl | hw
       ·
        omega
       ·
        have := ih _ _ _ e1 w hw; omega
     ·
      split at h
      ·
       cases h
      ·
       simp only [Option.map_eq_some_iff] at h
       obtain ⟨v, e1, rfl⟩ := h
       have hlen := congrArg List.length (BR vJ (c :: r))
       rw [List.length_append] at hlen
       intro w hw
       rcases List.mem_cons.mp hw with rfl | hw
       ·
        omega
       ·
        have := ih _ _ _ e1 w hw; omega
theorem RX {s : Str} {ws : List Str} (h : words s = some ws) : ∀ w ∈ ws, w.length ≤ s.length := ahz _ _ _ _ h
/-- What is lacking: the kind is read out of the head and the parameters that are read. -/
def fin1 (ok : Bool) (m u : Str) (ps : List (Str × Str)) : Option (Str × Str × List (Str × Str)) := if ok = true ∧ uS m u ps = true then some (m, u, ps) else none
def N8 (ok : Bool) (m u : Str) (q : List (Str × Str)) : Option (List (Str × Str)) → Option (Str × Str × List (Str × Str))
 | none => none
 | some ps => fin1 ok m u (q ++ ps)
theorem RY (ok : Bool) (m u : Str) (q : List (Str × Str)) (x : Str × Str) (o : Option (List (Str × Str))) : N8 ok m u q (o.map (x :: ·)) = N8 ok m u (q ++ [x]) o := by
 cases o with
 | none => rfl
 | some ps => simp [N8]
theorem Iu (ok : Bool) (m u : Str) (ps : List (Str × Str)) (hm : m.length ≤ 1048576) (hu : u.length ≤ 1048576) (hz : Aq ps ≤ 1048576) (hn : ps.length ≤ 1048576) :
  Ev (fun k => if ok = true then ((bJ.f k (aW m) (aW u) (ps.map sN)).bind fun t => (if t = true then (some (aW m, aW u, ps.map sN, true)) else (some ((⟨#[]⟩ : ByteArray), (⟨#[]⟩ : ByteArray), ([] : List gX), false)))) else (some ((⟨#[]⟩ : ByteArray), (⟨#[]⟩ : ByteArray), ([] : List gX), false))) (N7 (fin1 ok m u ps)) := by
 cases ok with
 | false => exact vn (by simp) (vq (vs _) (by unfold fin1; rw [if_neg (by simp)]; rfl))
 | true =>
  refine vp rfl (vb (BP m u ps hm hu hz hn) ?_)
  cases e : uS m u ps with
  | true => exact vp rfl (vq (vs _) (by unfold fin1; rw [if_pos ⟨rfl, e⟩]; rfl))
  | false => exact vn (by simp) (vq (vs _) (by unfold fin1; rw [if_neg (by simp [e])]; rfl))
theorem zG (ok : Bool) (xs : List Str) (m u : Str) (hx : xs.length ≤ 1000) (ht : ∀ x ∈ xs, kW x = true) (hm : m.length ≤ 1048576) (hu : u.length ≤ 1048576) : ∀ (r p : List Str) (q : List (Str × Str)), xs = p ++ r → q.length ≤ p.length → Aq q ≤ 400 * q.length →
  Ev (fun k => bQ.l0 k ok (xs.map aW) (xs.length : Int) (p.length : Int) (aW m) (aW u) (q.map sN)) (N7 (N8 ok m u q (Qj r))) := by
 intro r
 induction r with
 | nil =>
  intro p q h hq hz
  rw [List.append_nil] at h
  subst h
  refine vc ?_
  simp only [bQ.l0]
  refine vn (by omega) ?_
  have := Iu ok m u q hm hu (by omega) (by omega)
  simpa [Qj, N8] using this
 | cons c r ih =>
  intro p q h hq hz
  have hz2 := jf h
  have e1 := uT h
  have htc := ht c (by rw [h]; simp)
  have hcl := Io htc
  have w1 : wrap64 ((p.length : Int) + 1) = ((p ++ [c]).length : Int) := (aV (by omega) (by omega)).trans (by simp)
  have hcut := FN 61 c (by omega)
  refine vc ?_
  simp only [bQ.l0, e1, hcut, List.length_map, Option.bind_some]
  clear e1 hcut
  have hbad : ∀ (x11 : ByteArray) (x14 : List ByteArray), Ev (fun k => bQ.j1 k ok x11 x14 (xs.map aW) (xs.length : Int) (p.length : Int) true (aW m) (aW u) (q.map sN)) (N7 none) := by
   intro x11 x14
   refine vc ?_
   simp only [bQ.j1]
   exact vp trivial (vs _)
  refine vp (by omega) (vp (by omega) (vp (by omega) ?_))
  cases e : xG 61 c with
  | none =>
   simp only [FM]
   refine vb (AO [] (by simp) (by decide)) (vn (by simp) (vq (hbad _ _) ?_))
   rw [Qj, Ir, e]; rfl
  | some x =>
   obtain ⟨n, v⟩ := x
   have hlen := Wx e
   have hvs : kW v = true := Qk htc (by omega) (fun d hd => by rw [UE 61 c n v e]; simp [hd])
   simp only [FM]
   refine vb (AO v (by omega) hvs) (vp trivial ?_)
   cases e2 : words v with
   | none =>
    refine vn (by simp [GK]) (vq (hbad _ _) ?_)
    rw [Qj, Ir, e]; simp only [e2]; rfl
   | some ws =>
    simp only [GK, List.nil_append]
    refine vp trivial ?_
    by_cases h1 : ws.length = 1
    ·
     obtain ⟨w, rfl⟩ := List.length_eq_one_iff.mp h1
     have hwl := RX e2 w (by simp)
     have hnl := Dc n
     have e3 : Ir c = some (low (trim n), w) := by rw [Ir, e]; simp only [e2]
     have := ih (p ++ [c]) (q ++ [(low (trim n), w)]) (by rw [h]; simp) (by simp; omega) (by rw [yw]; simp only [Aq, List.length_append, List.length_cons, List.length_nil, BO]; omega)
     have ht := Em n (by omega)
     have hl := l9 (trim n) (by omega)
     refine vc ?_
     simp only [bQ.j1, List.map_cons, List.map_nil, List.length_cons, List.length_nil, ht, hl, w1, Option.bind_some, List.length_map]
     clear w1 ht hl
     refine vn (by simp) (vp (by omega) (vp (by omega) ?_))
     rw [Qj, e3]
     simp only
     rw [RY]
     rw [List.map_append] at this
     exact this
    ·
     have e4 : ((((ws.map aW).length : Nat) : Int) != 1) = true := by
      rw [List.length_map]; simp only [bne_iff_ne, ne_eq]; omega
     rw [e4]
     refine vq (hbad _ _) ?_
     have e3 : Ir c = none := by
      rw [Ir, e]
      simp only [e2]
      match ws, h1 with
      | [], _ => rfl
      | [w], h1 => exact absurd rfl h1
      | _ :: _ :: _, _ => rfl
     rw [Qj, e3]; rfl
theorem aaS (o : Option (Str × Str)) (ps : Option (List (Str × Str))) (s : Str) : pkO o ps = N8 (FM s o).2.2 (match o with
  | none => low s
  | some x => low x.1) (match o with
  | none => []
  | some x => low x.2) [] ps := by
 cases o with
 | none => cases ps with
  | none => rfl
  | some p => simp [pkO, N8, fin1, FM]
 | some x => cases ps with
  | none => rfl
  | some p => simp [pkO, N8, fin1, FM]
theorem Ky (s : Str) (hs : s.length ≤ 1048576) : Ev (fun k => bQ.f k (aW s)) (N7 (pk s)) := by
 unfold bQ.f pk
 refine vb (pI s (by omega)) ?_
 cases et : kW s with
 | false => exact vn (by simp) (vq (vs _) rfl)
 | true =>
  refine vp rfl (vb (FH s hs) ?_)
  rw [if_pos rfl]
  have hpl := RU 59 s 0
  have hpm := abR 59 s 0
  have hsl := Io et
  generalize parts 59 0 s = xs at hpl hpm ⊢
  cases xs with
  | nil => simp at hpl
  | cons h0 r =>
   have hh := hpm h0 (by simp)
   have htl := Dc h0
   have e0 : mX ByteArray.empty (aW h0 :: r.map aW) 0 = aW h0 := rfl
   have et := Em h0 (by omega)
   have ec := FN 47 (trim h0) (by omega)
   have hr : r.length ≤ 1000 := by simp only [List.length_cons] at hpl; omega
   simp only [e0, et, ec, List.length_map, List.length_cons, Option.bind_some, List.drop_one, List.map_cons, List.tail_cons, List.headD_cons]
   rw [aaS _ _ (trim h0)]
   have htv : ∀ x ∈ r, kW x = true := fun x hx => by
    have := hpm x (by simp [hx])
    exact Qk (by assumption) this.1 this.2
   cases e : xG 47 (trim h0) with
   | none =>
    simp only [FM]
    have l1 := l9 (trim h0) (by omega)
    have l2 := l9 [] (by simp)
    have := zG false r (low (trim h0)) (low []) hr htv (by rw [BO]; omega) (by simp [low]) r [] [] rfl (by simp) (by simp [Aq])
    simp only [l1, l2, Option.bind_some]
    refine vp (by omega) (vp (by omega) ?_)
    simpa [low] using this
   | some x =>
    obtain ⟨a, b⟩ := x
    have hlen := Wx e
    simp only [FM]
    have l1 := l9 a (by omega)
    have l2 := l9 b (by omega)
    have := zG true r (low a) (low b) hr htv (by rw [BO]; omega) (by rw [BO]; omega) r [] [] rfl (by simp) (by simp [Aq])
    simp only [l1, l2, Option.bind_some]
    refine vp (by omega) (vp (by omega) ?_)
    simpa using this
/-! A valid kind is read back. -/
theorem ahA (c : UInt8) : UD c = true → c ≠ 34 ∧ c ≠ 59 ∧ c ≠ 47 ∧ c ≠ 61 ∧ c ≠ 32 ∧ okB c = true := by
 revert c
 exact Qc (by decide +kernel)
theorem afn {l : Str} (h : Gz l = true) : ∀ c ∈ l, UD c = true := by
 unfold Gz at h
 simp only [Bool.and_eq_true, List.all_eq_true] at h
 exact h.2
theorem X6 {l : Str} (h : isSmall l = true) : Gz l = true ∧ low l = l := by
 unfold isSmall at h
 simpa using h
def aAl (x : Str) (l : List Str) : List Str := x.foldr hd1 l
def Pass (b : UInt8) (x : Str) : Prop := ∀ t, parts b 0 (x ++ t) = aAl x (parts b 0 t)
def seg (p : Str × Str) : Str := 32 :: (p.1 ++ [61] ++ qw p.2)
theorem aaT : ∀ (ps q : List (Str × Str)), kfl q ps = true → ∀ p ∈ ps, isSmall p.1 = true ∧ kW p.2 = true ∧ p.2.length ≤ 40 := by
 intro ps
 induction ps with
 | nil => intro q h p hp; cases hp
 | cons c r ih =>
  intro q h p hp
  rw [kfl] at h
  simp only [Bool.and_eq_true, decide_eq_true_iff] at h
  rcases List.mem_cons.mp hp with rfl | hp
  ·
   exact ⟨h.1.1.1, h.1.1.2.1, h.1.1.2.2⟩
  ·
   exact ih _ h.2 p hp
theorem Kz {a b : Str} {ps : List (Str × Str)} (h : uS a b ps = true) : isSmall a = true ∧ isSmall b = true ∧ ps.length ≤ 4 ∧ kfl [] ps = true ∧ (Kq a b ps).length ≤ 150 := by
 unfold uS at h
 simp only [Bool.and_eq_true, decide_eq_true_iff] at h
 obtain ⟨⟨⟨⟨h1, h2⟩, h3⟩, h4⟩, h5⟩ := h
 exact ⟨h1, h2, by omega, h4, h5⟩
/-- What is read is valid. -/
theorem afo {s a b : Str} {ps : List (Str × Str)} (h : pk s = some (a, b, ps)) : uS a b ps = true := by
 unfold pk at h
 split at h
 ·
  unfold pkO at h
  split at h
  ·
   split at h
   ·
    rename_i hk
    cases h; exact hk
   ·
    cases h
  ·
   cases h
 ·
  cases h
/-! The reference's ParseKind. -/
def QX (L : Nat) (acc : Str) : Option (Str × Str) → ByteArray × Int
 | none => (aW [], -1)
 | some q => (aW (acc ++ q.1), ((L - q.2.length : Nat) : Int))
theorem RZ {l p r : Str} {c : UInt8} (h : l = p ++ c :: r) : (l.drop p.length).take (p.length + 1 - p.length) = [c] := by
 rw [AL h, show p.length + 1 - p.length = 1 by omega]; rfl
theorem L6 (l : Str) (hl : l.length ≤ 1048576) : ∀ (n : Nat) (r p acc : Str), r.length ≤ n → l = p ++ r → acc.length ≤ p.length → Ev (fun k => gy.l0 k (aW l) (aW acc) (p.length : Int)) (QX l.length acc (Ku r)) := by
 intro n
 induction n with
 | zero =>
  intro r p acc h h2 h3
  have : r = [] := List.length_eq_zero_iff.mp (by omega)
  subst this
  rw [List.append_nil] at h2
  subst h2
  refine vc ?_
  simp only [gy.l0, au]
  exact vn (by omega) (vq (vs _) rfl)
 | succ n ih =>
  intro r p acc h h2 h3
  cases r with
  | nil =>
   rw [List.append_nil] at h2
   subst h2
   refine vc ?_
   simp only [gy.l0, au]
   exact vn (by omega) (vq (vs _) rfl)
  | cons c r =>
   simp only [List.length_cons] at h
   have hz := jf h2
   have e1 := jo h2
   have w1 : wrap64 ((p.length : Int) + 1) = ((p.length + 1 : Nat) : Int) := (aV (by omega) (by omega)).trans (by omega)
   have Qg : (c.toNat : Int) = 34 ↔ c = 34 := wK c 34 (by omega)
   have h92 : (c.toNat : Int) = 92 ↔ c = 92 := wK c 92 (by omega)
   have e4 := RZ h2
   refine vc ?_
   simp only [gy.l0, e1, w1, au, Int.toNat_natCast, jw, e4, jZ]
   clear e1 w1 e4
   rw [C_]
   refine vp (by omega) (vp (by omega) ?_)
   by_cases c1 : (c.toNat : Int) = 34
   ·
    refine vp c1 (vq (vs _) ?_)
    rw [if_pos (Qg.mp c1), QX, show l.length - r.length = p.length + 1 by omega]
    simp
   ·
    refine vn c1 ?_
    rw [if_neg (fun hh => c1 (Qg.mpr hh))]
    by_cases c2 : (c.toNat : Int) = 92
    ·
     refine vp c2 ?_
     rw [if_pos (h92.mp c2)]
     cases r with
     | nil =>
      simp only [List.length_nil] at hz
      exact vp (by omega) (vq (vs _) rfl)
     | cons d r =>
      simp only [List.length_cons] at h hz
      have w2 : wrap64 (((p.length + 1 : Nat) : Int) + 1) = ((p.length + 2 : Nat) : Int) := (aV (by omega) (by omega)).trans (by omega)
      have hd : l = (p ++ [c]) ++ d :: r := by rw [h2]; simp
      have e5 : (l.drop (p.length + 1)).take (p.length + 2 - (p.length + 1)) = [d] := by
       have := RZ hd
       rwa [List.length_append] at this
      have := ih r (p ++ [c, d]) (acc ++ [d]) (by omega) (by rw [h2]; simp) (by simp; omega)
      rw [List.length_append] at this
      rw [w2, Int.toNat_natCast, e5]
      clear w2 e5
      refine vn (by omega) (vp (by omega) (vp (by omega) (vp (by omega) (vp (by simp only [List.length_cons, List.length_nil]; omega) (vq this ?_)))))
      show _ = QX l.length acc ((Ku r).map fun q => (d :: q.1, q.2))
      cases Ku r with
      | none => rfl
      | some q => simp [QX]
    ·
     refine vn c2 ?_
     rw [if_neg (fun hh => c2 (h92.mpr hh))]
     have := ih r (p ++ [c]) (acc ++ [c]) (by omega) (by rw [h2]; simp) (by simp; omega)
     rw [List.length_append] at this
     refine vp (by omega) (vp (by omega) (vp (by simp only [List.length_cons, List.length_nil]; omega) (vq this ?_)))
     cases Ku r with
     | none => rfl
     | some q => simp [QX]
theorem FP {l p r : Str} {c : UInt8} (h : l = p ++ c :: r) (hl : l.length ≤ 1048576) : Ev (fun k => gy.f k (aW l) (p.length : Int)) (QX l.length [] (Ku r)) := by
 have hz := jf h
 have := L6 l hl r.length r (p ++ [c]) [] (Nat.le_refl _) (by rw [h]; simp) (by simp)
 have w1 : wrap64 ((p.length : Int) + 1) = ((p ++ [c]).length : Int) := (aV (by omega) (by omega)).trans (by simp)
 unfold gy.f
 rw [w1]
 exact this
def aaU (s p : Str) : Option (Str × Str) → ByteArray × ByteArray × Bool
 | none => (aW s, aW [], false)
 | some x => (aW (p ++ x.1), aW x.2, true)
theorem N9 (l : Str) (b : UInt8) (hb : b ≠ 34) (hl : l.length ≤ 1048576) : ∀ (n : Nat) (r p : Str), r.length ≤ n → l = p ++ r → Ev (fun k => ji.l0 k (aW l) (b.toNat : Int) (p.length : Int)) (aaU l p (rE b 0 r)) := by
 intro n
 induction n with
 | zero =>
  intro r p h h2
  have : r = [] := List.length_eq_zero_iff.mp (by omega)
  subst this
  rw [List.append_nil] at h2
  subst h2
  refine vc ?_
  simp only [ji.l0, au]
  exact vn (by omega) (vq (vs _) rfl)
 | succ n ih =>
  intro r p h h2
  cases r with
  | nil =>
   rw [List.append_nil] at h2
   subst h2
   refine vc ?_
   simp only [ji.l0, au]
   exact vn (by omega) (vq (vs _) rfl)
  | cons c r =>
   simp only [List.length_cons] at h
   have hz := jf h2
   have e1 := jo h2
   have w1 : wrap64 ((p.length : Int) + 1) = ((p.length + 1 : Nat) : Int) := (aV (by omega) (by omega)).trans (by omega)
   have Qg : (c.toNat : Int) = 34 ↔ c = 34 := wK c 34 (by omega)
   have hbb := afm c b
   have x1 : (l.drop 0).take (p.length - 0) = p := by rw [List.drop_zero, Nat.sub_zero, h2, List.take_left]
   have x2 : (l.drop (p.length + 1)).take (l.length - (p.length + 1)) = r := by
    rw [List.take_of_length_le (by simp), h2, ← List.drop_drop, List.drop_left]; rfl
   refine vc ?_
   simp only [ji.l0, e1, w1, au, Int.toNat_natCast, jw, x1, x2]
   clear e1 w1 x1 x2
   rw [rE]
   refine vp (by omega) (vp (by omega) ?_)
   by_cases c1 : (c.toNat : Int) = 34
   ·
    have hc := Qg.mp c1
    refine vp c1 (vb (FP h2 hl) ?_)
    rw [if_neg (show ¬ ((0 : Nat) = 0 ∧ c = b) from fun hh => hb (hh.2.symm.trans hc)), show nq 0 c = 1 by rw [hc]; rfl]
    cases e : Ku r with
    | none => rw [Ws b r.length r (Nat.le_refl _) e]; exact vp (by simp [QX]) (vq (vs _) rfl)
    | some q =>
     obtain ⟨w, t⟩ := q
     obtain ⟨m, h3, h4, h5⟩ := Gp b r.length r w t (Nat.le_refl _) e
     have hm : r.length = m.length + t.length := by rw [h3, List.length_append]
     have := ih t (p ++ c :: m) (by omega) (by rw [h2, h3]; simp)
     have ei : l.length - t.length = (p ++ c :: m).length := by simp only [List.length_append, List.length_cons]; omega
     simp only [QX, ei]
     refine vn (by omega) ?_
     rw [h5]
     refine vq this ?_
     cases rE b 0 t with
     | none => rfl
     | some x => simp [aaU]
   ·
    refine vn c1 ?_
    have hc : ¬ c = 34 := fun hh => c1 (Qg.mpr hh)
    by_cases c2 : c = b
    ·
     rw [if_pos (show (0 : Nat) = 0 ∧ c = b from ⟨rfl, c2⟩)]
     exact vp (hbb.mpr c2) (vp (by omega) (vp (by omega) (vp (by omega) (vq (vs _) (by simp [aaU])))))
    ·
     rw [if_neg (show ¬ ((0 : Nat) = 0 ∧ c = b) from fun hh => c2 hh.2), show nq 0 c = 0 by simp [nq, hc]]
     have := ih r (p ++ [c]) (by omega) (by rw [h2]; simp)
     rw [List.length_append] at this
     refine vn (fun hh => c2 (hbb.mp hh)) (vq this ?_)
     cases rE b 0 r with
     | none => rfl
     | some x => simp [aaU]
theorem yI (l : Str) (b : UInt8) (hb : b ≠ 34) (hl : l.length ≤ 1048576) : Ev (fun k => ji.f k (aW l) (b.toNat : Int)) (FM l (rE b 0 l)) := by
 refine vq (N9 l b hb hl l.length l [] (Nat.le_refl _) rfl) ?_
 cases rE b 0 l <;> rfl
def R_ (l : Str) : Str := (l.reverse.dropWhile (· == 32)).reverse
theorem X7 (l : Str) (c : UInt8) : R_ (l ++ [c]) = if c = 32 then R_ l else l ++ [c] := by
 unfold R_
 rw [List.reverse_append, List.reverse_singleton, List.singleton_append, List.dropWhile]
 by_cases h : c = 32
 ·
  simp [h]
 ·
  rw [show (c == 32) = false by simp [h]]; simp [h]
theorem BU : ∀ (n : Nat) (s : Str), s.length ≤ n → s.length ≤ 1048576 → Ev (fun k => bK.l1 k (aW s)) (aW (R_ s)) := by
 intro n
 induction n with
 | zero =>
  intro s h _
  have : s = [] := List.length_eq_zero_iff.mp (by omega)
  subst this
  refine vc ?_
  simp only [bK.l1, au]
  exact vn (by simp) (vq (vs _) rfl)
 | succ n ih =>
  intro s h hl
  rcases List.eq_nil_or_concat s with rfl | ⟨p, c, rfl⟩
  ·
   refine vc ?_
   simp only [bK.l1, au]
   exact vn (by simp) (vq (vs _) rfl)
  ·
   rw [List.concat_eq_append] at *
   simp only [List.length_append, List.length_cons, List.length_nil] at h hl
   have hz : (p ++ [c]).length = p.length + 1 := by simp
   have e1 := jo (l := p ++ [c]) (p := p) (c := c) (r := []) rfl
   have w1 : wrap64 (((p ++ [c]).length : Int) - 1) = ((p.length : Nat) : Int) := (aV (by omega) (by omega)).trans (by omega)
   have h32 : (c.toNat : Int) = 32 ↔ c = 32 := wK c 32 (by omega)
   have x1 : ((p ++ [c]).drop 0).take (p.length - 0) = p := by rw [List.drop_zero, Nat.sub_zero, List.take_left]
   refine vc ?_
   simp only [bK.l1, au, w1, e1, Int.toNat_natCast, jw, x1]
   clear e1 w1 x1
   rw [X7]
   refine vp (by omega) (vp (by omega) (vp (by omega) ?_))
   by_cases c1 : (c.toNat : Int) = 32
   ·
    rw [if_pos (h32.mp c1)]
    exact vp c1 (vp (by omega) (ih p (by omega) (by omega)))
   ·
    rw [if_neg (fun hh => c1 (h32.mpr hh))]
    exact vn c1 (vs _)
theorem UF (c : UInt8) (r : Str) (h : c ≠ 32) : trim (c :: r) = R_ (c :: r) := by
 unfold trim Lib.trimB Lib.trimLeftB Lib.trimRightB R_
 obtain ⟨m, h1, h2⟩ := Cj (· == 32) (c :: r).reverse
 have h3 := congrArg List.reverse h1
 rw [List.reverse_reverse, List.reverse_append] at h3
 cases e : ((c :: r).reverse.dropWhile (· == 32)).reverse with
 | nil =>
  rw [e, List.nil_append] at h3
  have : c ∈ m := by
   have : c ∈ m.reverse := by rw [← h3]; simp
   exact List.mem_reverse.mp this
  exact absurd (by simpa using h2 c this) h
 | cons d u =>
  rw [e] at h3
  injection h3 with h4 h5
  subst h4
  rw [List.dropWhile, show (c == 32) = false by simp [h]]
theorem oU (s : Str) (hl : s.length ≤ 1048576) : Ev (fun k => bK.f k (aW s)) (aW (trim s)) := by
 unfold bK.f
 induction s with
 | nil =>
  refine vc ?_
  simp only [bK.l0, au]
  refine vn (by simp) (vc ?_)
  simp only [bK.j1]
  exact BU 0 [] (by simp) (by simp)
 | cons c r ih =>
  simp only [List.length_cons] at hl
  have hz : (c :: r).length = r.length + 1 := rfl
  have h32 : (c.toNat : Int) = 32 ↔ c = 32 := wK c 32 (by omega)
  have x1 : ((c :: r).drop 1).take ((c :: r).length - 1) = r := by rw [List.drop_one, List.tail_cons, hz, List.take_of_length_le (by omega)]
  refine vc ?_
  simp only [bK.l0, au, aaN, jw, x1]
  clear x1
  refine vp (by omega) (vp (by omega) ?_)
  by_cases c1 : (c.toNat : Int) = 32
  ·
   rw [h32.mp c1, RV]
   exact vp (by decide) (vp (by simp; omega) (ih (by omega)))
  ·
   rw [UF c r (fun hh => c1 (h32.mpr hh))]
   refine vn c1 (vc ?_)
   simp only [bK.j1]
   exact BU (r.length + 1) (c :: r) (by simp) (by simp; omega)
/-- Behind a word: a space or the end, else nothing. -/
theorem L8 (n : Nat) (s : Str) (h : s.length < n) : Kv n false s = if s = [] ∨ s.head? = some 32 then Kv n true s else none := by
 obtain ⟨n, rfl⟩ : ∃ m, n = m + 1 := ⟨n - 1, by omega⟩
 cases s with
 | nil => rw [if_pos (Or.inl rfl)]; rfl
 | cons c r =>
  by_cases c1 : c = 32
  ·
   rw [if_pos (Or.inr (by rw [c1]; rfl)), Kv, Kv, if_pos c1, if_pos c1]
  ·
   rw [if_neg (by simp [c1]), Kv, if_neg c1, if_pos rfl]
theorem L9 (l : Str) (acc : List Str) (hl : l.length ≤ 1048576) (ha : acc.length ≤ 1048576) (p : Str) (v : List ByteArray × Bool) : ∀ (r a : Str), l = p ++ (a ++ r) → a.all vJ = true →
  (a ++ r.takeWhile vJ = [] → v = ([], false)) →
  (a ++ r.takeWhile vJ ≠ [] → ¬ (r.dropWhile vJ = [] ∨ (r.dropWhile vJ).head? = some 32) → v = ([], false)) →
  (a ++ r.takeWhile vJ ≠ [] → (r.dropWhile vJ = [] ∨ (r.dropWhile vJ).head? = some 32) → Ev (fun k => fF.l0 k (aW l) ((acc ++ [a ++ r.takeWhile vJ]).map aW) (((p ++ (a ++ r.takeWhile vJ)).length : Nat) : Int)) v) →
  Ev (fun k => fF.l1 k (aW l) (acc.map aW) (((p ++ a).length : Nat) : Int) (p.length : Int)) v := by
 intro r
 induction r with
 | nil =>
  intro a h h2 h3 h4 h5
  have hz : l.length = p.length + a.length := by rw [h]; simp
  have hpa : (p ++ a).length = p.length + a.length := by simp
  simp only [List.takeWhile_nil, List.append_nil, List.dropWhile_nil] at h3 h4 h5
  refine vc ?_
  simp only [fF.l1, au, List.length_map]
  refine vn (by omega) (vp (by omega) (vp (by omega) (vp (by omega) ?_)))
  by_cases e : a = []
  ·
   rw [h3 e]; subst e; exact vp (by simp) (vs _)
  ·
   have hne : 0 < a.length := List.length_pos_iff.mpr e
   have ex : (aW l).extract (p.length : Int).toNat (((p ++ a).length : Nat) : Int).toNat = aW a := by
    rw [Int.toNat_natCast, Int.toNat_natCast, jw, AL h, hpa, List.append_nil]
    rw [List.take_of_length_le (by omega)]
   rw [ex]
   have := h5 e (by simp)
   rw [List.map_append, List.map_singleton] at this
   exact vn (by omega) (vp (by omega) this)
 | cons c r ih =>
  intro a h h2 h3 h4 h5
  have hz : l.length = p.length + (a.length + (r.length + 1)) := by rw [h]; simp
  have hpa : (p ++ a).length = p.length + a.length := by simp
  have e1 : bt (aW l) (((p ++ a).length : Nat) : Int) = (c.toNat : Int) := jo (l := l) (p := p ++ a) (c := c) (r := r) (by rw [h]; simp)
  have w1 : wrap64 ((((p ++ a).length : Nat) : Int) + 1) = ((p ++ (a ++ [c])).length : Int) := (aV (by omega) (by omega)).trans (by simp only [List.length_append, List.length_cons, List.length_nil]; omega)
  have h32 : (c.toNat : Int) = 32 ↔ c = 32 := wK c 32 (by omega)
  refine vc ?_
  simp only [fF.l1, au, List.length_map, e1, w1]
  clear e1 w1
  refine vp (by omega) (vp (by omega) (vb (Ar c) ?_))
  cases e : vJ c with
  | true =>
   refine vp rfl ?_
   have ec : a ++ (c :: r).takeWhile vJ = a ++ [c] ++ r.takeWhile vJ := by simp [List.takeWhile, e]
   have ed : (c :: r).dropWhile vJ = r.dropWhile vJ := by simp [List.dropWhile, e]
   rw [ec] at h3
   rw [ec, ed] at h4
   rw [ec, ed] at h5
   exact ih (a ++ [c]) (by rw [h]; simp) (by simp [h2, e]) h3 h4 h5
  | false =>
   have et : (c :: r).takeWhile vJ = [] := by simp [List.takeWhile, e]
   have ed : (c :: r).dropWhile vJ = c :: r := by simp [List.dropWhile, e]
   rw [et, List.append_nil] at h3
   rw [et, ed, List.append_nil] at h4
   rw [et, ed, List.append_nil] at h5
   refine vn (by simp) (vp (by omega) (vp (by omega) (vp (by omega) ?_)))
   by_cases e : a = []
   ·
    rw [h3 e]; subst e; exact vp (by simp) (vs _)
   ·
    have hne : 0 < a.length := List.length_pos_iff.mpr e
    have ex : (aW l).extract (p.length : Int).toNat (((p ++ a).length : Nat) : Int).toNat = aW a := by
     rw [Int.toNat_natCast, Int.toNat_natCast, jw, AL h, hpa, show p.length + a.length - p.length = a.length by omega, List.take_left]
    rw [ex]
    refine vn (by omega) ?_
    by_cases c1 : (c.toNat : Int) = 32
    ·
     have := h5 e (Or.inr (by rw [h32.mp c1]; rfl))
     rw [List.map_append, List.map_singleton] at this
     exact vp c1 (vp (by omega) this)
    ·
     rw [h4 e (by simp only [List.head?_cons, Option.some.injEq, reduceCtorEq, false_or]; exact fun hh => c1 (h32.mpr hh))]
     exact vn c1 (vs _)
theorem KA (l : Str) (hl : l.length ≤ 1048576) : ∀ (n : Nat) (r p : Str) (acc : List Str), r.length < n → l = p ++ r → acc.length ≤ p.length → Ev (fun k => fF.l0 k (aW l) (acc.map aW) (p.length : Int)) (GK acc (Kv n true r)) := by
 intro n
 induction n with
 | zero => intro r p acc h; omega
 | succ n ih =>
  intro r p acc h h2 h3
  refine vc ?_
  cases r with
  | nil =>
   rw [List.append_nil] at h2
   subst h2
   simp only [fF.l0, au]
   exact vn (by omega) (vq (vs _) (by simp [Kv, GK]))
  | cons c r =>
   simp only [List.length_cons] at h
   have hz := jf h2
   have e1 := jo h2
   have w1 : wrap64 ((p.length : Int) + 1) = (((p ++ [c]).length : Nat) : Int) := (aV (by omega) (by omega)).trans (by simp)
   have h32 : (c.toNat : Int) = 32 ↔ c = 32 := wK c 32 (by omega)
   have Qg : (c.toNat : Int) = 34 ↔ c = 34 := wK c 34 (by omega)
   simp only [fF.l0, e1, w1, au, List.length_map]
   clear e1 w1
   rw [Kv]
   refine vp (by omega) (vp (by omega) ?_)
   by_cases c1 : (c.toNat : Int) = 32
   ·
    rw [if_pos (h32.mp c1)]
    exact vp c1 (ih r (p ++ [c]) acc (by omega) (by rw [h2]; simp) (by simp; omega))
   ·
    rw [if_neg (fun hh => c1 (h32.mpr hh)), if_neg (by simp)]
    refine vn c1 ?_
    by_cases c2 : (c.toNat : Int) = 34
    ·
     rw [if_pos (Qg.mp c2)]
     refine vp c2 (vb (FP h2 hl) ?_)
     cases e : Ku r with
     | none => exact vp (by simp [QX]) (vq (vs _) rfl)
     | some q =>
      obtain ⟨w, t⟩ := q
      obtain ⟨m, h4, h5, _⟩ := Gp 0 r.length r w t (Nat.le_refl _) e
      have hm : r.length = m.length + t.length := by rw [h4, List.length_append]
      have hpm : (p ++ c :: m).length = p.length + m.length + 1 := by simp only [List.length_append, List.length_cons]; omega
      have ei : l.length - t.length = (p ++ c :: m).length := by omega
      have := ih t (p ++ c :: m) (acc ++ [w]) (by omega) (by rw [h2, h4]; simp) (by simp; omega)
      rw [List.map_append, List.map_singleton] at this
      simp only [QX, ei, List.nil_append]
      rw [L8 n t (by omega)]
      refine vn (by omega) (vn (by omega) ?_)
      cases t with
      | nil =>
       rw [if_pos (Or.inl rfl)]
       simp only [List.length_nil] at hm ei
       refine vn (by omega) (vp (by omega) (vq this ?_))
       cases Kv n true [] with
       | none => rfl
       | some ws => simp [GK]
      | cons d t =>
       have e2 : bt (aW l) ((p ++ c :: m).length : Int) = (d.toNat : Int) := jo (l := l) (p := p ++ c :: m) (c := d) (r := t) (by rw [h2, h4]; simp)
       have h32 : (d.toNat : Int) = 32 ↔ d = 32 := wK d 32 (by omega)
       simp only [List.length_cons] at hm
       rw [e2]
       clear e2
       refine vp (by omega) (vp (by omega) ?_)
       by_cases c3 : (d.toNat : Int) = 32
       ·
        rw [if_pos (Or.inr (by rw [h32.mp c3]; rfl))]
        refine vp c3 (vp (by omega) (vq this ?_))
        cases Kv n true (d :: t) with
        | none => rfl
        | some ws => simp [GK]
       ·
        rw [if_neg (by simp only [List.head?_cons, Option.some.injEq, reduceCtorEq, false_or]; exact fun hh => c3 (h32.mpr hh))]
        exact vn c3 (vq (vs _) rfl)
    ·
     rw [if_neg (fun hh => c2 (Qg.mpr hh))]
     refine vn c2 ?_
     have hsw := BR vJ (c :: r)
     have hlen := congrArg List.length hsw
     rw [List.length_append, List.length_cons] at hlen
     have key := L9 l acc hl (by omega) p (GK acc (if (c :: r).takeWhile vJ = [] then none else (Kv n false ((c :: r).dropWhile vJ)).map ((c :: r).takeWhile vJ :: ·))) (c :: r) [] h2 rfl (fun hh => by rw [List.nil_append] at hh; rw [if_pos hh]; rfl)
     refine (key (fun hh hn => ?_) (fun hh hn => ?_)) |> fun hq => by simpa using hq
     ·
      rw [List.nil_append] at hh
      have hne : 0 < ((c :: r).takeWhile vJ).length := List.length_pos_iff.mpr hh
      rw [if_neg hh, L8 _ _ (by omega), if_neg hn]; rfl
     ·
      rw [List.nil_append] at hh ⊢
      have hne : 0 < ((c :: r).takeWhile vJ).length := List.length_pos_iff.mpr hh
      rw [if_neg hh, L8 _ _ (by omega), if_pos hn]
      have := ih ((c :: r).dropWhile vJ) (p ++ (c :: r).takeWhile vJ) (acc ++ [(c :: r).takeWhile vJ]) (by omega) (by rw [List.append_assoc, hsw]; exact h2) (by simp only [List.length_append, List.length_cons, List.length_nil]; omega)
      refine vq this ?_
      cases Kv n true ((c :: r).dropWhile vJ) with
      | none => rfl
      | some ws => simp [GK]
theorem En (l : Str) (hl : l.length ≤ 1048576) : Ev (fun k => fF.f k (aW l)) (GK [] (words l)) := by
 unfold fF.f
 exact KA l hl (l.length + 1) l [] [] (by omega) rfl (by simp)
/-! The reference's ParseKind answers as the program's. -/
theorem anR (s : Str) : ∀ n : Nat, s.length ≤ n → Ku (s ++ [32]) = (Ku s).map fun q => (q.1, q.2 ++ [32]) := by
 intro n
 induction n generalizing s with
 | zero =>
  intro h
  have : s = [] := List.length_eq_zero_iff.mp (by omega)
  subst this; rfl
 | succ n ih =>
  intro h
  cases s with
  | nil => rfl
  | cons c r =>
   simp only [List.length_cons] at h
   rw [List.cons_append, C_, C_]
   by_cases c1 : c = 34
   ·
    rw [if_pos c1, if_pos c1]; rfl
   ·
    rw [if_neg c1, if_neg c1]
    by_cases c2 : c = 92
    ·
     rw [if_pos c2, if_pos c2]
     cases r with
     | nil => rfl
     | cons d r =>
      simp only [List.length_cons] at h
      simp only [List.cons_append]
      rw [ih r (by omega)]
      cases Ku r <;> rfl
    ·
     rw [if_neg c2, if_neg c2, ih r (by omega)]
     cases Ku r <;> rfl
theorem afp (l : Str) : (l ++ [32]).takeWhile vJ = l.takeWhile vJ ∧ (l ++ [32]).dropWhile vJ = l.dropWhile vJ ++ [32] := by
 induction l with
 | nil => exact ⟨rfl, rfl⟩
 | cons c r ih =>
  rw [List.cons_append]
  cases e : vJ c with
  | true => simp only [List.takeWhile, List.dropWhile, e]; exact ⟨congrArg _ ih.1, ih.2⟩
  | false => simp [List.takeWhile, List.dropWhile, e]
theorem anS : ∀ (n : Nat) (a : Bool) (s : Str), s.length < n → Kv (n + 1) a (s ++ [32]) = Kv n a s := by
 intro n
 induction n with
 | zero => intro a s h; omega
 | succ n ih =>
  intro a s h
  cases s with
  | nil => rfl
  | cons c r =>
   simp only [List.length_cons] at h
   rw [List.cons_append, Kv, Kv, ih true r (by omega)]
   by_cases c1 : c = 32
   ·
    rw [if_pos c1, if_pos c1]
   ·
    rw [if_neg c1, if_neg c1]
    by_cases c2 : a = false
    ·
     rw [if_pos c2, if_pos c2]
    ·
     rw [if_neg c2, if_neg c2]
     by_cases c3 : c = 34
     ·
      rw [if_pos c3, if_pos c3, anR r r.length (Nat.le_refl _)]
      cases e : Ku r with
      | none => rfl
      | some q =>
       obtain ⟨w, t⟩ := q
       obtain ⟨m, h4, h5, _⟩ := Gp 0 r.length r w t (Nat.le_refl _) e
       have hm : r.length = m.length + t.length := by rw [h4, List.length_append]
       simp only [Option.map_some]
       rw [ih false t (by omega)]
     ·
      rw [if_neg c3, if_neg c3]
      have hw := afp (c :: r)
      rw [List.cons_append] at hw
      rw [hw.1, hw.2]
      by_cases c4 : (c :: r).takeWhile vJ = []
      ·
       rw [if_pos c4, if_pos c4]
      ·
       have hne : 0 < ((c :: r).takeWhile vJ).length := List.length_pos_iff.mpr c4
       have hlen := congrArg List.length (BR vJ (c :: r))
       rw [List.length_append, List.length_cons] at hlen
       rw [if_neg c4, if_neg c4, ih false _ (by omega)]
theorem Ql (s : Str) : words (s ++ [32]) = words s := by
 unfold words
 rw [List.length_append]
 exact anS (s.length + 1) true s (by omega)
theorem QY (s : Str) : words (32 :: s) = words s := by
 unfold words
 rw [Kv, if_pos rfl]; rfl
/-- What does not mind a space ahead or behind does not mind being trimmed. -/
theorem Wy {α : Type} (f : Str → α) (h1 : ∀ s, f (32 :: s) = f s) (h2 : ∀ s, f (s ++ [32]) = f s) (s : Str) : f (trim s) = f s := by
 have r1 : ∀ (i : Nat) (t : Str), f (List.replicate i 32 ++ t) = f t := by
  intro i
  induction i with
  | zero => intro t; rfl
  | succ i ih => intro t; rw [List.replicate_succ, List.cons_append, h1, ih]
 have r2 : ∀ (j : Nat) (t : Str), f (t ++ List.replicate j 32) = f t := by
  intro j
  induction j with
  | zero => intro t; rw [List.replicate_zero, List.append_nil]
  | succ j ih => intro t; rw [List.replicate_succ', ← List.append_assoc, h2, ih]
 obtain ⟨i, j, e⟩ := Iq s
 have : f s = f (List.replicate i 32 ++ trim s ++ List.replicate j 32) := congrArg f e
 rw [this, r2, r1]
theorem X8 (s : Str) : words (trim s) = words s := Wy words QY Ql s
theorem abS (b : UInt8) (hb : b ≠ 32) (s : Str) : xG b (s ++ [32]) = (xG b s).map fun x => (x.1, x.2 ++ [32]) := by
 induction s with
 | nil =>
  have h : ¬ (32 : UInt8) = b := fun h => hb h.symm
  simp [xG, h]
 | cons c r ih =>
  rw [List.cons_append, xG, xG]
  by_cases h : c = b
  ·
   rw [if_pos h, if_pos h]; rfl
  ·
   rw [if_neg h, if_neg h, ih]; cases xG b r <;> rfl
theorem abT (s : Str) : Ir (trim s) = Ir s := by
 refine Wy Ir (fun s => ?_) (fun s => ?_) s
 ·
  unfold Ir
  rw [xG, if_neg (by decide)]
  cases xG 61 s with
  | none => rfl
  | some x => simp only [Option.map_some, RV]
 ·
  unfold Ir
  rw [abS 61 (by decide)]
  cases xG 61 s with
  | none => rfl
  | some x => simp only [Option.map_some, Ql]
/-- Cut outside of quotes, or plainly: the same, or a quote stands in what is ahead. -/
theorem afq (b : UInt8) (s : Str) : rE b 0 s = xG b s ∨ ((∀ x, rE b 0 s = some x → 34 ∈ x.1) ∧ (∀ x, xG b s = some x → 34 ∈ x.1)) := by
 induction s with
 | nil => exact Or.inl rfl
 | cons c r ih =>
  rw [rE, xG]
  by_cases h : c = b
  ·
   rw [if_pos ⟨rfl, h⟩, if_pos h]; exact Or.inl rfl
  ·
   rw [if_neg (fun hh => h hh.2), if_neg h]
   by_cases c1 : c = 34
   ·
    right
    rw [c1]
    refine ⟨fun x hx => ?_, fun x hx => ?_⟩ <;>
    ·
     simp only [Option.map_eq_some_iff] at hx
     obtain ⟨y, _, rfl⟩ := hx
     simp
   ·
    rw [show nq 0 c = 0 by simp [nq, c1]]
    rcases ih with h2 | ⟨h2, h3⟩
    ·
     left; rw [h2]
    ·
     right
     refine ⟨fun x hx => ?_, fun x hx => ?_⟩
     ·
      simp only [Option.map_eq_some_iff] at hx
      obtain ⟨y, hy, rfl⟩ := hx
      simp [h2 y hy]
     ·
      simp only [Option.map_eq_some_iff] at hx
      obtain ⟨y, hy, rfl⟩ := hx
      simp [h3 y hy]
/-- The reference's parameter. -/
def QZ (s : Str) : Option (Str × Str) := match rE 61 0 (trim s) with
 | none => none
 | some x => match words x.2 with
  | some [w] => some (low (trim x.1), w)
  | _ => none
def Bad (o : Option (Str × Str)) : Prop := ∀ x, o = some x → 34 ∈ x.1
theorem UG {l : Str} (h : (34 : UInt8) ∈ l) : (34 : UInt8) ∈ low l := List.mem_map.mpr ⟨34, h, by decide⟩
theorem anT (s : Str) : QZ s = Ir s ∨ (Bad (QZ s) ∧ Bad (Ir s)) := by
 rw [← abT s]
 unfold QZ Ir
 rcases afq 61 (trim s) with h | ⟨h1, h2⟩
 ·
  left; rw [h]
 ·
  right
  refine ⟨fun x hx => ?_, fun x hx => ?_⟩
  ·
   cases e : rE 61 0 (trim s) with
   | none => rw [e] at hx; cases hx
   | some y =>
    have h3 := h1 y e
    rw [e] at hx
    simp only at hx
    split at hx
    ·
     cases hx; exact UG (Wu _ _ h3 (by decide))
    ·
     cases hx
  ·
   cases e : xG 61 (trim s) with
   | none => rw [e] at hx; cases hx
   | some y =>
    have h3 := h2 y e
    rw [e] at hx
    simp only at hx
    split at hx
    ·
     cases hx; exact UG (Wu _ _ h3 (by decide))
    ·
     cases hx
def BX : List Str → Option (List (Str × Str))
 | [] => some []
 | s :: r => match QZ s with
  | none => none
  | some x => (BX r).map (x :: ·)
def abU (o : Option (List (Str × Str))) : Prop := ∀ l, o = some l → ∃ x ∈ l, (34 : UInt8) ∈ x.1
theorem ahB (r : List Str) : BX r = Qj r ∨ (abU (BX r) ∧ abU (Qj r)) := by
 induction r with
 | nil => exact Or.inl rfl
 | cons s r ih =>
  rw [BX, Qj]
  have aaV : ∀ (o : Option (Str × Str)) (p : Option (List (Str × Str))), Bad o → abU (match o with
    | none => none
    | some x => p.map (x :: ·)) := by
   intro o p h l hl
   cases o with
   | none => cases hl
   | some x =>
    simp only [Option.map_eq_some_iff] at hl
    obtain ⟨y, _, rfl⟩ := hl
    exact ⟨x, by simp, h x rfl⟩
  have aaW : ∀ (o : Option (Str × Str)) (p : Option (List (Str × Str))), abU p → abU (match o with
    | none => none
    | some x => p.map (x :: ·)) := by
   intro o p h l hl
   cases o with
   | none => cases hl
   | some x =>
    simp only [Option.map_eq_some_iff] at hl
    obtain ⟨y, hy, rfl⟩ := hl
    obtain ⟨z, hz, h3⟩ := h y hy
    exact ⟨z, by simp [hz], h3⟩
  rcases anT s with h | ⟨h1, h2⟩
  ·
   rcases ih with h2 | ⟨h2, h3⟩
   ·
    left; rw [h, h2]
   ·
    right; exact ⟨aaW _ _ h2, aaW _ _ h3⟩
  ·
   right; exact ⟨aaV _ _ h1, aaV _ _ h2⟩
theorem Qm {l : Str} (h : (34 : UInt8) ∈ l) : isSmall l = false := by
 cases e : isSmall l with
 | false => rfl
 | true => exact absurd rfl (ahA 34 (afn (X6 e).1 34 h)).1
theorem Qn (a b : Str) (ps : List (Str × Str)) (h : (34 : UInt8) ∈ a ∨ ∃ x ∈ ps, (34 : UInt8) ∈ x.1) : uS a b ps = false := by
 cases e : uS a b ps with
 | false => rfl
 | true =>
  obtain ⟨h1, _, _, h4, _⟩ := Kz e
  rcases h with h | ⟨x, hx, h⟩
  ·
   rw [Qm h] at h1; cases h1
  ·
   have := (aaT ps [] h4 x hx).1
   rw [Qm h] at this; cases this
/-- The reference's kind. -/
def pkS (s : Str) : Option (Str × Str × List (Str × Str)) := if kW s = true then pkO (rE 47 0 (trim ((parts 59 0 s).headD []))) (BX ((parts 59 0 s).drop 1)) else none
theorem WA (o : Option (Str × Str)) (p : Option (List (Str × Str))) (h : Bad o) : pkO o p = none := by
 unfold pkO
 split
 ·
  rename_i x ps
  rw [Qn _ _ _ (Or.inl (UG (h x rfl)))]; rfl
 ·
  rfl
theorem WB (o : Option (Str × Str)) (p : Option (List (Str × Str))) (h : abU p) : pkO o p = none := by
 unfold pkO
 split
 ·
  rename_i x ps
  rw [Qn _ _ _ (Or.inr (h ps rfl))]; rfl
 ·
  rfl
theorem anU (s : Str) : pkS s = pk s := by
 unfold pkS pk
 split
 ·
  rcases afq 47 (trim ((parts 59 0 s).headD [])) with h | ⟨h1, h2⟩
  ·
   rw [h]
   rcases ahB ((parts 59 0 s).drop 1) with h3 | ⟨h3, h4⟩
   ·
    rw [h3]
   ·
    rw [WB _ _ h3, WB _ _ h4]
  ·
   rw [WA _ _ h1, WA _ _ h2]
 ·
  rfl
theorem AP (ok : Bool) (m u : Str) (ps : List (Str × Str)) (hm : m.length ≤ 1048576) (hu : u.length ≤ 1048576) (hz : Aq ps ≤ 1048576) (hn : ps.length ≤ 1048576) :
  Ev (fun k => if ok = true then ((aX.f k (aW m) (aW u) (ps.map sN)).bind fun t => (if t = true then (some (aW m, aW u, ps.map sN, true)) else (some ((⟨#[]⟩ : ByteArray), (⟨#[]⟩ : ByteArray), ([] : List gX), false)))) else (some ((⟨#[]⟩ : ByteArray), (⟨#[]⟩ : ByteArray), ([] : List gX), false))) (N7 (fin1 ok m u ps)) := by
 cases ok with
 | false => exact vn (by simp) (vq (vs _) (by unfold fin1; rw [if_neg (by simp)]; rfl))
 | true =>
  refine vp rfl (vb (BQ m u ps hm hu hz hn) ?_)
  cases e : uS m u ps with
  | true => exact vp rfl (vq (vs _) (by unfold fin1; rw [if_pos ⟨rfl, e⟩]; rfl))
  | false => exact vn (by simp) (vq (vs _) (by unfold fin1; rw [if_neg (by simp [e])]; rfl))
theorem KC {b : UInt8} {q : Nat} {s x t : Str} (h : rE b q s = some (x, t)) : s.length = x.length + t.length + 1 := by
 rw [aaR b s q x t h]; simp; omega
/-- What is still to be read: nothing, or a rest. -/
def rest (more : Bool) (s : Str) : List Str := if more = true then parts 59 0 s else []
theorem zH (ok : Bool) (m u : Str) (hm : m.length ≤ 1048576) (hu : u.length ≤ 1048576) : ∀ (n : Nat) (s : Str) (more : Bool) (q : List (Str × Str)), s.length + (if more = true then 1 else 0) ≤ n → s.length + q.length + (if more = true then 1 else 0) ≤ 500 → Aq q ≤ 1000 * q.length →
  Ev (fun k => bn.l0 k (aW s) more ok (aW m) (aW u) (q.map sN)) (N7 (N8 ok m u q (BX (rest more s)))) := by
 intro n
 induction n with
 | zero =>
  intro s more q h h2 h3
  cases more with
  | true => simp at h
  | false =>
   refine vc ?_
   simp only [bn.l0]
   refine vn (by simp) ?_
   have := AP ok m u q hm hu (by omega) (by omega)
   simpa [rest, BX, N8] using this
 | succ n ih =>
  intro s more q h h2 h3
  cases more with
  | false =>
   refine vc ?_
   simp only [bn.l0]
   refine vn (by simp) ?_
   have := AP ok m u q hm hu (by omega) (by omega)
   simpa [rest, BX, N8] using this
  | true =>
   simp only [if_true] at h h2
   have hbad : ∀ (x5 : ByteArray) (x6 : Bool) (x12 : ByteArray) (x15 : List ByteArray), Ev (fun k => bn.j1 k x5 x6 ok x12 x15 true (aW m) (aW u) (q.map sN)) (N7 none) := by
    intro x5 x6 x12 x15
    refine vc ?_
    simp only [bn.j1]
    exact vp trivial (vs _)
   /- one part -/
   have one : ∀ (c t : Str) (more : Bool), c.length ≤ 500 → t.length + (if more = true then 1 else 0) ≤ n → t.length + (q.length + 1) + (if more = true then 1 else 0) ≤ 500 → 
     Ev (fun k => (bK.f k (aW c)).bind fun aAm => ((ji.f k aAm 61).bind fun WC => ((bK.f k WC.2.1).bind fun aAn => ((fF.f k aAn).bind fun Nu => (if WC.2.2 = true then (if Nu.2 = true then (bn.j1 k (aW t) more ok WC.1 Nu.1 ((Nu.1.length : Int) != 1) (aW m) (aW u) (q.map sN)) else (bn.j1 k (aW t) more ok WC.1 Nu.1 true (aW m) (aW u) (q.map sN))) else (bn.j1 k (aW t) more ok WC.1 Nu.1 true (aW m) (aW u) (q.map sN))))))) (N7 (N8 ok m u q (BX (c :: rest more t)))) := by
    intro c t more hc ht hq
    have htl := Dc c
    refine vb (oU c (by omega)) (vb (yI (trim c) 61 (by decide) (by omega)) ?_)
    cases e : rE 61 0 (trim c) with
    | none =>
     simp only [FM]
     refine vb (oU [] (by simp)) (vb (En _ (by decide)) (vn (by simp) (vq (hbad _ _ _ _) ?_)))
     rw [BX, QZ, e]; rfl
    | some x =>
     obtain ⟨a, v⟩ := x
     have hlen := KC e
     have hvl := Dc v
     have hal := Dc a
     simp only [FM]
     refine vb (oU v (by omega)) (vb (En _ (by omega)) (vp trivial ?_))
     rw [X8]
     cases e2 : words v with
     | none =>
      refine vn (by simp [GK]) (vq (hbad _ _ _ _) ?_)
      rw [BX, QZ, e]; simp only [e2]; rfl
     | some ws =>
      simp only [GK, List.nil_append]
      refine vp trivial ?_
      by_cases h1 : ws.length = 1
      ·
       obtain ⟨w, rfl⟩ := List.length_eq_one_iff.mp h1
       have hwl := RX e2 w (by simp)
       have e3 : QZ c = some (low (trim a), w) := by rw [QZ, e]; simp only [e2]
       have := ih t more (q ++ [(low (trim a), w)]) ht (by simp only [List.length_append, List.length_cons, List.length_nil]; omega) (by rw [yw]; simp only [Aq, List.length_append, List.length_cons, List.length_nil, BO]; omega)
       have hl := mg (trim a) (by omega)
       refine vc ?_
       simp only [bn.j1, List.map_cons, List.map_nil, List.length_cons, List.length_nil, List.length_map]
       refine vn (by simp) (vb (oU a (by omega)) ?_)
       simp only [hl, Option.bind_some]
       refine vp (by omega) (vp (by omega) ?_)
       rw [BX, e3]
       simp only
       rw [RY]
       rw [List.map_append] at this
       exact this
      ·
       have e4 : ((((ws.map aW).length : Nat) : Int) != 1) = true := by
        rw [List.length_map]; simp only [bne_iff_ne, ne_eq]; omega
       rw [e4]
       refine vq (hbad _ _ _ _) ?_
       have e3 : QZ c = none := by
        rw [QZ, e]
        simp only [e2]
        match ws, h1 with
        | [], _ => rfl
        | [w], h1 => exact absurd rfl h1
        | _ :: _ :: _, _ => rfl
       rw [BX, e3]; rfl
   refine vc ?_
   simp only [bn.l0]
   refine vp trivial (vb (yI s 59 (by decide) (by omega)) ?_)
   rw [rest, if_pos rfl, LY]
   cases e : rE 59 0 s with
   | none =>
    simp only [FM]
    have := one s [] false (by omega) (by simp) (by simp; omega)
    simpa [rest] using this
   | some x =>
    obtain ⟨c, t⟩ := x
    have hlen := KC e
    simp only [FM]
    have := one c t true (by omega) (by simp; omega) (by simp only [if_true]; omega)
    rw [rest, if_pos rfl] at this
    exact this
theorem KD (s : Str) (hs : s.length ≤ 1048576) : Ev (fun k => bn.f k (aW s)) (N7 (pk s)) := by
 rw [← anU]
 unfold bn.f pkS
 refine vb (kU s (by omega)) ?_
 cases et : kW s with
 | false => exact vn (by simp) (vq (vs _) rfl)
 | true =>
  have hsl := Io et
  refine vp rfl ?_
  rw [if_pos rfl]
  /- the head, and what is behind it -/
  have key : ∀ (h0 t : Str) (more : Bool), h0.length ≤ 200 → t.length ≤ 200 → Ev (fun k => (bK.f k (aW h0)).bind fun aAo => ((ji.f k aAo 47).bind fun afr => ((iF.f afr.1).bind fun avg => ((iF.f afr.2.1).bind fun aAp => (bn.l0 k (aW t) more afr.2.2 avg aAp ([] : List gX)))))) (N7 (pkO (rE 47 0 (trim h0)) (BX (rest more t)))) := by
   intro h0 t more hh ht
   have htl := Dc h0
   refine vb (oU h0 (by omega)) (vb (yI (trim h0) 47 (by decide) (by omega)) ?_)
   rw [aaS _ _ (trim h0)]
   cases e : rE 47 0 (trim h0) with
   | none =>
    have l1 := mg (trim h0) (by omega)
    have l2 := mg [] (by simp)
    have := zH false (low (trim h0)) (low []) (by rw [BO]; omega) (by simp [low]) (t.length + 1) t more [] (by split <;> omega) (by simp only [List.length_nil]; split <;> omega) (by simp [Aq])
    simp only [FM, l1, l2, Option.bind_some]
    simpa [low] using this
   | some x =>
    obtain ⟨a, b⟩ := x
    have hlen := KC e
    have l1 := mg a (by omega)
    have l2 := mg b (by omega)
    have := zH true (low a) (low b) (by rw [BO]; omega) (by rw [BO]; omega) (t.length + 1) t more [] (by split <;> omega) (by simp only [List.length_nil]; split <;> omega) (by simp [Aq])
    simp only [FM, l1, l2, Option.bind_some]
    simpa using this
  refine vb (yI s 59 (by decide) (by omega)) ?_
  rw [LY]
  cases e : rE 59 0 s with
  | none =>
   simp only [FM]
   have := key s [] false (by omega) (by simp)
   simpa [rest] using this
  | some x =>
   obtain ⟨c, t⟩ := x
   have hlen := KC e
   simp only [FM]
   have := key c t true (by omega) (by omega)
   rw [rest, if_pos rfl] at this
   simpa using this
theorem N_ (ls : List Str) (x : Str) (hn : ls.length ≤ 1000000000000000) : ∃ i : Int, Ev (fun k => dA.f k (ls.map aW) (aW x)) i ∧ (i = -1 ∨ 0 ≤ i) ∧ (0 ≤ i ↔ x ∈ ls) := by
 unfold dA.f
 rw [List.length_map]
 refine ⟨_, pG (xs := ls) (F := fun k (_ : Nat) i => dA.l0 k (ls.map aW) (aW x) (ls.length : Int) i) (st := fun n c => if x = c then .inl (n : Int) else .inr (n + 1)) (fin := fun _ => (-1 : Int)) (s := 0) (fun p n => n = p.length) rfl ?_ ?_, ?_, ?_⟩
 ·
  intro p c r n h hn
  subst hn
  have hz := jf h
  have e1 := uT h
  have w1 : wrap64 ((p.length : Int) + 1) = (p.length : Int) + 1 := aV (by omega) (by omega)
  simp only [dA.l0, e1, w1, List.length_map, lU]
  clear w1 e1
  by_cases e : x = c
  ·
   simp only [if_pos e]
   refine ⟨(fun v hv => ?_), fun s' hs => by cases hs⟩
   cases hv
   exact vp (by omega) (vp (by omega) (vp (by omega) (vs _)))
  ·
   simp only [if_neg e]
   refine ⟨(fun v hv => by cases hv), fun s' hs => ⟨?_, fun v hv => ?_⟩⟩
   ·
    cases hs; simp
   ·
    exact vp (by omega) (vp (by omega) (vp (by omega) hv))
 ·
  intro s _
  simp only [dA.l0]
  exact vn (by omega) (vs _)
 ·
  have key : ∀ (r : List Str) (n : Nat), run (fun (n : Nat) c => if x = c then .inl (n : Int) else .inr (n + 1)) (fun _ => (-1 : Int)) r n = -1 ∨ 0 ≤ run (fun (n : Nat) c => if x = c then .inl (n : Int) else .inr (n + 1)) (fun _ => (-1 : Int)) r n := by
   intro r
   induction r with
   | nil => intro n; exact Or.inl rfl
   | cons c r ih =>
    intro n
    unfold run
    by_cases e : x = c
    ·
     simp only [if_pos e]; exact Or.inr (by omega)
    ·
     simp only [if_neg e]; exact ih (n + 1)
  exact key ls 0
 ·
  have key : ∀ (r : List Str) (n : Nat), 0 ≤ run (fun (n : Nat) c => if x = c then .inl (n : Int) else .inr (n + 1)) (fun _ => (-1 : Int)) r n ↔ x ∈ r := by
   intro r
   induction r with
   | nil => intro n; simp [run]
   | cons c r ih =>
    intro n
    unfold run
    by_cases e : x = c
    ·
     simp only [if_pos e]; simp [e]
    ·
     simp only [if_neg e]; rw [ih]; simp [e]
  exact key ls 0
theorem AQ (ls : List Str) (x : Str) (hn : ls.length ≤ 1000000000000000) : Ev (fun k => fJ.f k (ls.map aW) (aW x)) (decide (x ∈ ls)) := by
 obtain ⟨i, hi, h1, h2⟩ := N_ ls x hn
 unfold fJ.f
 refine vb hi (vq (vs _) ?_)
 by_cases h : x ∈ ls
 ·
  rw [decide_eq_true h]; exact decide_eq_true (h2.mpr h)
 ·
  rw [decide_eq_false h]; exact decide_eq_false (fun hh => h (h2.mp hh))
/-! Lines that divide: the model. -/
def dash (b : Str) : Str := [45, 45] ++ b
def fin2 (b : Str) : Str := [45, 45] ++ b ++ [45, 45]
def dv (ls : List Str) (b : Str) : Bool := decide (dash b ∈ ls) || decide (fin2 b ∈ ls)
def lk (l b : Str) : Bool := decide (l = dash b) || decide (l = fin2 b)
theorem ak1 (ls : List Str) (b : Str) : dv ls b = ls.any (fun l => lk l b) := by
 unfold dv
 rw [Bool.eq_iff_iff]
 simp only [lk, Bool.or_eq_true, decide_eq_true_iff, List.any_eq_true]
 constructor
 ·
  rintro (h | h)
  ·
   exact ⟨_, h, Or.inl rfl⟩
  ·
   exact ⟨_, h, Or.inr rfl⟩
 ·
  rintro ⟨x, h, rfl | rfl⟩
  ·
   exact Or.inl h
  ·
   exact Or.inr h
theorem Df (b : Str) : (⟨#[45, 45]⟩ : ByteArray) ++ aW b = aW (dash b) := by rw [afs, WE, jZ]; rfl
theorem OH (b : Str) : aW (dash b) ++ (⟨#[45, 45]⟩ : ByteArray) = aW (fin2 b) := by rw [afs, WE, jZ]; rfl
theorem KE (b : Str) : (dash b).length = b.length + 2 := by unfold dash; simp
theorem aaX (b : Str) : (fin2 b).length = b.length + 4 := by unfold fin2; simp
theorem Oa (ls : List Str) (b : Str) (hb : b.length ≤ 1000000000000000) (hn : ls.length ≤ 1000000000000000) : Ev (fun k => sV.f k (ls.map aW) (aW b)) (dv ls b) := by
 unfold sV.f dv
 have hd := KE b
 simp only [Df, OH, au]
 refine vp (by omega) (vb (AQ ls (dash b) hn) ?_)
 cases e : decide (dash b ∈ ls) with
 | true => exact vp rfl (vs _)
 | false => exact vn (by simp) (vp (by omega) (vb (AQ ls (fin2 b) hn) (vs _)))
theorem Eo (l b : Str) (hb : b.length ≤ 1000000000000000) : nP.f (aW l) (aW b) = some (lk l b) := by
 unfold nP.f lk
 have hd := KE b
 simp only [Df, OH, au, lU]
 rw [if_pos (by omega)]
 by_cases h : l = dash b
 ·
  rw [if_pos h, decide_eq_true h]; rfl
 ·
  rw [if_neg h, decide_eq_false h, if_pos (by omega)]
  simp only [Bool.false_or]
  congr 1
  rw [Bool.eq_iff_iff]; simp
/-! Parts joined: the model. -/
def jb (b : Str) : List (List Str) → List Str
 | [] => []
 | c :: r => dash b :: (c ++ jb b r)
def jR (b : Str) (ps : List (List Str)) : Option (List Str) := if Fv b = true ∧ ps ≠ [] ∧ ps.any (fun c => dv c b) = false then some (jb b ps ++ [fin2 b]) else none
def L_ (o : Option (List Str)) : List ByteArray × Bool := match o with
 | none => ([], false)
 | some l => (l.map aW, true)
theorem Qo (b : Str) (ps : List (List Str)) : (jb b ps).length = tl ps := by
 induction ps with
 | nil => rfl
 | cons c r ih => simp only [jb, tl, List.length_cons, List.length_append, ih]; omega
theorem Si (b : Str) (a c : List (List Str)) : jb b (a ++ c) = jb b a ++ jb b c := by
 induction a with
 | nil => rfl
 | cons d a ih => simp [jb, ih]
theorem ahC {b : Str} (ps : List (List Str)) (h : Fv b = false) : jR b ps = none := by
 unfold jR; rw [if_neg (by rw [h]; simp)]
theorem ahD (b : Str) : jR b [] = none := by
 unfold jR; rw [if_neg (by simp)]
theorem anV {b : Str} {ps : List (List Str)} (h1 : Fv b = true) (h2 : ps ≠ []) : L_ (jR b ps) = if ps.any (fun c => dv c b) = true then ([], false) else ((jb b ps ++ [fin2 b]).map aW, true) := by
 unfold jR
 cases e : ps.any (fun c => dv c b) with
 | true => rw [if_neg (by simp), if_pos rfl]; rfl
 | false => rw [if_pos ⟨h1, h2, rfl⟩, if_neg (by simp)]; rfl
theorem GN (ls : List Str) (b : Str) (hb : b.length ≤ 1000000000000) (hn : ls.length ≤ 1000000000000) : Ev (fun k => mZ.f k (ls.map aW) (aW b)) (dv ls b) := by
 unfold mZ.f
 exact vb (Oa ls b (by omega) (by omega)) (vs _)
theorem Ez (ps : List (List Str)) (b : Str) (hb : b.length ≤ 1000000000000) (hn : tl ps ≤ 1000000000000) : Ev (fun k => dS.f k (ps.map (List.map aW)) (aW b)) (ps.any (fun c => dv c b)) := by
 unfold dS.f aU.f
 have hl := UC ps
 have key : ∀ (r : List (List Str)) (n : Nat), decide (run (fun (n : Nat) c => if dv c b = true then .inl (n : Int) else .inr (n + 1)) (fun _ => (-1 : Int)) r n ≥ 0) = r.any (fun c => dv c b) := by
  intro r
  induction r with
  | nil => intro n; rfl
  | cons c r ih =>
   intro n
   unfold run
   cases e : dv c b with
   | true => simp [e]
   | false => simp only [Bool.false_eq_true, if_false, ih, List.any_cons, e, Bool.false_or]
 rw [List.length_map]
 refine vb (pG (xs := ps) (F := fun k (_ : Nat) i => aU.l0 k (ps.map (List.map aW)) (ps.length : Int) i (aW b)) (st := fun n c => if dv c b = true then .inl (n : Int) else .inr (n + 1)) (fin := fun _ => (-1 : Int)) (s := 0) (fun p n => n = p.length) rfl ?_ ?_) (vq (vs _) (key ps 0))
 ·
  intro p c r n h hn'
  subst hn'
  have hz := jf h
  have hc : c.length ≤ tl ps := anQ (by rw [h]; simp)
  have e1 := P9 h
  have w1 : wrap64 ((p.length : Int) + 1) = (p.length : Int) + 1 := aV (by omega) (by omega)
  simp only [aU.l0, e1, w1, List.length_map]
  clear w1 e1
  have hd := GN c b hb (by omega)
  cases e : dv c b with
  | true =>
   simp only [if_true]
   rw [e] at hd
   refine ⟨(fun v hv => ?_), fun s' hs => by cases hs⟩
   cases hv
   exact vp (by omega) (vp (by omega) (vp (by omega) (vb hd (vp rfl (vs _)))))
  | false =>
   rw [e] at hd
   refine ⟨(fun v hv => by cases hv), fun s' hs => ⟨?_, fun v hv => ?_⟩⟩
   ·
    cases hs; simp
   ·
    exact vp (by omega) (vp (by omega) (vp (by omega) (vb hd (vn (by simp) hv))))
 ·
  intro s _
  simp only [aU.l0]
  exact vn (by omega) (vs _)
theorem KF (ps : List (List Str)) (b : Str) (hb : b.length ≤ 1000000000000) (hn : tl ps ≤ 1000000000000) : Ev (fun k => fE.f k (ps.map (List.map aW)) (aW b)) (L_ (jR b ps)) := by
 have hl := UC ps
 have hd := KE b
 have hbad : ∀ ps : List (List Str), Ev (fun k => fE.j0 k (ps.map (List.map aW)) true (aW b)) (L_ none) := by
  intro ps
  refine vc ?_
  simp only [fE.j0]
  exact vp trivial (vs _)
 unfold fE.f
 refine vb (Az b (by omega)) ?_
 unfold jR
 cases e1 : Fv b with
 | false =>
  rw [if_neg (by simp)]
  exact vn (by simp) (hbad ps)
 | true =>
  refine vp rfl ?_
  rw [List.length_map]
  by_cases e2 : ps = []
  ·
   rw [if_neg (by simp [e2])]
   exact vp (by simp [e2]) (hbad ps)
  ·
   have h2 : ps.length ≠ 0 := by rw [ne_eq, List.length_eq_zero_iff]; exact e2
   refine vn (by omega) (vb (Ez ps b hb hn) ?_)
   cases e3 : ps.any (fun c => dv c b) with
   | true =>
    rw [if_neg (by simp)]
    exact hbad ps
   | false =>
    rw [if_pos ⟨rfl, e2, rfl⟩]
    refine vc ?_
    simp only [fE.j0, Bool.false_eq_true, if_false, List.length_map]
    refine vq (pG (xs := ps) (F := fun k (out : List Str) i => fE.l0 k (out.map aW) (ps.map (List.map aW)) (ps.length : Int) i (aW b)) (st := fun out c => .inr (out ++ (dash b :: c))) (fin := fun out => L_ (some (out ++ [fin2 b]))) (s := []) (fun p out => out = jb b p) rfl ?_ ?_) ?_
    ·
     intro p c r out h ho
     have hz := jf h
     have e1 := P9 h
     have hlen : out.length = tl p := by rw [ho, Qo]
     have htl : tl ps = tl p + (c.length + 1 + tl r) := by rw [h, CW]; rfl
     have w1 : wrap64 ((p.length : Int) + 1) = (p.length : Int) + 1 := aV (by omega) (by omega)
     simp only [fE.l0, e1, w1, List.length_map, Df, au, Option.bind_some, List.length_append, List.length_cons, List.length_nil]
     clear w1 e1
     refine ⟨(fun v hv => by cases hv), fun s' hs => ⟨?_, fun v hv => ?_⟩⟩
     ·
      cases hs; rw [ho, Si]; simp [jb]
     ·
      cases hs
      refine vp (by omega) (vp (by omega) (vp (by omega) (vp (by omega) (vp (by omega) (vp (by omega) ?_)))))
      have e5 : out.map aW ++ [aW (dash b)] ++ c.map aW = (out ++ (dash b :: c)).map aW := by simp
      rw [e5]
      exact hv
    ·
     intro out ho
     have hlen : out.length = tl ps := by rw [ho, Qo]
     have hd4 := aaX b
     simp only [fE.l0, Df, OH, au, List.length_map]
     refine vn (by omega) (vp (by omega) (vp (by omega) (vp (by omega) (vq (vs _) ?_))))
     simp [L_]
    ·
     have key : ∀ (r : List (List Str)) (out : List Str), run (fun out c => .inr (out ++ (dash b :: c))) (fun out => L_ (some (out ++ [fin2 b]))) r out = L_ (some (out ++ jb b r ++ [fin2 b])) := by
      intro r
      induction r with
      | nil => intro out; simp [run, jb]
      | cons c r ih => intro out; unfold run; simp only; rw [ih]; simp [jb]
     exact key ps []
theorem KG (ps : List (List Str)) (b : Str) (hb : b.length ≤ 1000000000000) (hn : tl ps ≤ 1000000000000) (p r : List (List Str)) (c : List Str) (h : ps = p ++ c :: r) (out : List Str) (ho : out.length ≤ tl p + 1) (V : List ByteArray × Bool)
  (hV : c.any (fun l => lk l b) = false → Ev (fun k => bW.l0 k (ps.map (List.map aW)) (aW b) ((out ++ c).map aW) ((p.length : Int) + 1)) V) :
  Ev (fun k => bW.l1 k (ps.map (List.map aW)) (aW b) (out.map aW) (p.length : Int) 0) (if c.any (fun l => lk l b) = true then ([], false) else V) := by
 have hz := jf h
 have hl := UC ps
 have e1 := P9 h
 have htl : tl ps = tl p + (c.length + 1 + tl r) := by rw [h, CW]; rfl
 have w0 : wrap64 ((p.length : Int) + 1) = (p.length : Int) + 1 := aV (by omega) (by omega)
 refine vq (pG (xs := c) (F := fun k (o : List Str) i => bW.l1 k (ps.map (List.map aW)) (aW b) (o.map aW) (p.length : Int) i) (st := fun o l => if lk l b = true then .inl ([], false) else .inr (o ++ [l])) (fin := fun _ => V) (s := out) (fun q o => o = out ++ q ∧ q.any (fun l => lk l b) = false) ⟨by simp, rfl⟩ ?_ ?_) ?_
 ·
  rintro q l s o hc ⟨ho2, hq⟩
  have hzc := jf hc
  have e2 := uT hc
  have hlo : o.length = out.length + q.length := by rw [ho2, List.length_append]
  have w1 : wrap64 ((q.length : Int) + 1) = (q.length : Int) + 1 := aV (by omega) (by omega)
  simp only [bW.l1, e1, e2, w1, List.length_map]
  clear w1 e2 w0
  have hk := Eo l b (by omega)
  cases e : lk l b with
  | true =>
   rw [e] at hk
   simp only [if_true]
   refine ⟨(fun v hv => ?_), fun s' hs => by cases hs⟩
   cases hv
   exact vp (by omega) (vp (by omega) (vp (by omega) (vp (by omega) (jA hk (vp rfl (vs _))))))
  | false =>
   rw [e] at hk
   refine ⟨(fun v hv => by cases hv), fun s' hs => ⟨?_, fun v hv => ?_⟩⟩
   ·
    cases hs; exact ⟨by rw [ho2]; simp, by simp [List.any_append, hq, e]⟩
   ·
    cases hs
    refine vp (by omega) (vp (by omega) (vp (by omega) (vp (by omega) (jA hk (vn (by simp) (vp (by omega) ?_))))))
    have e5 : o.map aW ++ [aW l] = (o ++ [l]).map aW := by simp
    rw [e5]
    exact hv
 ·
  rintro o ⟨ho2, hq⟩
  simp only [bW.l1, e1, w0, List.length_map]
  clear w0
  rw [ho2]
  exact vp (by omega) (vp (by omega) (vn (by omega) (hV hq)))
 ·
  have key : ∀ (r : List Str) (o : List Str), run (fun o l => if lk l b = true then .inl ([], false) else .inr (o ++ [l])) (fun _ => V) r o = if r.any (fun l => lk l b) = true then ([], false) else V := by
   intro r
   induction r with
   | nil => intro o; rfl
   | cons c r ih =>
    intro o
    unfold run
    cases e : lk c b with
    | true => simp [e]
    | false => simp only [Bool.false_eq_true, if_false, ih, List.any_cons, e, Bool.false_or]
  exact key c out
theorem KH (ps : List (List Str)) (b : Str) (hb : b.length ≤ 1000000000000) (hn : tl ps ≤ 1000000000000) (r : List (List Str)) : ∀ (p : List (List Str)), ps = p ++ r → Ev (fun k => bW.l0 k (ps.map (List.map aW)) (aW b) ((jb b p).map aW) (p.length : Int)) (if r.any (fun c => dv c b) = true then ([], false) else ((jb b ps ++ [fin2 b]).map aW, true)) := by
 have hd := KE b
 have hd4 := aaX b
 induction r with
 | nil =>
  intro p h
  rw [List.append_nil] at h
  subst h
  have hlen := Qo b ps
  refine vc ?_
  simp only [bW.l0, Df, OH, au, List.length_map]
  refine vn (by omega) (vp (by omega) (vp (by omega) (vp (by omega) (vq (vs _) ?_))))
  simp
 | cons c r ih =>
  intro p h
  have hz := jf h
  have hl := UC ps
  have hlen := Qo b p
  have htl : tl ps = tl p + (c.length + 1 + tl r) := by rw [h, CW]; rfl
  have h1 := ih (p ++ [c]) (by rw [h]; simp)
  rw [nR] at h1
  have e5 : jb b (p ++ [c]) = jb b p ++ [dash b] ++ c := by rw [Si]; simp [jb]
  rw [e5] at h1
  have h2 := KG ps b hb hn p r c h (jb b p ++ [dash b]) (by rw [List.length_append, hlen]; simp) _ (fun _ => h1)
  refine vc ?_
  simp only [bW.l0, Df, au, List.length_map]
  have e6 : (jb b p).map aW ++ [aW (dash b)] = (jb b p ++ [dash b]).map aW := by simp
  rw [e6]
  refine vp (by omega) (vp (by omega) (vp (by omega) (vq h2 ?_)))
  rw [← ak1, List.any_cons]
  cases dv c b <;> simp
theorem KI (ps : List (List Str)) (b : Str) (hb : b.length ≤ 1000000000000) (hn : tl ps ≤ 1000000000000) : Ev (fun k => bW.f k (ps.map (List.map aW)) (aW b)) (L_ (jR b ps)) := by
 have hbad : Ev (fun k => bW.j0 k (ps.map (List.map aW)) (aW b) [] true) (L_ none) := by
  refine vc ?_
  simp only [bW.j0]
  exact vp trivial (vs _)
 unfold bW.f
 simp only [Option.bind_some, List.length_map]
 refine vb (AA b (by omega)) ?_
 cases e1 : Fv b with
 | false =>
  rw [ahC ps e1]
  exact vn (by simp) hbad
 | true =>
  refine vp rfl ?_
  by_cases e2 : ps = []
  ·
   subst e2
   rw [ahD]
   exact hbad
  ·
   have h2 : ps.length ≠ 0 := by rw [ne_eq, List.length_eq_zero_iff]; exact e2
   have : ((ps.length : Int) == 0) = false := by rw [beq_eq_false_iff_ne]; omega
   rw [this, anV e1 e2]
   refine vc ?_
   simp only [bW.j0]
   exact vn (by simp) (KH ps b hb hn ps [] rfl)
/-! Fields folded to lines. -/
def vM (l : Str) (i : Nat) : Bool := decide (bt (aW l) (i : Int) = 32) && (!decide (bt (aW l) ((i : Int) - 1) = 32) && !decide (bt (aW l) ((i : Int) + 1) = 32))
def rQ (l : Str) (i : Nat) (b : Int) : Int := if vM l i = true ∧ (b < 0 ∨ i ≤ 40) then (i : Int) else b
def brk (l : Str) : Nat → Nat → Int → Int
 | 0, _, b => b
 | n + 1, i, b => brk l n (i + 1) (rQ l i b)
def Mc (l : Str) (i : Nat) : Int := brk l (l.length - 1 - i) i (-1)
theorem Sj (l : Str) : ∀ (n i : Nat) (b : Int), brk l n i b = b ∨ ((i : Int) ≤ brk l n i b ∧ brk l n i b < i + n)
 | 0, _, _ => .inl rfl
 | n + 1, i, b => by
  rw [brk]
  rcases Sj l n (i + 1) (rQ l i b) with h | h
  ·
   rw [h]
   unfold rQ
   by_cases c : vM l i = true ∧ (b < 0 ∨ i ≤ 40)
   ·
    rw [if_pos c]; exact .inr ⟨by omega, by omega⟩
   ·
    rw [if_neg c]; exact .inl rfl
  ·
   exact .inr ⟨by omega, by omega⟩
theorem Iw (l : Str) (i : Nat) : Mc l i < 0 ∨ ((i : Int) ≤ Mc l i ∧ Mc l i < l.length) := by
 unfold Mc
 rcases Sj l (l.length - 1 - i) i (-1) with h | h
 ·
  exact .inl (by omega)
 ·
  exact .inr ⟨h.1, by omega⟩
def fl : Nat → Str → Nat → List Str
 | 0, l, _ => [l]
 | n + 1, l, i => if l.length > 40 then (if Mc l i < 0 then [l] else l.take (Mc l i).toNat :: fl n (l.drop (Mc l i).toNat) 2) else [l]
theorem aft : ∀ (n : Nat) (l : Str) (i : Nat), 1 ≤ i → (fl n l i).length ≤ l.length + 1
 | 0, l, i, _ => by simp [fl]
 | n + 1, l, i, hi => by
  rw [fl]
  by_cases c : l.length > 40
  ·
   rw [if_pos c]
   by_cases d : Mc l i < 0
   ·
    rw [if_pos d]; simp
   ·
    rw [if_neg d]
    have := Iw l i
    have h2 := aft n (l.drop (Mc l i).toNat) 2 (by omega)
    rw [List.length_drop] at h2
    rw [List.length_cons]
    omega
  ·
   rw [if_neg c]; simp
/-- The lines of a field. -/
def WG (f : Str × Str) : Str := (f.1 ++ [58]) ++ (if f.2 = [] then [] else 32 :: f.2)
def Ep (f : Str × Str) : List Str := fl (WG f).length (WG f) (f.1.length + 3)
theorem y5 (acc : List Str) (l : Str) : acc.map aW ++ [aW l] = (acc ++ [l]).map aW := by rw [List.map_append]; rfl
theorem UH (l : Str) (acc : List Str) (hl : l.length ≤ 1048576) (V : List ByteArray) : ∀ (n i : Nat) (b : Int), n = l.length - 1 - i → 1 ≤ i → i ≤ 1048579 →
  Ev (fun k => if brk l n i b < 0 then (if (acc.map aW).length < 8796093022208 then (some ((acc.map aW) ++ [aW l])) else (none)) else (if 0 ≤ brk l n i b then (if brk l n i b ≤ ((aW l).size : Int) then (if (acc.map aW).length < 8796093022208 then (aK.l0 k ((aW l).extract (brk l n i b : Int).toNat (aW l).size) 2 ((acc.map aW) ++ [(aW l).extract 0 (brk l n i b : Int).toNat])) else (none)) else (none)) else (none))) V →
  Ev (fun k => aK.l1 k (aW l) (acc.map aW) b (i : Int)) V := by
 intro n
 induction n with
 | zero =>
  intro i b hn hi hi2 hE
  have w1 : wrap64 ((i : Int) + 1) = (i : Int) + 1 := aV (by omega) (by omega)
  refine vc ?_
  simp only [aK.l1, w1]
  clear w1
  rw [brk] at hE
  exact vn (by rw [au]; omega) hE
 | succ n ih =>
  intro i b hn hi hi2 hE
  have w1 : wrap64 ((i : Int) + 1) = (i : Int) + 1 := aV (by omega) (by omega)
  have w2 : wrap64 ((i : Int) - 1) = (i : Int) - 1 := aV (by omega) (by omega)
  have hs := au l
  rw [brk] at hE
  have go := ih (i + 1) (rQ l i b) (by omega) (by omega) (by omega) hE
  rw [show ((i + 1 : Nat) : Int) = (i : Int) + 1 by omega] at go
  clear hE ih
  refine vc ?_
  simp only [aK.l1, w1, w2]
  clear w1 w2
  refine vp (by omega) (vp (by omega) (vp (by omega) ?_))
  by_cases c1 : bt (aW l) (i : Int) = 32
  ·
   refine vp c1 (vp (by omega) (vp (by omega) ?_))
   by_cases c2 : bt (aW l) ((i : Int) - 1) = 32
   ·
    refine vp c2 ?_
    have e : rQ l i b = b := by unfold rQ vM; rw [if_neg (by simp [c2])]
    rw [e] at go
    exact go
   ·
    refine vn c2 (vp (by omega) ?_)
    by_cases c3 : bt (aW l) ((i : Int) + 1) = 32
    ·
     refine vp c3 ?_
     have e : rQ l i b = b := by unfold rQ vM; rw [if_neg (by simp [c3])]
     rw [e] at go
     exact go
    ·
     refine vn c3 ?_
     by_cases c4 : b < 0
     ·
      refine vp c4 ?_
      have e : rQ l i b = (i : Int) := by unfold rQ vM; rw [if_pos (by simp [c1, c2, c3, c4])]
      rw [e] at go
      exact go
     ·
      refine vn c4 ?_
      by_cases c5 : (i : Int) ≤ 40
      ·
       refine vp c5 ?_
       have e : rQ l i b = (i : Int) := by unfold rQ vM; rw [if_pos (by simp [c1, c2, c3]; omega)]
       rw [e] at go
       exact go
      ·
       refine vn c5 ?_
       have e : rQ l i b = b := by unfold rQ; rw [if_neg (fun h => by have := h.2; omega)]
       rw [e] at go
       exact go
  ·
   refine vn c1 ?_
   have e : rQ l i b = b := by unfold rQ vM; rw [if_neg (by simp [c1])]
   rw [e] at go
   exact go
theorem UJ : ∀ (n : Nat) (l : Str) (i : Nat) (acc : List Str), l.length ≤ n → l.length ≤ 1048576 → 1 ≤ i → i ≤ 1048579 → acc.length + l.length ≤ 2000000 → Ev (fun k => aK.l0 k (aW l) (i : Int) (acc.map aW)) ((acc ++ fl n l i).map aW) := by
 intro n
 induction n with
 | zero =>
  intro l i acc hn hl hi hi2 ha
  refine vc ?_
  simp only [aK.l0, au, List.length_map, fl]
  exact vn (by omega) (vp (by omega) (vq (vs _) (y5 acc l)))
 | succ n ih =>
  intro l i acc hn hl hi hi2 ha
  refine vc ?_
  simp only [aK.l0, fl]
  by_cases c : l.length > 40
  ·
   refine vp (by rw [au]; omega) ?_
   rw [if_pos c]
   have hr := Iw l i
   refine UH l acc hl _ (l.length - 1 - i) i (-1) rfl hi hi2 ?_
   rw [show brk l (l.length - 1 - i) i (-1) = Mc l i from rfl]
   generalize Mc l i = t at hr
   by_cases d : t < 0
   ·
    rw [if_pos d]
    exact vp d (vp (by rw [List.length_map]; omega) (vq (vs _) (y5 acc l)))
   ·
    rw [if_neg d]
    obtain ⟨m, rfl⟩ := Int.eq_ofNat_of_zero_le (a := t) (by omega)
    have h2 := ih (l.drop m) 2 (acc ++ [l.take m]) (by rw [List.length_drop]; omega) (by rw [List.length_drop]; omega) (by omega) (by omega) (by rw [List.length_append, List.length_drop]; simp; omega)
    refine vn d (vp (by omega) (vp (by rw [au]; omega) (vp (by rw [List.length_map]; omega) ?_)))
    rw [← y5] at h2
    simp only [jw, au, Int.toNat_natCast, List.drop_zero, Nat.sub_zero] at h2 ⊢
    rw [List.take_of_length_le (l := l.drop m) (by rw [List.length_drop]; omega)]
    refine vq h2 ?_
    simp
  ·
   refine vn (by rw [au]; omega) ?_
   rw [if_neg c]
   exact vp (by rw [List.length_map]; omega) (vq (vs _) (y5 acc l))
theorem Sl : (⟨#[58]⟩ : ByteArray) = aW [58] := rfl
theorem Sm : (⟨#[32]⟩ : ByteArray) = aW [32] := rfl
theorem KJ (f : Str × Str) (h1 : f.1.length ≤ 1000) (h2 : f.2.length ≤ 1000) : Ev (fun k => aK.f k (aW f.1) (aW f.2)) ((Ep f).map aW) := by
 obtain ⟨a, b⟩ := f
 simp only at h1 h2
 unfold aK.f Ep WG
 have w : wrap64 ((a.length : Int) + 3) = ((a.length + 3 : Nat) : Int) := by rw [aV (by omega) (by omega)]; omega
 simp only [Sl, Sm, jZ, au, lU, w, List.length_append, List.length_cons, List.length_nil]
 clear w
 have key : ∀ l : Str, l.length ≤ 3000 → Ev (fun k => aK.j0 k (aW l) ((a.length + 3 : Nat) : Int)) ((fl l.length l (a.length + 3)).map aW) := by
  intro l hl
  refine vc ?_
  simp only [aK.j0]
  have := UJ l.length l (a.length + 3) [] (Nat.le_refl _) (by omega) (by omega) (by omega) (by simp; omega)
  exact this
 refine vp (by omega) ?_
 by_cases c : b = []
 ·
  subst c
  refine vp rfl ?_
  have := key (a ++ [58]) (by simp; omega)
  simpa using this
 ·
  refine vn c (vp (by omega) (vp (by omega) ?_))
  have := key ((a ++ [58]) ++ ([32] ++ b)) (by simp; omega)
  rw [if_neg c]
  simpa [Nat.add_assoc, Nat.add_comm, Nat.add_left_comm] using this
theorem X9 (l : Str) (hl : l.length ≤ 1048576) : ∀ (n i : Nat) (b : Int), n = l.length - 1 - i → 1 ≤ i → i ≤ 1048579 → Ev (fun k => eH.l0 k (aW l) b (i : Int)) (brk l n i b) := by
 intro n
 induction n with
 | zero =>
  intro i b hn hi hi2
  have w1 : wrap64 ((i : Int) + 1) = (i : Int) + 1 := aV (by omega) (by omega)
  refine vc ?_
  simp only [eH.l0, w1, brk]
  clear w1
  exact vn (by rw [au]; omega) (vs _)
 | succ n ih =>
  intro i b hn hi hi2
  have w1 : wrap64 ((i : Int) + 1) = (i : Int) + 1 := aV (by omega) (by omega)
  have w2 : wrap64 ((i : Int) - 1) = (i : Int) - 1 := aV (by omega) (by omega)
  have hs := au l
  have go := ih (i + 1) (rQ l i b) (by omega) (by omega) (by omega)
  rw [show ((i + 1 : Nat) : Int) = (i : Int) + 1 by omega] at go
  rw [brk]
  clear ih
  have jt : rQ l i b = b → Ev (fun k => eH.j1 k (aW l) b (i : Int) true) (brk l n (i + 1) (rQ l i b)) := fun e => by
   refine vc ?_
   simp only [eH.j1, w1]
   rw [e] at go ⊢
   exact vp (by simp) go
  refine vc ?_
  simp only [eH.l0, w1, w2]
  refine vp (by omega) (vp (by omega) (vp (by omega) ?_))
  by_cases c1 : bt (aW l) (i : Int) = 32
  ·
   refine vp c1 (vp (by omega) (vp (by omega) ?_))
   by_cases c2 : bt (aW l) ((i : Int) - 1) = 32
   ·
    exact vp c2 (jt (by unfold rQ vM; rw [if_neg (by simp [c2])]))
   ·
    refine vn c2 (vp (by omega) ?_)
    by_cases c3 : bt (aW l) ((i : Int) + 1) = 32
    ·
     rw [show (bt (aW l) ((i : Int) + 1) == 32) = true by simp [c3]]
     exact jt (by unfold rQ vM; rw [if_neg (by simp [c3])])
    ·
     rw [show (bt (aW l) ((i : Int) + 1) == 32) = false by simp [c3]]
     refine vc ?_
     simp only [eH.j1, w1]
     clear w1 w2
     refine vn (by simp) ?_
     by_cases c5 : (i : Int) ≤ 40
     ·
      refine vp c5 ?_
      have e : rQ l i b = (i : Int) := by unfold rQ vM; rw [if_pos (by simp [c1, c2, c3]; omega)]
      rw [e] at go ⊢
      exact go
     ·
      refine vn c5 ?_
      by_cases c4 : b < 0
      ·
       refine vp c4 ?_
       have e : rQ l i b = (i : Int) := by unfold rQ vM; rw [if_pos (by simp [c1, c2, c3, c4])]
       rw [e] at go ⊢
       exact go
      ·
       refine vn c4 ?_
       have e : rQ l i b = b := by unfold rQ; rw [if_neg (fun h => by have := h.2; omega)]
       rw [e] at go ⊢
       exact go
  ·
   exact vn c1 (jt (by unfold rQ vM; rw [if_neg (by simp [c1])]))
theorem KL : ∀ (n : Nat) (l : Str) (i : Nat) (acc : List Str), l.length ≤ n → l.length ≤ 1048576 → 1 ≤ i → i ≤ 1048578 → acc.length + l.length ≤ 2000000 → Ev (fun k => fU.l0 k (acc.map aW) (aW l) (i : Int)) ((acc ++ fl n l (i + 1)).map aW) := by
 intro n
 induction n with
 | zero =>
  intro l i acc hn hl hi hi2 ha
  refine vc ?_
  simp only [fU.l0, au, List.length_map, fl]
  exact vn (by omega) (vp (by omega) (vq (vs _) (y5 acc l)))
 | succ n ih =>
  intro l i acc hn hl hi hi2 ha
  refine vc ?_
  simp only [fU.l0, fl]
  by_cases c : l.length > 40
  ·
   refine vp (by rw [au]; omega) ?_
   rw [if_pos c]
   have hr := Iw l (i + 1)
   have hb : Ev (fun k => eH.f k (aW l) (i : Int)) (Mc l (i + 1)) := by
    unfold eH.f
    rw [show wrap64 ((i : Int) + 1) = ((i + 1 : Nat) : Int) by rw [aV (by omega) (by omega)]; omega]
    exact X9 l hl (l.length - 1 - (i + 1)) (i + 1) (-1) rfl (by omega) (by omega)
   refine vb hb ?_
   generalize Mc l (i + 1) = t at hr
   by_cases d : t < 0
   ·
    rw [if_pos d]
    exact vp d (vp (by rw [List.length_map]; omega) (vq (vs _) (y5 acc l)))
   ·
    rw [if_neg d]
    obtain ⟨m, rfl⟩ := Int.eq_ofNat_of_zero_le (a := t) (by omega)
    have h2 := ih (l.drop m) 1 (acc ++ [l.take m]) (by rw [List.length_drop]; omega) (by rw [List.length_drop]; omega) (by omega) (by omega) (by rw [List.length_append, List.length_drop]; simp; omega)
    refine vn d (vp (by omega) (vp (by rw [au]; omega) (vp (by rw [List.length_map]; omega) ?_)))
    rw [← y5] at h2
    simp only [jw, au, Int.toNat_natCast, List.drop_zero, Nat.sub_zero] at h2 ⊢
    rw [List.take_of_length_le (l := l.drop m) (by rw [List.length_drop]; omega)]
    refine vq h2 ?_
    simp
  ·
   refine vn (by rw [au]; omega) ?_
   rw [if_neg c]
   exact vp (by rw [List.length_map]; omega) (vq (vs _) (y5 acc l))
/-! Fields that are valid. -/
def fv (f : Str × Str) : Bool := Gz f.1 && (kW f.2 && (decide (f.2.length ≤ 150) && decide (trim f.2 = f.2)))
def fvs (fs : List (Str × Str)) : Bool := decide (fs.length ≤ 20) && fs.all fv
theorem X_ {f : Str × Str} (h : fv f = true) : f.1.length ≤ 30 ∧ f.2.length ≤ 150 := by
 unfold fv at h
 simp only [Bool.and_eq_true, decide_eq_true_iff] at h
 exact ⟨Wp h.1, h.2.2.1⟩
theorem Md {f : Str × Str} (h : fv f = true) : (Ep f).length ≤ 183 := by
 have := X_ h
 have h2 := aft (WG f).length (WG f) (f.1.length + 3) (by omega)
 have h3 : (WG f).length ≤ f.1.length + 2 + f.2.length := by
  unfold WG
  by_cases c : f.2 = []
  ·
   rw [if_pos c]; simp; omega
  ·
   rw [if_neg c]; simp; omega
 unfold Ep
 omega
theorem UK (l : Str) (hl : l.length ≤ 1000000000) : kH.f (aW l) (⟨#[32]⟩ : ByteArray) = some (aW (trim l)) := by
 unfold kH.f
 rw [if_pos rfl, if_pos (by rw [au]; omega)]
 rfl
theorem Iy (f : Str × Str) (h1 : f.1.length ≤ 1048576) (h2 : f.2.length ≤ 1048576) : Ev (fun k => pJ.f k (aW f.1) (aW f.2)) (fv f) := by
 unfold pJ.f fv
 refine vb (Fz f.1 (by omega)) ?_
 cases Gz f.1 with
 | false => exact vn (by simp) (vs _)
 | true =>
  refine vp rfl (vb (pI f.2 (by omega)) ?_)
  cases kW f.2 with
  | false => exact vn (by simp) (vs _)
  | true =>
   refine vp rfl ?_
   rw [au]
   by_cases c : f.2.length ≤ 150
   ·
    refine vp (by omega) (jA (UK f.2 (by omega)) (vq (vs _) ?_))
    rw [lU, lU, Gm, decide_eq_true c]
    simp
   ·
    refine vn (by omega) (vq (vs _) ?_)
    rw [decide_eq_false c]
    simp
theorem wu (f : Str × Str) (h1 : f.1.length ≤ 1048576) (h2 : f.2.length ≤ 1048576) : Ev (fun k => je.f k (aW f.1) (aW f.2)) (fv f) := by
 unfold je.f fv
 refine vb (FB f.1 (by omega)) ?_
 cases Gz f.1 with
 | false => exact vn (by simp) (vs _)
 | true =>
  refine vp rfl (vb (kU f.2 (by omega)) ?_)
  cases kW f.2 with
  | false => exact vn (by simp) (vs _)
  | true =>
   refine vp rfl ?_
   rw [au]
   by_cases c : f.2.length ≤ 150
   ·
    refine vp (by omega) (vb (oU f.2 (by omega)) (vq (vs _) ?_))
    rw [lU, lU, Gm, decide_eq_true c]
    simp
   ·
    refine vn (by omega) (vq (vs _) ?_)
    rw [decide_eq_false c]
    simp
theorem EC (ls : List (Str × Str)) (hs : small ls) (hn : ls.length ≤ 1048576) (r : List (Str × Str)) : ∀ p, ls = p ++ r → ∃ v : Int, Ev (fun k => bT.l0 k (ls.map sN) (ls.length : Int) (p.length : Int)) v ∧ decide (v ≥ 0) = !(r.all fv) := by
 induction r with
 | nil =>
  intro p h
  have hz : ls.length = p.length := by rw [h, List.append_nil]
  refine ⟨-1, vc ?_, rfl⟩
  simp only [bT.l0]
  exact vn (by omega) (vs _)
 | cons c r ih =>
  intro p h
  have hz := jf h
  have e1 := xB h
  have hc := hs c (by rw [h]; simp)
  have w1 : wrap64 ((p.length : Int) + 1) = (p.length : Int) + 1 := aV (by omega) (by omega)
  obtain ⟨v, hv, hv2⟩ := ih (p ++ [c]) (by rw [h]; simp)
  rw [nR] at hv
  have h1 : Ev (fun k => mV.f k (aW c.1) (aW c.2)) (!fv c) := vb (Iy c hc.1 hc.2) (vs _)
  cases e : fv c with
  | true =>
   rw [e] at h1
   refine ⟨v, vc ?_, by rw [hv2, List.all_cons, e]; rfl⟩
   simp only [bT.l0, e1, w1, List.length_map]
   clear w1
   exact vp (by omega) (vp (by omega) (vp (by omega) (vb h1 (vn (by simp) hv))))
  | false =>
   rw [e] at h1
   refine ⟨p.length, vc ?_, by rw [List.all_cons, e]; simp⟩
   simp only [bT.l0, e1, w1, List.length_map]
   clear w1
   exact vp (by omega) (vp (by omega) (vp (by omega) (vb h1 (vp (by simp) (vs _)))))
theorem GR (ls : List (Str × Str)) (hs : small ls) (hn : ls.length ≤ 1048576) : Ev (fun k => mY.f k (ls.map sN)) (fvs ls) := by
 unfold mY.f jB.f bT.f fvs
 rw [List.length_map]
 by_cases c : ls.length ≤ 20
 ·
  obtain ⟨v, hv, hv2⟩ := EC ls hs hn ls [] rfl
  refine vp (by omega) (vb (vb hv (vs _)) (vq (vs _) ?_))
  rw [hv2, decide_eq_true c]
  simp
 ·
  refine vn (by omega) (vq (vs _) ?_)
  rw [decide_eq_false c]; rfl
theorem KN (ls : List (Str × Str)) (hs : small ls) (hn : ls.length ≤ 1048576) (r : List (Str × Str)) : ∀ p, ls = p ++ r → Ev (fun k => gu.l0 k (ls.map sN) (p.length : Int)) (decide (ls.length ≤ 20) && r.all fv) := by
 have out : ∀ i : Int, Ev (fun k => gu.j1 k (ls.map sN) i false) (decide (ls.length ≤ 20)) := fun i => by
  refine vc ?_
  simp only [gu.j1, List.length_map]
  refine vn (by simp) (vq (vs _) ?_)
  exact decide_eq_decide.mpr (by omega)
 induction r with
 | nil =>
  intro p h
  have hz : ls.length = p.length := by rw [h, List.append_nil]
  refine vc ?_
  simp only [gu.l0, List.length_map]
  refine vn (by omega) (vq (out _) (by simp))
 | cons c r ih =>
  intro p h
  have hz := jf h
  have e1 := xB h
  have hc := hs c (by rw [h]; simp)
  have w1 : wrap64 ((p.length : Int) + 1) = (p.length : Int) + 1 := aV (by omega) (by omega)
  have hv := ih (p ++ [c]) (by rw [h]; simp)
  rw [nR] at hv
  have h1 := wu c hc.1 hc.2
  refine vc ?_
  simp only [gu.l0, List.length_map]
  refine vp (by omega) ?_
  by_cases c2 : p.length ≤ 20
  ·
   rw [show decide ((p.length : Int) ≤ 20) = true from decide_eq_true (by omega)]
   refine vc ?_
   simp only [gu.j1, List.length_map, e1, w1]
   clear w1
   refine vp trivial (vp (by omega) (vp (by omega) (vb h1 ?_)))
   cases e : fv c with
   | true => exact vp rfl (vq hv (by rw [List.all_cons, e, Bool.true_and]))
   | false => exact vn (by simp) (vq (vs _) (by rw [List.all_cons, e]; simp))
  ·
   rw [show decide ((p.length : Int) ≤ 20) = false from decide_eq_false (by omega)]
   exact vq (out _) (by rw [decide_eq_false (by omega)]; rfl)
theorem zu (ls : List (Str × Str)) (hs : small ls) (hn : ls.length ≤ 1048576) : Ev (fun k => gu.f k (ls.map sN)) (fvs ls) := KN ls hs hn ls [] rfl
theorem FQ (ls : List (Str × Str)) (hv : ls.all fv = true) (hn : ls.length ≤ 20) (r : List (Str × Str)) : ∀ (p : List (Str × Str)) (acc : List Str), ls = p ++ r → acc.length ≤ 183 * p.length → Ev (fun k => fG.l0 k (acc.map aW) (ls.map sN) (ls.length : Int) (p.length : Int)) ((acc ++ r.flatMap Ep).map aW, true) := by
 induction r with
 | nil =>
  intro p acc h ha
  have hz : ls.length = p.length := by rw [h, List.append_nil]
  refine vc ?_
  simp only [fG.l0]
  exact vn (by omega) (vq (vs _) (by simp))
 | cons c r ih =>
  intro p acc h ha
  have hz := jf h
  have e1 := xB h
  have hc : fv c = true := List.all_eq_true.mp hv c (by rw [h]; simp)
  have hl := X_ hc
  have hf := Md hc
  have w1 : wrap64 ((p.length : Int) + 1) = (p.length : Int) + 1 := aV (by omega) (by omega)
  have hv := ih (p ++ [c]) (acc ++ Ep c) (by rw [h]; simp) (by simp only [List.length_append, List.length_singleton]; omega)
  rw [nR, List.map_append] at hv
  refine vc ?_
  simp only [fG.l0, List.length_map, e1, w1]
  clear w1
  exact vp (by omega) (vp (by omega) (vp (by omega) (vb (KJ c (by omega) (by omega)) (vp (by simp only [List.length_map]; omega) (vq hv (by simp))))))
def folds (ls : List (Str × Str)) : List Str := ls.flatMap Ep
theorem Me (ls : List (Str × Str)) (h : fvs ls = true) : (folds ls).length ≤ 3660 := by
 unfold fvs at h
 simp only [Bool.and_eq_true, decide_eq_true_iff] at h
 have key : ∀ r : List (Str × Str), r.all fv = true → (r.flatMap Ep).length ≤ 183 * r.length := by
  intro r
  induction r with
  | nil => intro _; simp
  | cons c r ih =>
   intro h
   rw [List.all_cons, Bool.and_eq_true] at h
   have := ih h.2
   have := Md h.1
   rw [List.flatMap_cons, List.length_append, List.length_cons]
   omega
 have := key ls h.2
 unfold folds
 omega
theorem sZ (ls : List (Str × Str)) (hs : small ls) (hn : ls.length ≤ 1048576) : Ev (fun k => fG.f k (ls.map sN)) (if fvs ls = true then ((folds ls).map aW, true) else ([], false)) := by
 unfold fG.f
 refine vb (GR ls hs hn) ?_
 cases e : fvs ls with
 | false => exact vn (by simp) (vs _)
 | true =>
  rw [List.length_map]
  unfold fvs at e
  simp only [Bool.and_eq_true, decide_eq_true_iff] at e
  exact vp rfl (FQ ls e.2 e.1 ls [] [] rfl (by simp))
theorem KO (f : Str × Str) (hf : fv f = true) : Ev (fun k => fU.f k (aW f.1) (aW f.2)) ((Ep f).map aW) := by
 have hl := X_ hf
 have hx := wu f (by omega) (by omega)
 rw [hf] at hx
 obtain ⟨a, b⟩ := f
 simp only at hl
 unfold fU.f Ep WG
 have key : ∀ l : Str, l.length ≤ 3000 → Ev (fun k => fU.j0 k [] (aW l) ((a.length + 2 : Nat) : Int)) ((fl l.length l (a.length + 3)).map aW) := by
  intro l hl
  refine vc ?_
  simp only [fU.j0]
  have := KL l.length l (a.length + 2) [] (Nat.le_refl _) (by omega) (by omega) (by omega) (by simp; omega)
  exact this
 refine vb (vs _) (vb hx (vp rfl ?_))
 have w : wrap64 (((a.length + 1 : Nat) : Int) + 1) = ((a.length + 2 : Nat) : Int) := by rw [aV (by omega) (by omega)]; omega
 simp only [Sl, Sm, jZ, au, lU, List.length_append, List.length_cons, List.length_nil]
 refine vp (by omega) ?_
 by_cases c : b = []
 ·
  subst c
  refine vp rfl ?_
  refine vc ?_
  simp only [fU.j0]
  have := KL (a ++ [58]).length (a ++ [58]) (a.length + 1) [] (Nat.le_refl _) (by simp; omega) (by omega) (by omega) (by simp; omega)
  have e : fl (a ++ [58]).length (a ++ [58]) (a.length + 1 + 1) = fl (a ++ [58]).length (a ++ [58]) (a.length + 3) := by
   have g : ∀ (n i j : Nat), fl n (a ++ [58]) i = fl n (a ++ [58]) j := fun n i j => by
    cases n with
    | zero => rfl
    | succ n => rw [fl, fl, if_neg (by simp; omega), if_neg (by simp; omega)]
   exact g _ _ _
  rw [e] at this
  simpa using this
 ·
  refine vn c (vp (by omega) (vp (by omega) ?_))
  have := key ((a ++ [58]) ++ [32] ++ b) (by simp; omega)
  rw [if_neg c, w]
  simpa [Nat.add_assoc, Nat.add_comm, Nat.add_left_comm] using this
theorem FT (ls : List (Str × Str)) (hv : ls.all fv = true) (hn : ls.length ≤ 20) (r : List (Str × Str)) : ∀ (p : List (Str × Str)) (acc : List Str), ls = p ++ r → acc.length ≤ 183 * p.length → Ev (fun k => iR.l0 k (ls.map sN) (acc.map aW) (p.length : Int)) ((acc ++ r.flatMap Ep).map aW, true) := by
 induction r with
 | nil =>
  intro p acc h ha
  have hz : ls.length = p.length := by rw [h, List.append_nil]
  refine vc ?_
  simp only [iR.l0, List.length_map]
  exact vn (by omega) (vq (vs _) (by simp))
 | cons c r ih =>
  intro p acc h ha
  have hz := jf h
  have e1 := xB h
  have hc : fv c = true := List.all_eq_true.mp hv c (by rw [h]; simp)
  have hf := Md hc
  have w1 : wrap64 ((p.length : Int) + 1) = (p.length : Int) + 1 := aV (by omega) (by omega)
  have hv := ih (p ++ [c]) (acc ++ Ep c) (by rw [h]; simp) (by simp only [List.length_append, List.length_singleton]; omega)
  rw [nR, List.map_append] at hv
  refine vc ?_
  simp only [iR.l0, List.length_map, e1, w1]
  clear w1
  exact vp (by omega) (vp (by omega) (vb (KO c hc) (vp (by simp only [List.length_map]; omega) (vq hv (by simp)))))
theorem Iz (ls : List (Str × Str)) (hs : small ls) (hn : ls.length ≤ 1048576) : Ev (fun k => iR.f k (ls.map sN)) (if fvs ls = true then ((folds ls).map aW, true) else ([], false)) := by
 unfold iR.f
 refine vb (vs _) (vb (zu ls hs hn) ?_)
 cases e : fvs ls with
 | false => exact vn (by simp) (vs _)
 | true =>
  unfold fvs at e
  simp only [Bool.and_eq_true, decide_eq_true_iff] at e
  exact vp rfl (FT ls e.2 e.1 ls [] [] rfl (by simp))
/-! The boundary of a part. -/
def ctype : Str := [67, 111, 110, 116, 101, 110, 116, 45, 84, 121, 112, 101]
def bF (fs : List (Str × Str)) : Str × Bool := match pk (yx fs ctype).1 with
 | none => ([], false)
 | some x => NZ x.1 x.2.1 x.2.2
theorem Sr : (⟨#[67, 111, 110, 116, 101, 110, 116, 45, 84, 121, 112, 101]⟩ : ByteArray) = aW ctype := rfl
theorem UL {fs : List (Str × Str)} (h : (bF fs).2 = true) : Fv (bF fs).1 = true := by
 unfold bF at h ⊢
 cases e : pk (yx fs ctype).1 with
 | none => rw [e] at h; cases h
 | some x =>
  rw [e] at h
  simp only at h ⊢
  unfold NZ at h ⊢
  by_cases c : uS x.1 x.2.1 x.2.2 = true ∧ x.1 = multi ∧ Fv (yx x.2.2 bnd).1 = true
  ·
   rw [if_pos c]; exact c.2.2
  ·
   rw [if_neg c] at h; cases h
theorem anW : pk [] = none := by decide
theorem FU {l : Str} (h : isSmall l = true) : l.length ≤ 30 := by
 unfold isSmall at h
 rw [Bool.and_eq_true] at h
 exact Wp h.1
theorem WH {s : Str} {x : Str × Str × List (Str × Str)} (h : pk s = some x) : x.1.length ≤ 1048576 ∧ x.2.1.length ≤ 1048576 ∧ Aq x.2.2 ≤ 1048576 ∧ x.2.2.length ≤ 1048576 := by
 obtain ⟨a, b, ps⟩ := x
 have hv := afo h
 have h1 := Kz hv
 have h2 := aaT ps [] h1.2.2.2.1
 have key : ∀ q : List (Str × Str), (∀ p ∈ q, isSmall p.1 = true ∧ kW p.2 = true ∧ p.2.length ≤ 40) → Aq q ≤ 70 * q.length := by
  intro q
  induction q with
  | nil => intro _; simp [Aq]
  | cons c q ih =>
   intro h
   have h3 := h c (by simp)
   have h4 := ih fun p hp => h p (by simp [hp])
   have h5 := FU h3.1
   rw [Aq, List.length_cons]
   omega
 have h3 := key ps h2
 have h4 := FU h1.1
 have h5 := FU h1.2.1
 refine ⟨?_, ?_, ?_, ?_⟩ <;> (simp only; omega)
theorem ED (fs : List (Str × Str)) (hs : small fs) (hn : fs.length ≤ 1048576) (bb : List ByteArray) (kk : List nG) : Ev (fun k => kJ.f k (fs.map sN) bb kk) (aW (bF fs).1, (bF fs).2) := by
 unfold kJ.f bF
 rw [Sr]
 refine vb (CZ fs ctype hs (by decide) hn) (vb (Ky _ (DY fs ctype hs)) ?_)
 cases e : pk (yx fs ctype).1 with
 | none => exact vn (by simp [N7]) (vs _)
 | some x =>
  have hx := WH e
  exact vp rfl (vb (Ip x.1 x.2.1 x.2.2 hx.1 hx.2.1 hx.2.2.1 hx.2.2.2) (vs _))
theorem AU (fs : List (Str × Str)) (hs : small fs) (hn : fs.length ≤ 1048576) : Ev (fun k => jV.f k (fs.map sN)) (aW (bF fs).1, (bF fs).2) := by
 unfold jV.f
 rw [Sr]
 refine vb (C9 fs ctype hs (by decide) hn) (vb (KD _ (DY fs ctype hs)) ?_)
 unfold bF
 cases e : pk (yx fs ctype).1 with
 | none =>
  refine vb (AB [] [] [] (by simp) (by simp) (by simp [Aq]) (by simp)) ?_
  cases (yx fs ctype).2 with
  | true => exact vp rfl (vn (by simp [N7]) (vs _))
  | false => exact vn (by simp) (vs _)
 | some x =>
  have hx := WH e
  refine vb (AB x.1 x.2.1 x.2.2 hx.1 hx.2.1 hx.2.2.1 hx.2.2.2) ?_
  cases g : (yx fs ctype).2 with
  | true => exact vp rfl (vp rfl (vs _))
  | false => rw [RS fs ctype g, anW] at e; cases e
/-! The lines of a part. -/
def kl (g : Pt → Option (List Str)) : List Pt → Option (List (List Str))
 | [] => some []
 | p :: r => match g p with
  | none => none
  | some a => (kl g r).map (a :: ·)
def tbs (b : List Str) : Bool := decide (b.length ≤ 30) && b.all kW
def head (f : List (Str × Str)) : List Str := folds f ++ [[]]
def lines : Nat → Pt → Option (List Str)
 | 0, _ => none
 | d + 1, .mk f b k => if fvs f = true then (if (bF f).2 = true then (if b = [] ∧ 1 ≤ k.length ∧ k.length ≤ 4 then (match kl (lines d) k with
   | none => none
   | some ls => (jR (bF f).1 ls).map (head f ++ ·)) else none) else (if k = [] ∧ tbs b = true then some (head f ++ b) else none)) else none
theorem Ya {g : Pt → Option (List Str)} {N : Nat} : ∀ {k : List Pt} {ls : List (List Str)}, kl g k = some ls → (∀ p ∈ k, ∀ a, g p = some a → a.length ≤ N) → ls.length = k.length ∧ tl ls ≤ (N + 1) * k.length
 | [], ls, h, _ => by
  rw [kl] at h
  cases h
  simp [tl]
 | p :: r, ls, h, hN => by
  rw [kl] at h
  cases e : g p with
  | none => rw [e] at h; cases h
  | some a =>
   rw [e] at h
   cases e2 : kl g r with
   | none => rw [e2] at h; cases h
   | some l =>
    rw [e2] at h
    cases h
    have h1 := Ya e2 fun q hq => hN q (by simp [hq])
    have h2 := hN p (by simp) a e
    rw [List.length_cons, List.length_cons, tl, Nat.mul_succ]
    omega
def lN : Nat → Nat
 | 0 => 4000
 | d + 1 => 4 * lN d + 4000
theorem aaY {d : Nat} (h : d ≤ 3) : lN d ≤ 500000 := by
 rcases d with _ | _ | _ | _ | d
 ·
  decide
 ·
  decide
 ·
  decide
 ·
  decide
 ·
  omega
theorem Yb {b : Str} {ps : List (List Str)} {s : List Str} (h : jR b ps = some s) : s.length = tl ps + 1 := by
 unfold jR at h
 split at h
 ·
  cases h
  rw [List.length_append, Qo]
  rfl
 ·
  cases h
theorem Qp {f : List (Str × Str)} (h : fvs f = true) : (head f).length ≤ 3661 := by
 have := Me f h
 unfold head
 rw [List.length_append, List.length_singleton]
 omega
theorem zY : ∀ (d : Nat) (p : Pt) (ls : List Str), lines d p = some ls → ls.length ≤ lN d
 | 0, p, ls, h => by rw [lines] at h; cases h
 | d + 1, .mk f b k, ls, h => by
  rw [lines] at h
  by_cases c : fvs f = true
  ·
   rw [if_pos c] at h
   have h1 := Qp c
   by_cases c1 : (bF f).2 = true
   ·
    rw [if_pos c1] at h
    by_cases c2 : b = [] ∧ 1 ≤ k.length ∧ k.length ≤ 4
    ·
     rw [if_pos c2] at h
     cases e : kl (lines d) k with
     | none => rw [e] at h; cases h
     | some l =>
      rw [e] at h
      simp only at h
      have h2 := Ya e (N := lN d) fun p _ a h => zY d p a h
      cases e2 : jR (bF f).1 l with
      | none => rw [e2] at h; cases h
      | some s =>
       rw [e2] at h
       cases h
       have h3 := Yb e2
       have h4 : (lN d + 1) * k.length ≤ (lN d + 1) * 4 := Nat.mul_le_mul_left _ c2.2.2
       rw [List.length_append, lN]
       omega
    ·
     rw [if_neg c2] at h; cases h
   ·
    rw [if_neg c1] at h
    by_cases c2 : k = [] ∧ tbs b = true
    ·
     rw [if_pos c2] at h
     cases h
     have h2 := c2.2
     unfold tbs at h2
     simp only [Bool.and_eq_true, decide_eq_true_iff] at h2
     rw [List.length_append, lN]
     omega
    ·
     rw [if_neg c2] at h; cases h
  ·
   rw [if_neg c] at h; cases h
theorem IB (ls : List Str) (hs : ∀ x ∈ ls, x.length ≤ 1048576) (hn : ls.length ≤ 1048576) (r : List Str) : ∀ p, ls = p ++ r → ∃ v : Int, Ev (fun k => aT.l0 k (ls.map aW) (ls.length : Int) (p.length : Int)) v ∧ decide (v ≥ 0) = !(r.all kW) := by
 induction r with
 | nil =>
  intro p h
  have hz : ls.length = p.length := by rw [h, List.append_nil]
  refine ⟨-1, vc ?_, rfl⟩
  simp only [aT.l0]
  exact vn (by omega) (vs _)
 | cons c r ih =>
  intro p h
  have hz := jf h
  have e1 := uT h
  have hc := hs c (by rw [h]; simp)
  have w1 : wrap64 ((p.length : Int) + 1) = (p.length : Int) + 1 := aV (by omega) (by omega)
  obtain ⟨v, hv, hv2⟩ := ih (p ++ [c]) (by rw [h]; simp)
  rw [nR] at hv
  have h1 : Ev (fun k => pO.f k (aW c)) (!kW c) := vb (pI c (by omega)) (vs _)
  cases e : kW c with
  | true =>
   rw [e] at h1
   refine ⟨v, vc ?_, by rw [hv2, List.all_cons, e]; rfl⟩
   simp only [aT.l0, e1, w1, List.length_map]
   clear w1
   exact vp (by omega) (vp (by omega) (vp (by omega) (vb h1 (vn (by simp) hv))))
  | false =>
   rw [e] at h1
   refine ⟨p.length, vc ?_, by rw [List.all_cons, e]; simp⟩
   simp only [aT.l0, e1, w1, List.length_map]
   clear w1
   exact vp (by omega) (vp (by omega) (vp (by omega) (vb h1 (vp (by simp) (vs _)))))
theorem MB (ls : List Str) (hs : ∀ x ∈ ls, x.length ≤ 1048576) (hn : ls.length ≤ 1048576) : Ev (fun k => qo.f k (ls.map aW) 30) (tbs ls) := by
 unfold qo.f fK.f aT.f tbs
 rw [List.length_map]
 by_cases c : ls.length ≤ 30
 ·
  obtain ⟨v, hv, hv2⟩ := IB ls hs hn ls [] rfl
  refine vp (by omega) (vb (vb hv (vs _)) (vq (vs _) ?_))
  rw [hv2, decide_eq_true c]
  simp
 ·
  refine vn (by omega) (vq (vs _) ?_)
  rw [decide_eq_false c]; rfl
def lr (o : Option (List Str)) (v : List ByteArray × Bool) : Prop := match o with
 | some ls => v = (ls.map aW, true)
 | none => v.2 = false
theorem zZ {f : List (Str × Str)} {b : List Str} {k : List Pt} (h : QF (.mk f b k) ≤ 1048576) : small f ∧ f.length ≤ 1048576 ∧ (∀ x ∈ b, x.length ≤ 1048576) ∧ b.length ≤ 1048576 ∧ k.length ≤ 1048576 ∧ ∀ p ∈ k, QF p ≤ 1048576 := by
 rw [QF] at h
 exact ⟨CY (by omega), by omega, fun x hx => by have := Uz hx; omega, by omega, by omega, fun p hp => by have := P8 hp; omega⟩
theorem WI (f : List (Str × Str)) : (folds f).map aW ++ [(⟨#[]⟩ : ByteArray)] = (head f).map aW := by
 unfold head
 rw [List.map_append]
 rfl
theorem WJ (acc : List (List Str)) (l : List Str) : acc.map (List.map aW) ++ [l.map aW] = (acc ++ [l]).map (List.map aW) := by rw [List.map_append]; rfl
theorem Ob : ∀ (d : Nat) (p : Pt), d ≤ 3 → QF p ≤ 1048576 → ∃ v, Ev (fun k => aG.f k (e32 p).f0 (e32 p).f1 (e32 p).f2 (d : Int)) v ∧ lr (lines d p) v := by
 have bad : ∀ (d : Int) (X : List ByteArray) (F : List gX) (B : List ByteArray) (K : List nG), Ev (fun k => aG.j0 k d X true F B K) ([], false) := fun d X F B K => by
  refine vc ?_
  simp only [aG.j0]
  exact vp trivial (vs _)
 intro d
 induction d with
 | zero =>
  intro p hd hp
  obtain ⟨f, b, k⟩ := p
  obtain ⟨hf, hfn, -⟩ := zZ hp
  simp only [yt]
  refine ⟨([], false), vc ?_, rfl⟩
  simp only [aG.f]
  refine vb (sZ f hf hfn) ?_
  by_cases c : fvs f = true
  ·
   rw [if_pos c]
   exact vp rfl (bad _ _ _ _ _)
  ·
   rw [if_neg c]
   exact vn (by simp) (bad _ _ _ _ _)
 | succ d ih =>
  intro p hd hp
  obtain ⟨f, b, k⟩ := p
  obtain ⟨hf, hfn, hb, hbn, hkn, hk⟩ := zZ hp
  simp only [yt]
  rw [lines]
  by_cases c : fvs f = true
  case neg =>
   rw [if_neg c]
   refine ⟨([], false), vc ?_, rfl⟩
   simp only [aG.f]
   refine vb (sZ f hf hfn) ?_
   rw [if_neg c]
   exact vn (by simp) (bad _ _ _ _ _)
  rw [if_pos c]
  have hh := Qp c
  have hfo := Me f c
  have go : ∀ v, Ev (fun n => if (bF f).2 = true then (if (b.length : Int) > 0 then aG.j1 n ((d + 1 : Nat) : Int) ((head f).map aW) (aW (bF f).1) true (f.map sN) (b.map aW) (k.map e32) else (if (k.length : Int) < 1 then aG.j1 n ((d + 1 : Nat) : Int) ((head f).map aW) (aW (bF f).1) true (f.map sN) (b.map aW) (k.map e32) else aG.j1 n ((d + 1 : Nat) : Int) ((head f).map aW) (aW (bF f).1) (decide ((k.length : Int) > 4)) (f.map sN) (b.map aW) (k.map e32))) else (if ((head f).map aW).length + (b.map aW).length < 8796093022208 then (some ((head f).map aW ++ b.map aW : List ByteArray)).bind fun y => (if (k.length : Int) = 0 then ((qo.f n (b.map aW) 30).bind fun t => some (y, t)) else some (y, false)) else none)) v → Ev (fun n => aG.f n (f.map sN) (b.map aW) (k.map e32) ((d + 1 : Nat) : Int)) v := by
   intro v hv
   refine vc ?_
   simp only [aG.f]
   refine vb (sZ f hf hfn) ?_
   rw [if_pos c]
   refine vp rfl ?_
   rw [show (((d + 1 : Nat) : Int) == 0) = false by simp; omega]
   refine vc ?_
   simp only [aG.j0]
   refine vn (by simp) (vp (by rw [List.length_map]; omega) (vb (vs _) (vb (ED f hf hfn _ _) ?_)))
   rw [WI]
   simp only [List.length_map] at hv ⊢
   exact hv
  have Yc : ∀ (X : List ByteArray) (B : ByteArray), Ev (fun n => aG.j1 n ((d + 1 : Nat) : Int) X B true (f.map sN) (b.map aW) (k.map e32)) ([], false) := fun X B => by
   refine vc ?_
   simp only [aG.j1]
   exact vp trivial (vs _)
  by_cases c1 : (bF f).2 = true
  ·
   rw [if_pos c1]
   by_cases c2 : b = [] ∧ 1 ≤ k.length ∧ k.length ≤ 4
   ·
    rw [if_pos c2]
    obtain ⟨rfl, hk1, hk4⟩ := c2
    have hbd := P_ (UL c1)
    have hN := aaY (d := d) (by omega)
    have key : ∀ (r p : List Pt) (acc : List (List Str)), k = p ++ r → acc.length = p.length → tl acc ≤ (lN d + 1) * p.length → ∃ v, Ev (fun n => aG.l0 n ((d + 1 : Nat) : Int) ((head f).map aW) (aW (bF f).1) (acc.map (List.map aW)) (k.map e32) (k.length : Int) (p.length : Int)) v ∧ lr (match kl (lines d) r with
      | none => none
      | some ls => (jR (bF f).1 (acc ++ ls)).map (head f ++ ·)) v := by
     intro r
     induction r with
     | nil =>
      intro p acc h ha ht
      have hz : k.length = p.length := by rw [h, List.append_nil]
      have ht2 : (lN d + 1) * p.length ≤ (lN d + 1) * 4 := Nat.mul_le_mul_left _ (by omega)
      have hj := KF acc (bF f).1 (by omega) (by omega)
      rw [kl]
      simp only [List.append_nil]
      cases e : jR (bF f).1 acc with
      | none =>
       rw [e] at hj
       refine ⟨((head f).map aW ++ [], false), vc ?_, rfl⟩
       simp only [aG.l0]
       exact vn (by omega) (vb hj (vp (by rw [List.length_map]; simp only [L_, List.length_nil]; omega) (vs _)))
      | some s =>
       rw [e] at hj
       have hs := Yb e
       refine ⟨((head f).map aW ++ s.map aW, true), vc ?_, by simp [lr]⟩
       simp only [aG.l0]
       exact vn (by omega) (vb hj (vp (by rw [List.length_map]; simp only [L_, List.length_map]; omega) (vs _)))
     | cons q r ihr =>
      intro p acc h ha ht
      have hz := jf h
      have e1 := Fp h
      have w1 : wrap64 ((p.length : Int) + 1) = (p.length : Int) + 1 := aV (by omega) (by omega)
      have w2 : wrap64 (((d + 1 : Nat) : Int) - 1) = (d : Int) := by rw [aV (by omega) (by omega)]; omega
      obtain ⟨u, hu, hr⟩ := ih q (by omega) (hk q (by rw [h]; simp))
      rw [kl]
      cases e : lines d q with
      | none =>
       rw [e] at hr
       refine ⟨([], false), vc ?_, rfl⟩
       simp only [aG.l0, List.length_map, e1, w1, w2]
       clear w1 w2
       exact vp (by omega) (vp (by omega) (vp (by omega) (vb hu (vn (by rw [show u.2 = false from hr]; simp) (vs _)))))
      | some a =>
       rw [e] at hr
       have hr : u = (a.map aW, true) := hr
       subst hr
       have hla := zY d q a e
       obtain ⟨v, hv, hv2⟩ := ihr (p ++ [q]) (acc ++ [a]) (by rw [h]; simp) (by simp [ha]) (by rw [CW, List.length_append, List.length_singleton, Nat.mul_add]; simp only [tl]; omega)
       rw [nR, ← WJ] at hv
       refine ⟨v, vc ?_, ?_⟩
       ·
        simp only [aG.l0, List.length_map, e1, w1, w2]
        clear w1 w2
        exact vp (by omega) (vp (by omega) (vp (by omega) (vb hu (vp rfl (vp (by omega) hv)))))
       ·
        simp only
        cases e2 : kl (lines d) r with
        | none => rw [e2] at hv2; exact hv2
        | some l =>
         rw [e2] at hv2
         simpa using hv2
    obtain ⟨v, hv, hv2⟩ := key k [] [] rfl rfl (by simp [tl])
    refine ⟨v, go v (vp c1 (vn (by simp) (vn (by omega) ?_))), hv2⟩
    rw [show decide ((k.length : Int) > 4) = false from decide_eq_false (by omega)]
    refine vc ?_
    simp only [aG.j1, List.length_map]
    exact vn (by simp) hv
   ·
    rw [if_neg c2]
    refine ⟨([], false), go _ (vp c1 ?_), rfl⟩
    by_cases c3 : (b.length : Int) > 0
    ·
     exact vp c3 (Yc _ _)
    ·
     refine vn c3 ?_
     have hb0 : b = [] := List.length_eq_zero_iff.mp (by omega)
     by_cases c4 : (k.length : Int) < 1
     ·
      exact vp c4 (Yc _ _)
     ·
      refine vn c4 ?_
      rw [show decide ((k.length : Int) > 4) = true from decide_eq_true (by
       apply Classical.byContradiction
       intro h
       exact c2 ⟨hb0, by omega, by omega⟩)]
      exact Yc _ _
  ·
   rw [if_neg c1]
   have hlen : ((head f).map aW).length + (b.map aW).length < 8796093022208 := by simp only [List.length_map]; omega
   by_cases c3 : k = []
   ·
    subst c3
    refine ⟨((head f).map aW ++ b.map aW, tbs b), go _ (vn c1 (vp hlen (vb (vs _) (vp rfl (vb (MB b hb hbn) (vs _)))))), ?_⟩
    cases e : tbs b with
    | true => simp [lr]
    | false => simp [lr]
   ·
    have hk0 : ¬ (k.length : Int) = 0 := fun h => c3 (List.length_eq_zero_iff.mp (by omega))
    refine ⟨((head f).map aW ++ b.map aW, false), go _ (vn c1 (vp hlen (vb (vs _) (vn hk0 (vs _))))), ?_⟩
    rw [if_neg (fun h => c3 h.1)]
    rfl
/-! The reference's lines of a part, and whether it is valid. -/
theorem Dh : ∀ (d : Nat) (p : Pt) (ls : List Str), d ≤ 3 → QF p ≤ 1048576 → lines d p = some ls → Ev (fun k => iT.f k (e32 p).f0 (e32 p).f1 (e32 p).f2) (ls.map aW) := by
 intro d
 induction d with
 | zero => intro p ls hd hp h; rw [lines] at h; cases h
 | succ d ih =>
  intro p ls hd hp h
  obtain ⟨f, b, k⟩ := p
  obtain ⟨hf, hfn, hb, hbn, hkn, hk⟩ := zZ hp
  simp only [yt]
  rw [lines] at h
  by_cases c : fvs f = true
  case neg => rw [if_neg c] at h; cases h
  rw [if_pos c] at h
  have hh := Qp c
  have hfo := Me f c
  refine vc ?_
  simp only [iT.f]
  refine vb (Iz f hf hfn) ?_
  rw [if_pos c]
  refine vp (by rw [List.length_map]; omega) (vb (vs _) (vb (AU f hf hfn) ?_))
  simp only [WI]
  by_cases c1 : (bF f).2 = true
  ·
   rw [if_pos c1] at h
   by_cases c2 : b = [] ∧ 1 ≤ k.length ∧ k.length ≤ 4
   case neg => rw [if_neg c2] at h; cases h
   rw [if_pos c2] at h
   obtain ⟨rfl, hk1, hk4⟩ := c2
   have hbd := P_ (UL c1)
   have hN := aaY (d := d) (by omega)
   cases e : kl (lines d) k with
   | none => rw [e] at h; cases h
   | some l =>
   rw [e] at h
   simp only at h
   cases e2 : jR (bF f).1 l with
   | none => rw [e2] at h; cases h
   | some s =>
   rw [e2] at h
   cases h
   have key : ∀ (r p : List Pt) (acc m : List (List Str)), k = p ++ r → acc.length = p.length → tl acc ≤ (lN d + 1) * p.length → kl (lines d) r = some m → l = acc ++ m → Ev (fun n => iT.l0 n ((head f).map aW) (aW (bF f).1) (acc.map (List.map aW)) (p.length : Int) (f.map sN) (([] : List Str).map aW) (k.map e32)) ((head f ++ s).map aW) := by
    intro r
    induction r with
    | nil =>
     intro p acc m h ha ht hm hl
     have hz : k.length = p.length := by rw [h, List.append_nil]
     have ht2 : (lN d + 1) * p.length ≤ (lN d + 1) * 4 := Nat.mul_le_mul_left _ (by omega)
     rw [kl] at hm
     cases hm
     rw [List.append_nil] at hl
     subst hl
     have hj := KI l (bF f).1 (by omega) (by omega)
     rw [e2] at hj
     have hs := Yb e2
     refine vc ?_
     simp only [iT.l0, List.length_map]
     exact vn (by omega) (vb hj (vp (by simp only [L_, List.length_map]; omega) (vq (vs _) (by simp [L_]))))
    | cons q r ihr =>
     intro p acc m h ha ht hm hl
     have hz := jf h
     have e1 := Fp h
     have w1 : wrap64 ((p.length : Int) + 1) = (p.length : Int) + 1 := aV (by omega) (by omega)
     rw [kl] at hm
     cases e3 : lines d q with
     | none => rw [e3] at hm; cases hm
     | some a =>
     rw [e3] at hm
     cases e4 : kl (lines d) r with
     | none => rw [e4] at hm; cases hm
     | some m2 =>
     rw [e4] at hm
     cases hm
     have hu := ih q a (by omega) (hk q (by rw [h]; simp)) e3
     have hla := zY d q a e3
     have hv := ihr (p ++ [q]) (acc ++ [a]) m2 (by rw [h]; simp) (by simp [ha]) (by rw [CW, List.length_append, List.length_singleton, Nat.mul_add]; simp only [tl]; omega) e4 (by rw [hl]; simp)
     rw [nR, ← WJ] at hv
     refine vc ?_
     simp only [iT.l0, List.length_map, e1, w1]
     clear w1
     exact vp (by omega) (vp (by omega) (vb hu (vp (by omega) hv)))
   exact vp c1 (key k [] [] l rfl rfl (by simp [tl]) e rfl)
  ·
   rw [if_neg c1] at h
   by_cases c2 : k = [] ∧ tbs b = true
   case neg => rw [if_neg c2] at h; cases h
   rw [if_pos c2] at h
   cases h
   refine vn c1 (vp (by simp only [List.length_map]; omega) (vq (vs _) ?_))
   rw [List.map_append]
theorem MC (ls : List Str) (hs : ∀ x ∈ ls, x.length ≤ 1048576) (hn : ls.length ≤ 1048576) (r : List Str) : ∀ p, ls = p ++ r → Ev (fun k => iH.l0 k (ls.map aW) (p.length : Int)) (decide (ls.length ≤ 30) && r.all kW) := by
 have out : ∀ i : Int, Ev (fun k => iH.j1 k (ls.map aW) i false) (decide (ls.length ≤ 30)) := fun i => by
  refine vc ?_
  simp only [iH.j1, List.length_map]
  refine vn (by simp) (vq (vs _) ?_)
  exact decide_eq_decide.mpr (by omega)
 induction r with
 | nil =>
  intro p h
  have hz : ls.length = p.length := by rw [h, List.append_nil]
  refine vc ?_
  simp only [iH.l0, List.length_map]
  refine vn (by omega) (vq (out _) (by simp))
 | cons c r ih =>
  intro p h
  have hz := jf h
  have e1 := uT h
  have hc := hs c (by rw [h]; simp)
  have w1 : wrap64 ((p.length : Int) + 1) = (p.length : Int) + 1 := aV (by omega) (by omega)
  have hv := ih (p ++ [c]) (by rw [h]; simp)
  rw [nR] at hv
  have h1 := kU c (by omega)
  refine vc ?_
  simp only [iH.l0, List.length_map]
  refine vp (by omega) ?_
  by_cases c2 : p.length ≤ 30
  ·
   rw [show decide ((p.length : Int) ≤ 30) = true from decide_eq_true (by omega)]
   refine vc ?_
   simp only [iH.j1, List.length_map, e1, w1]
   clear w1
   refine vp trivial (vp (by omega) (vp (by omega) (vb h1 ?_)))
   cases e : kW c with
   | true => exact vp rfl (vq hv (by rw [List.all_cons, e, Bool.true_and]))
   | false => exact vn (by simp) (vq (vs _) (by rw [List.all_cons, e]; simp))
  ·
   rw [show decide ((p.length : Int) ≤ 30) = false from decide_eq_false (by omega)]
   exact vq (out _) (by rw [decide_eq_false (by omega)]; rfl)
theorem FV (ls : List Str) (hs : ∀ x ∈ ls, x.length ≤ 1048576) (hn : ls.length ≤ 1048576) : Ev (fun k => iH.f k (ls.map aW)) (tbs ls) := MC ls hs hn ls [] rfl
theorem Yd (b : Str) (hb : b.length ≤ 100) (d x7 : Int) (F : List gX) (B : List ByteArray) (K : List nG) (ls : List Str) (hn : ls.length ≤ 1048576) (V : Bool) (h1 : dv ls b = true → V = false) (h2 : dv ls b = false → Ev (fun n => bD.l0 n d (aW b) (wrap64 (x7 + 1)) F B K) V) : Ev (fun n => bD.l1 n d (aW b) x7 (ls.map aW) 0 F B K) V := by
 rw [ak1] at h1 h2
 have key : ∀ (r p : List Str), ls = p ++ r → (r.any (fun l => lk l b) = true → V = false) → (r.any (fun l => lk l b) = false → Ev (fun n => bD.l0 n d (aW b) (wrap64 (x7 + 1)) F B K) V) → Ev (fun n => bD.l1 n d (aW b) x7 (ls.map aW) (p.length : Int) F B K) V := by
  intro r
  induction r with
  | nil =>
   intro p h g1 g2
   have hz : ls.length = p.length := by rw [h, List.append_nil]
   refine vc ?_
   simp only [bD.l1, List.length_map]
   exact vn (by omega) (g2 rfl)
  | cons c r ih =>
   intro p h g1 g2
   have hz := jf h
   have e1 := uT h
   have w1 : wrap64 ((p.length : Int) + 1) = (p.length : Int) + 1 := aV (by omega) (by omega)
   refine vc ?_
   simp only [bD.l1, List.length_map, e1, w1]
   clear w1
   refine vp (by omega) (vp (by omega) (jA (Eo c b (by omega)) ?_))
   cases e : lk c b with
   | true =>
    refine vp rfl (vq (vs _) (g1 ?_).symm)
    rw [List.any_cons, e]; rfl
   | false =>
    have := ih (p ++ [c]) (by rw [h]; simp) (fun g => g1 (by rw [List.any_cons, e]; exact g)) (fun g => g2 (by rw [List.any_cons, e]; exact g))
    rw [nR] at this
    exact vn (by simp) this
 exact key ls [] rfl h1 h2
theorem Oc : ∀ (d : Nat) (p : Pt), d ≤ 3 → QF p ≤ 1048576 → Ev (fun k => bD.f k (e32 p).f0 (e32 p).f1 (e32 p).f2 (d : Int)) (lines d p).isSome := by
 have bad : ∀ (d : Int) (F : List gX) (B : List ByteArray) (K : List nG), Ev (fun k => bD.j0 k d true F B K) false := fun d F B K => by
  refine vc ?_
  simp only [bD.j0]
  exact vp trivial (vs _)
 intro d
 induction d with
 | zero =>
  intro p hd hp
  obtain ⟨f, b, k⟩ := p
  obtain ⟨hf, hfn, -⟩ := zZ hp
  simp only [yt]
  refine vc ?_
  simp only [bD.f]
  refine vb (zu f hf hfn) ?_
  by_cases c : fvs f = true
  ·
   exact vp c (bad _ _ _ _)
  ·
   exact vn c (bad _ _ _ _)
 | succ d ih =>
  intro p hd hp
  obtain ⟨f, b, k⟩ := p
  obtain ⟨hf, hfn, hb, hbn, hkn, hk⟩ := zZ hp
  simp only [yt]
  rw [lines]
  refine vc ?_
  simp only [bD.f]
  refine vb (zu f hf hfn) ?_
  by_cases c : fvs f = true
  case neg =>
   rw [if_neg c]
   exact vn c (bad _ _ _ _)
  rw [if_pos c]
  refine vp c ?_
  rw [show decide (((d + 1 : Nat) : Int) < 1) = false from decide_eq_false (by omega)]
  refine vc ?_
  simp only [bD.j0, List.length_map]
  refine vn (by simp) (vb (AU f hf hfn) ?_)
  have Yc : ∀ (B : ByteArray), Ev (fun n => bD.j1 n ((d + 1 : Nat) : Int) B true (f.map sN) (b.map aW) (k.map e32)) false := fun B => by
   refine vc ?_
   simp only [bD.j1]
   exact vp trivial (vs _)
  by_cases c1 : (bF f).2 = true
  ·
   rw [if_pos c1]
   refine vp c1 ?_
   by_cases c2 : b = [] ∧ 1 ≤ k.length ∧ k.length ≤ 4
   ·
    rw [if_pos c2]
    obtain ⟨rfl, hk1, hk4⟩ := c2
    have hbs := UL c1
    have hbd := P_ hbs
    have hN := aaY (d := d) (by omega)
    have key : ∀ (r p : List Pt), k = p ++ r → Ev (fun n => bD.l0 n ((d + 1 : Nat) : Int) (aW (bF f).1) (p.length : Int) (f.map sN) (([] : List Str).map aW) (k.map e32)) (match kl (lines d) r with
      | none => false
      | some ls => !ls.any (fun c => dv c (bF f).1)) := by
     intro r
     induction r with
     | nil =>
      intro p h
      have hz : k.length = p.length := by rw [h, List.append_nil]
      refine vc ?_
      simp only [bD.l0, List.length_map]
      exact vn (by omega) (vs _)
     | cons q r ihr =>
      intro p h
      have hz := jf h
      have e1 := Fp h
      have w1 : wrap64 ((p.length : Int) + 1) = (p.length : Int) + 1 := aV (by omega) (by omega)
      have w2 : wrap64 (((d + 1 : Nat) : Int) - 1) = (d : Int) := by rw [aV (by omega) (by omega)]; omega
      have hu := ih q (by omega) (hk q (by rw [h]; simp))
      have hv := ihr (p ++ [q]) (by rw [h]; simp)
      rw [nR, ← w1] at hv
      refine vc ?_
      simp only [bD.l0, List.length_map, e1, w2]
      clear w1 w2
      refine vp (by omega) (vp (by omega) (vb hu ?_))
      rw [kl]
      cases e : lines d q with
      | none => exact vn (by simp) (vs _)
      | some a =>
       have hg := Dh d q a (by omega) (hk q (by rw [h]; simp)) e
       have hla := zY d q a e
       refine vp rfl (vb hg (Yd _ (by omega) _ _ _ _ _ a (by omega) _ (fun g => ?_) (fun g => vq hv ?_)))
       ·
        cases kl (lines d) r with
        | none => rfl
        | some m => simp [g]
       ·
        cases kl (lines d) r with
        | none => rfl
        | some m => simp [g]
    refine vn (by simp) (vn (by omega) ?_)
    rw [show decide ((k.length : Int) > 4) = false from decide_eq_false (by omega)]
    refine vc ?_
    simp only [bD.j1]
    refine vn (by simp) (vq (key k [] rfl) ?_)
    cases e : kl (lines d) k with
    | none => rfl
    | some ls =>
     have hl := (Ya e (N := lN d) fun p _ a h => zY d p a h).1
     have h0 : ls ≠ [] := fun h => by rw [h] at hl; simp at hl; omega
     show (!ls.any (fun c => dv c (bF f).1)) = ((jR (bF f).1 ls).map (head f ++ ·)).isSome
     unfold jR
     cases ls.any (fun c => dv c (bF f).1) with
     | true => rw [if_neg (fun h => by have := h.2.2; cases this)]; rfl
     | false => rw [if_pos ⟨hbs, h0, rfl⟩]; rfl
   ·
    rw [if_neg c2]
    by_cases c3 : (b.length : Int) > 0
    ·
     exact vp c3 (Yc _)
    ·
     refine vn c3 ?_
     have hb0 : b = [] := List.length_eq_zero_iff.mp (by omega)
     by_cases c4 : (k.length : Int) < 1
     ·
      exact vp c4 (Yc _)
     ·
      refine vn c4 ?_
      rw [show decide ((k.length : Int) > 4) = true from decide_eq_true (by
       apply Classical.byContradiction
       intro h
       exact c2 ⟨hb0, by omega, by omega⟩)]
      exact Yc _
  ·
   rw [if_neg c1]
   refine vn c1 ?_
   by_cases c3 : k = []
   ·
    subst c3
    refine vp rfl (vb (FV b hb hbn) (vq (vs _) ?_))
    cases e : tbs b with
    | true => simp
    | false => simp
   ·
    have hk0 : ¬ (k.length : Int) = 0 := fun h => c3 (List.length_eq_zero_iff.mp (by omega))
    refine vn hk0 ?_
    rw [if_neg (fun h => c3 h.1)]
    exact vs _
theorem KP (p : Pt) (hp : QF p ≤ 1048576) : Ev (fun k => oP.f k (e32 p).f0 (e32 p).f1 (e32 p).f2) (lines 3 p).isSome := by
 unfold oP.f
 exact vb (Oc 3 p (by omega) hp) (vs _)
/-! Coded words: the model. -/
def hx (n : UInt8) : UInt8 := if n < 10 then 48 + n else 55 + n
def cdB (c : UInt8) : Str := if c = 32 then [95] else if (Bg c || decide (c = 45) || decide (c = 46)) = true then [c] else [61, hx (c / 16), hx (c % 16)]
def cd : Str → Str
 | [] => []
 | c :: r => cdB c ++ cd r
def cb : Str := [61, 63, 117, 116, 102, 45, 56, 63, 113, 63]
def ce : Str := [63, 61]
def cw (b : Str) : Str := cb ++ cd b ++ ce
def cwO (b : Str) : Option Str := if b = [] ∨ b.length > 40 ∨ (cw b).length > 40 then none else some (cw b)
theorem abV (a b : Str) : cd (a ++ b) = cd a ++ cd b := by
 induction a with
 | nil => rfl
 | cons c a ih => simp only [List.cons_append, cd, ih, List.append_assoc]
theorem aaZ (c : UInt8) : 1 ≤ (cdB c).length ∧ (cdB c).length ≤ 3 := by
 unfold cdB
 split
 ·
  exact ⟨by simp, by simp⟩
 ·
  split <;> exact ⟨by simp, by simp⟩
theorem afu (b : Str) : b.length ≤ (cd b).length ∧ (cd b).length ≤ 3 * b.length := by
 induction b with
 | nil => exact ⟨Nat.le_refl _, Nat.le_refl _⟩
 | cons c r ih => have := aaZ c; simp only [cd, List.length_append, List.length_cons]; omega
theorem anX (b : Str) : (cw b).length = (cd b).length + 12 := by
 unfold cw cb ce; simp
/-- Hexadecimal digits. -/
def vl (c : UInt8) : Int := if 48 ≤ c ∧ c ≤ 57 then ((c - 48).toNat : Int) else if 65 ≤ c ∧ c ≤ 70 then ((c - 55).toNat : Int) else -1
theorem afv {b s : Str} (h : cwO b = some s) : s = cw b ∧ b ≠ [] ∧ b.length ≤ 40 ∧ s.length ≤ 40 := by
 unfold cwO at h
 split at h
 ·
  cases h
 ·
  rename_i hn
  cases h
  refine ⟨rfl, fun e => hn (Or.inl e), ?_, ?_⟩ <;> omega
open Classical in
noncomputable def rcw (s : Str) : Option Str := if h : ∃ b, cwO b = some s then some (Classical.choose h) else none
def afw : Option Str → ByteArray × Bool
 | none => (aW [], false)
 | some s => (aW s, true)
/-! Parts at spaces. -/
def spl : Str → List Str
 | [] => [[]]
 | c :: r => if c = 32 then [] :: spl r else hd1 c (spl r)
/-! A name read. -/
noncomputable def dgo : List Str → Bool → Bool → Str → Str
 | [], _, _, out => out
 | x :: r, later, coded, out => dgo r true (rcw x).isSome (out ++ (if later = true ∧ ¬ (coded = true ∧ (rcw x).isSome = true) then [32] else []) ++ (rcw x).getD x)
noncomputable def dn (s : Str) : Option Str := if s.length > 600 then none else (let o := dgo (spl s) false false []; if o.length > 120 then none else some o)
/-! Coded words: the program and the reference. -/
theorem Qq (c : UInt8) : wF.f (c.toNat : Int) = some (aW (cdB c)) := by
 revert c
 exact Qc (by decide +kernel)
theorem FW (b : Str) (hb : b.length ≤ 1048576) : Ev (fun k => jv.f k (aW b)) (aW (cd b)) := by
 have key : ∀ (r p : Str), b = p ++ r → Ev (fun k => jv.l0 k (aW b) (aW (cd p)) (p.length : Int)) (aW (cd b)) := by
  intro r
  induction r with
  | nil =>
   intro p h
   rw [List.append_nil] at h
   subst h
   refine vc ?_
   simp only [jv.l0, au]
   exact vn (by omega) (vs _)
  | cons c r ih =>
   intro p h
   have hz := jf h
   have e1 := jo h
   have w1 : wrap64 ((p.length : Int) + 1) = ((p ++ [c]).length : Int) := (aV (by omega) (by omega)).trans (by simp)
   have := ih (p ++ [c]) (by rw [h]; simp)
   rw [abV] at this
   have l1 := afu p
   have l2 := aaZ c
   refine vc ?_
   simp only [jv.l0, e1, w1, au, Qq, Option.bind_some, jZ]
   clear e1 w1
   refine vp (by omega) (vp (by omega) (vp (by omega) ?_))
   simpa [cd] using this
 unfold jv.f
 exact key b [] rfl
theorem MF (b : Str) (hb : b.length ≤ 1048576) : Ev (fun k => iL.f k (aW b)) (afw (cwO b)) := by
 have h := FW b hb
 have bad : Ev (fun k => iL.j0 k (aW b) true) (afw none) := by
  refine vc ?_
  simp only [iL.j0]
  exact vp trivial (vq (vs _) rfl)
 unfold iL.f cwO
 rw [au]
 by_cases h1 : b = []
 ·
  rw [if_pos (show b = [] ∨ b.length > 40 ∨ (cw b).length > 40 from Or.inl h1)]
  exact vp (by rw [h1]; decide) bad
 ·
  have hn : 0 < b.length := List.length_pos_iff.mpr h1
  refine vn (by omega) ?_
  by_cases h2 : b.length > 40
  ·
   rw [if_pos (show b = [] ∨ b.length > 40 ∨ (cw b).length > 40 from Or.inr (Or.inl h2)), decide_eq_true (by omega : (b.length : Int) > 40)]
   exact bad
  ·
   rw [decide_eq_false (by omega : ¬ (b.length : Int) > 40)]
   have l1 := afu b
   have e61 : (⟨#[61, 63, 117, 116, 102, 45, 56, 63, 113, 63]⟩ : ByteArray) = aW cb := rfl
   have e63 : (⟨#[63, 61]⟩ : ByteArray) = aW ce := rfl
   have e4 : cb ++ cd b ++ ce = cw b := rfl
   have l2 := anX b
   refine vc ?_
   simp only [iL.j0, e61, e63]
   refine vn (by simp) (vb h ?_)
   simp only [au, jZ, e4]
   refine vp (by omega) (vp (by rw [List.length_append, show cb.length = 10 from rfl]; omega) ?_)
   by_cases h3 : (cw b).length > 40
   ·
    rw [if_pos (show b = [] ∨ b.length > 40 ∨ (cw b).length > 40 from Or.inr (Or.inr h3))]
    exact vp (by omega) (vq (vs _) rfl)
   ·
    rw [if_neg (show ¬ (b = [] ∨ b.length > 40 ∨ (cw b).length > 40) from fun hh => hh.elim h1 (fun hh => hh.elim h2 h3))]
    exact vn (by omega) (vq (vs _) rfl)
/-! Coded words read. -/
/-! Names read. -/
def fit (o : Str) : Option Str := if o.length > 120 then none else some o
/-! Spaces trimmed by the reference. -/
/-! Names that are drawn. -/
theorem KQ (s : Str) (hs : s.length ≤ 1048576) : ∃ nc : Bool, Ev (fun k => gK.f k (aW s)) nc := by
 have key : ∀ (d i : Nat), s.length - i = d → i ≤ s.length → ∃ nc : Bool, Ev (fun k => gK.l0 k (aW s) (i : Int)) nc := by
  have fin : ∃ nc : Bool, Ev (fun k => (aQ.f k (aW s)).bind fun aAq => (if aAq = true then ((bK.f k (aW s)).bind fun t105 => (if t105.toList = (aW s).toList then (some (decide (((aW s).size : Int) > 120))) else (some true))) else (some true))) nc := by
   cases h1 : kW s with
   | false => exact ⟨true, vb (kU s (by omega)) (vn (by simp [h1]) (vs _))⟩
   | true =>
    by_cases h2 : (aW (trim s)).toList = (aW s).toList
    ·
     exact ⟨_, vb (kU s (by omega)) (vp h1 (vb (oU s hs) (vp h2 (vs _))))⟩
    ·
     exact ⟨true, vb (kU s (by omega)) (vp h1 (vb (oU s hs) (vn h2 (vs _))))⟩
  intro d
  induction d with
  | zero =>
   intro i hd hi
   obtain ⟨nc, hn⟩ := fin
   refine ⟨nc, vc ?_⟩
   simp only [gK.l0]
   have w1 : wrap64 ((i : Int) + 1) = (i : Int) + 1 := aV (by omega) (by omega)
   rw [w1]
   exact vn (by rw [au]; omega) hn
  | succ d ih =>
   intro i hd hi
   have w1 : wrap64 ((i : Int) + 1) = ((i + 1 : Nat) : Int) := (aV (by omega) (by omega)).trans (by omega)
   by_cases h1 : i + 1 < s.length
   ·
    obtain ⟨nc, hn⟩ := ih (i + 1) (by omega) (by omega)
    by_cases h2 : (bt (aW s) (i : Int)) = 61
    ·
     by_cases h3 : (bt (aW s) ((i + 1 : Nat) : Int)) = 63
     ·
      refine ⟨true, vc ?_⟩
      simp only [gK.l0, w1, au]
      exact vp (by omega) (vp (by omega) (vp (by omega) (vp h2 (vp (by omega) (vp h3 (vs _))))))
     ·
      refine ⟨nc, vc ?_⟩
      simp only [gK.l0, w1, au]
      exact vp (by omega) (vp (by omega) (vp (by omega) (vp h2 (vp (by omega) (vn h3 hn)))))
    ·
     refine ⟨nc, vc ?_⟩
     simp only [gK.l0, w1, au]
     exact vp (by omega) (vp (by omega) (vp (by omega) (vn h2 hn)))
   ·
    obtain ⟨nc, hn⟩ := fin
    refine ⟨nc, vc ?_⟩
    simp only [gK.l0, w1]
    exact vn (by rw [au]; omega) hn
 unfold gK.f
 exact key s.length 0 rfl (by omega)
theorem abW (b : Str) : ∃ u : Str, (afw (cwO b)).1 = aW u ∧ u.length ≤ 40 := by
 cases e : cwO b with
 | none => exact ⟨[], rfl, by simp⟩
 | some s => exact ⟨s, rfl, (afv e).2.2.2⟩
theorem IC (b : Str) (hb : b.length ≤ 1048576) : ∃ (s : Str) (ok : Bool), Ev (fun k => bG.f k (aW b)) (aW s, ok) ∧ s.length ≤ 10000 := by
 unfold bG.f
 rw [au]
 by_cases h : b.length > 120
 ·
  exact ⟨[], false, vp (by omega) (vq (vs _) rfl), by simp⟩
 ·
  obtain ⟨nc, hn⟩ := KQ b hb
  cases nc with
  | false => exact ⟨b, true, vn (by omega) (vb hn (vn (by simp) (vs _))), by omega⟩
  | true =>
   have ext : ∀ i j : Nat, (aW b).extract i j = aW ((b.drop i).take (j - i)) := fun i j => jw b i j
   have key : ∀ (m i : Nat) (out : Str), b.length - i ≤ m → i ≤ b.length → out.length ≤ 50 * i → ∃ s : Str, Ev (fun k => bG.l0 k (aW b) (aW out) (i : Int)) (aW s, true) ∧ s.length ≤ 10000 := by
    intro m
    induction m with
    | zero =>
     intro i out hm hi ho
     refine ⟨out, vc ?_, by omega⟩
     simp only [bG.l0, au]
     exact vn (by omega) (vs _)
    | succ m ih =>
     intro i out hm hi ho
     by_cases hlt : i < b.length
     ·
      have inner : ∀ (d j : Nat), b.length - j = d → i < j → j ≤ b.length → ∃ s : Str, Ev (fun k => bG.l1 k (aW b) (aW out) (i : Int) (j : Int)) (aW s, true) ∧ s.length ≤ 10000 := by
       have e32 : (⟨#[32]⟩ : ByteArray) = aW [32] := rfl
       have put : ∀ j : Nat, i < j → j ≤ b.length → ∃ s : Str, Ev (fun k => (iL.f k (aW ((b.drop i).take (j - i)))).bind fun bt => (if (i : Int) > 0 then (if (aW out).size + 1 ≤ 9223372036854775807 then (if ((aW out) ++ (⟨#[32]⟩ : ByteArray)).size + bt.1.size ≤ 9223372036854775807 then (bG.l0 k (aW b) (((aW out) ++ (⟨#[32]⟩ : ByteArray)) ++ bt.1) (j : Int)) else (none)) else (none)) else (if (aW out).size + bt.1.size ≤ 9223372036854775807 then (bG.l0 k (aW b) ((aW out) ++ bt.1) (j : Int)) else (none)))) (aW s, true) ∧ s.length ≤ 10000 := by
        intro j h1 h2
        have hcw := MF ((b.drop i).take (j - i)) (by rw [List.length_take, List.length_drop]; omega)
        obtain ⟨u, hu, hul⟩ := abW ((b.drop i).take (j - i))
        by_cases h0 : 0 < i
        ·
         obtain ⟨s, hs, hsl⟩ := ih j (out ++ [32] ++ u) (by omega) h2 (by simp only [List.length_append, List.length_cons, List.length_nil]; omega)
         refine ⟨s, vb hcw (vp (by omega) ?_), hsl⟩
         simp only [hu, e32, au, jZ]
         exact vp (by omega) (vp (by simp only [List.length_append, List.length_cons, List.length_nil]; omega) hs)
        ·
         obtain ⟨s, hs, hsl⟩ := ih j (out ++ u) (by omega) h2 (by simp only [List.length_append]; omega)
         refine ⟨s, vb hcw (vn (by omega) ?_), hsl⟩
         simp only [hu, au, jZ]
         exact vp (by omega) hs
       intro d
       induction d with
       | zero =>
        intro j hd h1 h2
        obtain ⟨s, hs, hsl⟩ := put j h1 h2
        refine ⟨s, vc ?_, hsl⟩
        simp only [bG.l1, Int.toNat_natCast, ext]
        exact vn (by rw [au]; omega) (vp (by omega) (vp (by omega) (vp (by rw [au]; omega) hs)))
       | succ d ihd =>
        intro j hd h1 h2
        have w1 : wrap64 ((j : Int) + 1) = ((j + 1 : Nat) : Int) := (aV (by omega) (by omega)).trans (by omega)
        have hcd := FW ((b.drop i).take (j + 1 - i)) (by rw [List.length_take, List.length_drop]; omega)
        by_cases h4 : (cd ((b.drop i).take (j + 1 - i))).length ≤ 28
        ·
         obtain ⟨s, hs, hsl⟩ := ihd (j + 1) (by omega) (by omega) (by omega)
         refine ⟨s, vc ?_, hsl⟩
         simp only [bG.l1, Int.toNat_natCast, ext, w1]
         clear w1
         exact vp (by rw [au]; omega) (vp (by omega) (vp (by omega) (vp (by rw [au]; omega) (vb hcd (vp (by rw [au]; omega) hs)))))
        ·
         obtain ⟨s, hs, hsl⟩ := put j h1 h2
         refine ⟨s, vc ?_, hsl⟩
         simp only [bG.l1, Int.toNat_natCast, ext, w1]
         clear w1
         exact vp (by rw [au]; omega) (vp (by omega) (vp (by omega) (vp (by rw [au]; omega) (vb hcd (vn (by rw [au]; omega) (vp (by omega) (vp (by rw [au]; omega) hs)))))))
      have w1 : wrap64 ((i : Int) + 1) = ((i + 1 : Nat) : Int) := (aV (by omega) (by omega)).trans (by omega)
      obtain ⟨s, hs, hsl⟩ := inner _ (i + 1) rfl (by omega) (by omega)
      refine ⟨s, vc ?_, hsl⟩
      simp only [bG.l0, au, w1]
      clear w1
      exact vp (by omega) hs
     ·
      refine ⟨out, vc ?_, by omega⟩
      simp only [bG.l0, au]
      exact vn (by omega) (vs _)
   obtain ⟨s, hs, hsl⟩ := key b.length 0 [] (by omega) (by omega) (by simp)
   exact ⟨s, true, vn (by omega) (vb hn (vp rfl hs)), hsl⟩
/-! Codes of bytes: what they give is bounded. -/
theorem uU (a : List Str) (c : Str) : Bf (a ++ [c]) = Bf a + c.length := by rw [P7]; simp [Bf]
theorem avO (s : Str) (hs : s.length ≤ 1000000) : ∃ ls : List Str, Ev (fun k => jG.f k (aW s) 10) (ls.map aW) ∧ ls.length ≤ s.length + 1 ∧ Bf ls ≤ s.length := by
 have key : ∀ (r p : Str) (acc : List Str) (m : Nat), s = p ++ r → m ≤ p.length → Bf acc ≤ m → acc.length ≤ p.length → ∃ ls : List Str, Ev (fun k => jG.l0 k (aW s) 10 (acc.map aW) (m : Int) (p.length : Int)) (ls.map aW) ∧ ls.length ≤ s.length + 1 ∧ Bf ls ≤ s.length := by
  intro r
  induction r with
  | nil =>
   intro p acc m h h1 h2 h3
   have hz : s.length = p.length := by rw [h]; simp
   refine ⟨acc ++ [(s.drop m).take (s.length - m)], vc ?_, by simp; omega, by rw [uU]; simp; omega⟩
   simp only [jG.l0, au, List.length_map, Int.toNat_natCast, jw]
   exact vn (by omega) (vp (by omega) (vp (by omega) (vp (by omega) (vq (vs _) (by simp)))))
  | cons c r ih =>
   intro p acc m h h1 h2 h3
   have hz : s.length = p.length + (r.length + 1) := by rw [h]; simp
   have e1 : bt (aW s) (p.length : Int) = (c.toNat : Int) := jo (l := s) (p := p) h
   have w1 : Unit → wrap64 ((p.length : Int) + 1) = (((p ++ [c]).length : Nat) : Int) := fun _ => by rw [aV (by omega) (by omega)]; simp
   by_cases c1 : (c.toNat : Int) = 10
   ·
    obtain ⟨ls, g1, g2⟩ := ih (p ++ [c]) (acc ++ [(s.drop m).take (p.length - m)]) (p ++ [c]).length (by rw [h]; simp) (Nat.le_refl _) (by rw [uU]; simp; omega) (by simp; omega)
    refine ⟨ls, vc ?_, g2⟩
    simp only [jG.l0, au, List.length_map, e1, w1 (), Int.toNat_natCast, jw]
    clear e1 w1
    rw [List.map_append, List.map_singleton] at g1
    exact vp (by omega) (vp (by omega) (vp c1 (vp (by omega) (vp (by omega) (vp (by omega) (vp (by omega) g1))))))
   ·
    obtain ⟨ls, g1, g2⟩ := ih (p ++ [c]) acc m (by rw [h]; simp) (by simp; omega) h2 (by simp; omega)
    refine ⟨ls, vc ?_, g2⟩
    simp only [jG.l0, au, List.length_map, e1, w1 ()]
    clear e1 w1
    exact vp (by omega) (vp (by omega) (vn c1 g1))
 unfold jG.f
 exact key s [] [] 0 rfl (Nat.le_refl _) (Nat.le_refl _) (Nat.le_refl _)
theorem Qr (s : Str) (hs : s.length ≤ 1000) : ∃ (ls : List Str) (ok : Bool), Ev (fun k => iM.f k (aW s)) (ls.map aW, ok) ∧ ls.length + Bf ls ≤ 2001 := by
 obtain ⟨xs, g1, g2, g3⟩ := avO s (by omega)
 have key : ∀ (r p : List Str), xs = p ++ r → ∃ (ls : List Str) (ok : Bool), Ev (fun k => iM.l0 k (aW s) (xs.map aW) (p.length : Int)) (ls.map aW, ok) ∧ ls.length + Bf ls ≤ 2001 := by
  intro r
  induction r with
  | nil =>
   intro p h
   have hz : xs.length = p.length := by rw [h]; simp
   refine ⟨xs, decide (((aW s).size : Int) ≤ 300), vc ?_, by omega⟩
   simp only [iM.l0, List.length_map]
   exact vn (by omega) (vs _)
  | cons c r ih =>
   intro p h
   have hz : xs.length = p.length + (r.length + 1) := by rw [h]; simp
   have e1 := uT h
   have hc : c.length ≤ Bf xs := Uz (by rw [h]; simp)
   have w1 : Unit → wrap64 ((p.length : Int) + 1) = (((p ++ [c]).length : Nat) : Int) := fun _ => by rw [aV (by omega) (by omega)]; simp
   obtain ⟨ls, ok, g4, g5⟩ := ih (p ++ [c]) (by rw [h]; simp)
   have tv := kU c (by omega)
   by_cases c1 : (c.length : Int) > 40
   ·
    refine ⟨[], false, vc ?_, by simp [Bf]⟩
    simp only [iM.l0, List.length_map, e1, au]
    exact vp (by omega) (vp (by omega) (vp c1 (vs _)))
   by_cases c2 : kW c = true
   ·
    refine ⟨ls, ok, vc ?_, g5⟩
    simp only [iM.l0, List.length_map, e1, au, w1 ()]
    exact vp (by omega) (vp (by omega) (vn c1 (vb tv (vp c2 g4))))
   ·
    refine ⟨[], false, vc ?_, by simp [Bf]⟩
    simp only [iM.l0, List.length_map, e1, au]
    exact vp (by omega) (vp (by omega) (vn c1 (vb tv (vn c2 (vs _)))))
 obtain ⟨ls, ok, g4, g5⟩ := key xs [] rfl
 refine ⟨ls, ok, ?_, g5⟩
 unfold iM.f
 exact vb g1 g4
theorem abX (c : UInt8) (b : Bool) : ∃ t : Str, l7.f (c.toNat : Int) b = some (aW t) ∧ t.length ≤ 3 := by
 have key : ∀ n : Nat, n < 256 → (match l7.f ((UInt8.ofNat n).toNat : Int) b with | some s => decide (s.size ≤ 3) | none => false) = true := by
  cases b <;> decide +kernel
 have := key c.toNat c.toNat_lt
 rw [UInt8.ofNat_toNat] at this
 cases e : l7.f (c.toNat : Int) b with
 | none => rw [e] at this; cases this
 | some s =>
  rw [e] at this
  exact ⟨L s, by rw [afx], by rw [← IE]; exact of_decide_eq_true this⟩
theorem Es (s : Str) (hs : s.length ≤ 1000) : ∃ (ls : List Str) (ok : Bool), Ev (fun k => aZ.f k (aW s)) (ls.map aW, ok) ∧ ls.length + Bf ls ≤ 5002 := by
 have key : ∀ (r p : Str) (acc : List Str) (cur : Str), s = p ++ r → acc.length ≤ p.length → cur.length ≤ 39 → Bf acc + cur.length ≤ 4 * p.length → ∃ (ls : List Str) (ok : Bool), Ev (fun k => aZ.l0 k (aW s) (acc.map aW) (aW cur) (p.length : Int)) (ls.map aW, ok) ∧ ls.length + Bf ls ≤ 5002 := by
  intro r
  induction r with
  | nil =>
   intro p acc cur h h1 h2 h3
   have hz : s.length = p.length := by rw [h]; simp
   refine ⟨acc ++ [cur], true, vc ?_, by rw [uU]; simp; omega⟩
   simp only [aZ.l0, au, List.length_map]
   exact vn (by omega) (vp (by omega) (vq (vs _) (by simp)))
  | cons c r ih =>
   intro p acc cur h h1 h2 h3
   have hz : s.length = p.length + (r.length + 1) := by rw [h]; simp
   have hp : (p ++ [c]).length = p.length + 1 := by simp
   have e1 : bt (aW s) (p.length : Int) = (c.toNat : Int) := jo (l := s) (p := p) h
   have w1 : Unit → wrap64 ((p.length : Int) + 1) = (((p ++ [c]).length : Nat) : Int) := fun _ => by rw [aV (by omega) (by omega)]; simp
   by_cases c1 : (c.toNat : Int) = 10
   ·
    obtain ⟨ls, ok, g1, g2⟩ := ih (p ++ [c]) (acc ++ [cur]) [] (by rw [h]; simp) (by simp; omega) (by simp) (by rw [uU, hp]; simp; omega)
    refine ⟨ls, ok, vc ?_, g2⟩
    simp only [aZ.l0, au, List.length_map, e1, w1 ()]
    clear e1 w1
    rw [List.map_append, List.map_singleton] at g1
    exact vp (by omega) (vp (by omega) (vp c1 (vp (by omega) g1)))
   ·
    have fin : ∀ b : Bool, ∃ (ls : List Str) (ok : Bool) (t : Str), l7.f (c.toNat : Int) b = some (aW t) ∧ ls.length + Bf ls ≤ 5002 ∧ Ev (fun k => if (wrap64 (((aW cur).size : Int) + ((aW t).size : Int))) > 39 then (if (aW cur).size + 1 ≤ 9223372036854775807 then (if (acc.map aW).length < 8796093022208 then (if 0 + (aW t).size ≤ 9223372036854775807 then (aZ.l0 k (aW s) (acc.map aW ++ [aW cur ++ (⟨#[61]⟩ : ByteArray)]) ((⟨#[]⟩ : ByteArray) ++ aW t) (((p ++ [c]).length : Nat) : Int)) else none) else none) else none) else (if (aW cur).size + (aW t).size ≤ 9223372036854775807 then (aZ.l0 k (aW s) (acc.map aW) (aW cur ++ aW t) (((p ++ [c]).length : Nat) : Int)) else none)) (ls.map aW, ok) := by
     intro b
     obtain ⟨t, ht, hl⟩ := abX c b
     have w2 : Unit → wrap64 ((cur.length : Int) + (t.length : Int)) = (cur.length : Int) + (t.length : Int) := fun _ => aV (by omega) (by omega)
     by_cases c2 : (cur.length : Int) + (t.length : Int) > 39
     ·
      obtain ⟨ls, ok, g1, g2⟩ := ih (p ++ [c]) (acc ++ [cur ++ [61]]) t (by rw [h]; simp) (by simp; omega) (by omega) (by rw [uU, hp]; simp; omega)
      refine ⟨ls, ok, t, ht, g2, ?_⟩
      simp only [au, List.length_map, w2 ()]
      clear w2 w1
      refine vp c2 (vp (by omega) (vp (by omega) (vp (by omega) ?_)))
      rw [List.map_append, List.map_singleton, ← jZ] at g1
      exact g1
     ·
      obtain ⟨ls, ok, g1, g2⟩ := ih (p ++ [c]) acc (cur ++ t) (by rw [h]; simp) (by simp; omega) (by simp; omega) (by rw [hp]; simp; omega)
      refine ⟨ls, ok, t, ht, g2, ?_⟩
      simp only [au, List.length_map, w2 ()]
      clear w2 w1
      refine vn c2 (vp (by omega) ?_)
      rw [← jZ] at g1
      exact g1
    by_cases c3 : (((p ++ [c]).length : Nat) : Int) = (s.length : Int)
    ·
     obtain ⟨ls, ok, t, ht, g2, g1⟩ := fin true
     refine ⟨ls, ok, vc ?_, g2⟩
     simp only [aZ.l0, au s, e1, w1 ()]
     clear e1 w1
     exact vp (by omega) (vp (by omega) (vn c1 (vp c3 (jA ht g1))))
    ·
     obtain ⟨ls, ok, t, ht, g2, g1⟩ := fin ((bt (aW s) (((p ++ [c]).length : Nat) : Int)) == 10)
     refine ⟨ls, ok, vc ?_, g2⟩
     simp only [aZ.l0, au s, e1, w1 ()]
     clear e1 w1
     exact vp (by omega) (vp (by omega) (vn c1 (vn c3 (vp (by omega) (vp (by omega) (jA ht g1))))))
 unfold aZ.f
 rw [au]
 by_cases c0 : (s.length : Int) > 300
 ·
  exact ⟨[], false, vp c0 (vs _), by simp [Bf]⟩
 ·
  obtain ⟨ls, ok, g1, g2⟩ := key s [] [] [] rfl (Nat.le_refl _) (by simp) (by simp [Bf])
  exact ⟨ls, ok, vn c0 g1, g2⟩
theorem Ye (s : Str) (hs : s.length ≤ 100000) : ∃ ls : List Str, Ev (fun k => jT.f k (aW s) 40) (ls.map aW) ∧ ls.length ≤ s.length + 1 ∧ Bf ls ≤ s.length := by
 have key : ∀ (n : Nat) (x : Str) (acc : List Str), x.length ≤ n → acc.length + x.length ≤ s.length → Bf acc + x.length ≤ s.length → ∃ ls : List Str, Ev (fun k => jT.l0 k (aW x) 40 (acc.map aW)) (ls.map aW) ∧ ls.length ≤ s.length + 1 ∧ Bf ls ≤ s.length := by
  intro n
  induction n with
  | zero =>
   intro x acc h h1 h2
   refine ⟨acc ++ [x], vc ?_, by simp; omega, by rw [uU]; omega⟩
   simp only [jT.l0, au, List.length_map]
   exact vn (by omega) (vp (by omega) (vq (vs _) (by simp)))
  | succ n ih =>
   intro x acc h h1 h2
   by_cases c : (x.length : Int) > 40
   ·
    obtain ⟨ls, g1, g2⟩ := ih (x.drop 40) (acc ++ [x.take 40]) (by simp; omega) (by simp; omega) (by rw [uU]; simp; omega)
    refine ⟨ls, vc ?_, g2⟩
    have e1 : (aW x).extract (40 : Int).toNat x.length = aW (x.drop 40) := by
     rw [jw]
     exact congrArg aW (List.take_of_length_le (by simp))
    have e2 : (aW x).extract 0 (40 : Int).toNat = aW (x.take 40) := by rw [jw]; rfl
    simp only [jT.l0, au, List.length_map, e1, e2]
    rw [List.map_append, List.map_singleton] at g1
    exact vp c (vp (by omega) (vp (by omega) (vp (by omega) g1)))
   ·
    refine ⟨acc ++ [x], vc ?_, by simp; omega, by rw [uU]; omega⟩
    simp only [jT.l0, au, List.length_map]
    exact vn c (vp (by omega) (vq (vs _) (by simp)))
 unfold jT.f
 exact key s.length s [] (Nat.le_refl _) (by simp) (by simp [Bf])
/-! Base 64: what it gives is bounded. -/
theorem avP (x : Int) (h0 : 0 ≤ x) (h1 : x ≤ 1000000000000) : 0 ≤ Go.bits .and .i64 x 63 ∧ Go.bits .and .i64 x 63 ≤ 63 := by
 obtain ⟨a, rfl⟩ := Int.eq_ofNat_of_zero_le h0
 have h2 : (BitVec.ofInt 64 (a : Int)).toNat = a := by
  rw [BitVec.ofInt_natCast, BitVec.toNat_ofNat]; exact Nat.mod_eq_of_lt (by omega)
 have e : Go.bits .and .i64 (a : Int) 63 = ((a &&& 63 : Nat) : Int) := by
  show IntKind.i64.wrap ((BitVec.ofInt 64 (a : Int) &&& BitVec.ofInt 64 (63 : Int)).toNat : Int) = _
  have h3 : (BitVec.ofInt 64 (63 : Int)).toNat = 63 := by decide
  rw [BitVec.toNat_and, h2, h3, iK]
  have : a &&& 63 ≤ 63 := Nat.and_le_right
  exact aV (by omega) (by omega)
 rw [e]
 have : a &&& 63 ≤ 63 := Nat.and_le_right
 omega
theorem anY (x y : Int) (h0 : 0 ≤ x) : 0 ≤ shr .i64 x y ∧ shr .i64 x y ≤ x := by
 unfold shr
 have hp : (0 : Int) < 2 ^ min y.toNat (IntKind.i64).bits := Int.pow_pos (by omega)
 exact ⟨Int.ediv_nonneg h0 (by omega), Int.ediv_le_self _ h0⟩
theorem abY (s : Str) (hs : s.length ≤ 1000) (i : Nat) (hi : i ≤ 1000) (x5 : Int) (h5 : 0 ≤ x5) (h6 : x5 ≤ 1000000000) : ∀ (j : Nat), j ≤ 4 → ∀ acc : Str, acc.length + j ≤ 1000000 →
  ∃ out : Str, out.length ≤ acc.length + j ∧ ∀ V, Ev (fun k => bM.l0 k (aW s) (aW out) (wrap64 ((i : Int) + 3))) V → Ev (fun k => bM.l1 k (aW s) (aW acc) (i : Int) x5 ((4 - j : Nat) : Int)) V := by
 intro j
 induction j with
 | zero =>
  intro _ acc ha
  refine ⟨acc, by omega, fun V hV => vc ?_⟩
  simp only [bM.l1]
  exact vn (by omega) hV
 | succ j ih =>
  intro hj acc ha
  have w1 : Unit → wrap64 (((4 - (j + 1) : Nat) : Int) + 1) = ((4 - j : Nat) : Int) := fun _ => by rw [aV (by omega) (by omega)]; omega
  have w2 : Unit → wrap64 ((i : Int) + ((4 - (j + 1) : Nat) : Int)) = (i : Int) + ((4 - (j + 1) : Nat) : Int) := fun _ => aV (by omega) (by omega)
  by_cases c : (i : Int) + ((4 - (j + 1) : Nat) : Int) > (s.length : Int)
  ·
   obtain ⟨out, ho, hV⟩ := ih (by omega) (acc ++ [61]) (by simp; omega)
   simp only [List.length_append, List.length_cons, List.length_nil] at ho
   refine ⟨out, by omega, fun V h => vc ?_⟩
   have := hV V h
   rw [← jZ] at this
   simp only [bM.l1, au, w1 (), w2 ()]
   clear w1 w2
   exact vp (by omega) (vp c (vp (by omega) this))
  ·
   have hsh := anY x5 (wrap64 (18 - wrap64 (6 * ((4 - (j + 1) : Nat) : Int)))) h5
   have hq := avP _ hsh.1 (by omega)
   have hw : Unit → wrap64 (18 - wrap64 (6 * ((4 - (j + 1) : Nat) : Int))) = 18 - 6 * ((4 - (j + 1) : Nat) : Int) := fun _ => by
    rw [aV (x := 6 * _) (by omega) (by omega), aV (by omega) (by omega)]
   generalize hX : Go.bits .and .i64 (shr .i64 x5 (wrap64 (18 - wrap64 (6 * ((4 - (j + 1) : Nat) : Int))))) 63 = X at hq
   have w3 : Unit → wrap64 (X + 1) = X + 1 := fun _ => aV (by omega) (by omega)
   obtain ⟨T, hT, hTs⟩ : ∃ T : Str, oQ.f = some (aW T) ∧ T.length = 64 := ⟨_, rfl, by decide⟩
   obtain ⟨out, ho, hV⟩ := ih (by omega) (acc ++ (T.drop X.toNat).take ((X + 1).toNat - X.toNat)) (by simp; omega)
   simp only [List.length_append, List.length_take] at ho
   refine ⟨out, by omega, fun V h => vc ?_⟩
   have := hV V h
   rw [← jZ] at this
   simp only [bM.l1, hX, au, w1 (), w2 (), w3 ()]
   refine vp (by omega) (vn c (vp (by rw [hw ()]; omega) (jA hT ?_)))
   simp only [au, jw]
   exact vp (by omega) (vp (by omega) (vp (by omega) (vp (by simp; omega) this)))
theorem afy (s : Str) (i : Nat) : 0 ≤ bt (aW s) (i : Int) ∧ bt (aW s) (i : Int) ≤ 255 := by
 unfold bt
 split
 ·
  rename_i h
  have := ((aW s)[(i : Int).toNat]).toNat_lt
  omega
 ·
  omega
theorem abZ (s : Str) (hs : s.length ≤ 1000) : ∃ out : Str, Ev (fun k => bM.f k (aW s)) (aW out) ∧ out.length ≤ 4 * s.length := by
 have key : ∀ (n i : Nat) (acc : Str), s.length ≤ i + n → i ≤ s.length + 3 → acc.length + 4 * n ≤ 4 * s.length → ∃ out : Str, Ev (fun k => bM.l0 k (aW s) (aW acc) (i : Int)) (aW out) ∧ out.length ≤ 4 * s.length := by
  intro n
  induction n with
  | zero =>
   intro i acc h h1 h2
   refine ⟨acc, vc ?_, by omega⟩
   simp only [bM.l0, au]
   exact vn (by omega) (vs _)
  | succ n ih =>
   intro i acc h h1 h2
   by_cases c : (i : Int) < (s.length : Int)
   ·
    have w1 : Unit → wrap64 ((i : Int) + 1) = ((i + 1 : Nat) : Int) := fun _ => by rw [aV (by omega) (by omega)]; omega
    have w2 : Unit → wrap64 ((i : Int) + 2) = ((i + 2 : Nat) : Int) := fun _ => by rw [aV (by omega) (by omega)]; omega
    have w3 : Unit → wrap64 ((i : Int) + 3) = ((i + 3 : Nat) : Int) := fun _ => by rw [aV (by omega) (by omega)]; omega
    have b0 := afy s i
    have b1 := afy s (i + 1)
    have b2 := afy s (i + 2)
    generalize hb0 : bt (aW s) (i : Int) = B0 at b0
    generalize hb1 : bt (aW s) ((i + 1 : Nat) : Int) = B1 at b1
    generalize hb2 : bt (aW s) ((i + 2 : Nat) : Int) = B2 at b2
    have v0 : Unit → wrap64 (wrap64 B0 * 65536) = B0 * 65536 := fun _ => by rw [aV (x := B0) (by omega) (by omega), aV (by omega) (by omega)]
    have v1 : Unit → wrap64 (B0 * 65536 + wrap64 (wrap64 B1 * 256)) = B0 * 65536 + B1 * 256 := fun _ => by rw [aV (x := B1) (by omega) (by omega), aV (x := B1 * 256) (by omega) (by omega), aV (by omega) (by omega)]
    have v2 : ∀ x : Int, 0 ≤ x → x ≤ 100000000 → wrap64 (x + wrap64 B2) = x + B2 := fun x _ _ => by rw [aV (x := B2) (by omega) (by omega), aV (by omega) (by omega)]
    have step : ∀ x : Int, 0 ≤ x → x ≤ 1000000000 → ∃ out : Str, Ev (fun k => bM.j2 k (aW s) (aW acc) (i : Int) x) (aW out) ∧ out.length ≤ 4 * s.length := by
     intro x x0 x1
     obtain ⟨o1, g1, g2⟩ := abY s hs i (by omega) x x0 x1 4 (Nat.le_refl _) acc (by omega)
     obtain ⟨out, g3, g4⟩ := ih (i + 3) o1 (by omega) (by omega) (by omega)
     refine ⟨out, vc ?_, g4⟩
     simp only [bM.j2]
     rw [w3 ()] at g2
     exact g2 _ g3
    have step1 : ∀ x : Int, 0 ≤ x → x ≤ 100000000 → ∃ out : Str, Ev (fun k => bM.j1 k (aW s) (aW acc) (i : Int) x) (aW out) ∧ out.length ≤ 4 * s.length := by
     intro x x0 x1
     by_cases c2 : ((i + 2 : Nat) : Int) < (s.length : Int)
     ·
      obtain ⟨out, g3, g4⟩ := step (x + B2) (by omega) (by omega)
      refine ⟨out, vc ?_, g4⟩
      simp only [bM.j1, au, w2 (), hb2, v2 x x0 x1]
      clear w1 w2 w3 v0 v1 v2
      exact vp c2 (vp (by omega) g3)
     ·
      obtain ⟨out, g3, g4⟩ := step x (by omega) (by omega)
      refine ⟨out, vc ?_, g4⟩
      simp only [bM.j1, au, w2 ()]
      exact vn c2 g3
    by_cases c1 : ((i + 1 : Nat) : Int) < (s.length : Int)
    ·
     obtain ⟨out, g3, g4⟩ := step1 (B0 * 65536 + B1 * 256) (by omega) (by omega)
     refine ⟨out, vc ?_, g4⟩
     simp only [bM.l0, au, w1 (), hb0, hb1, v0 (), v1 ()]
     clear w1 w2 w3 v0 v1 v2
     exact vp c (vp (by omega) (vp c1 (vp (by omega) g3)))
    ·
     obtain ⟨out, g3, g4⟩ := step1 (B0 * 65536) (by omega) (by omega)
     refine ⟨out, vc ?_, g4⟩
     simp only [bM.l0, au, w1 (), hb0, v0 ()]
     clear w1 w2 w3 v0 v1 v2
     exact vp c (vp (by omega) (vn c1 g3))
   ·
    refine ⟨acc, vc ?_, by omega⟩
    simp only [bM.l0, au]
    exact vn c (vs _)
 unfold bM.f
 exact key s.length 0 [] (by omega) (by omega) (by simp)
theorem Hl (s : Str) (hs : s.length ≤ 1000) : ∃ (ls : List Str) (ok : Bool), Ev (fun k => lI.f k (aW s)) (ls.map aW, ok) ∧ ls.length + Bf ls ≤ 8001 := by
 unfold lI.f
 rw [au]
 by_cases c : (s.length : Int) > 300
 ·
  exact ⟨[], false, vp c (vs _), by simp [Bf]⟩
 ·
  obtain ⟨o, g1, g2⟩ := abZ s hs
  obtain ⟨ls, g3, g4, g5⟩ := Ye o (by omega)
  exact ⟨ls, true, vn c (vb g1 (vb g3 (vs _))), by omega⟩
theorem Sv (ls : List Str) (h : ls.length + Bf ls ≤ 100000) : ∃ n : Int, Ev (fun k => jH.f k (ls.map aW)) n := by
 have key : ∀ (r p : List Str) (acc : Nat), ls = p ++ r → acc = Bf p + p.length → ∃ n : Int, Ev (fun k => jH.l0 k (ls.map aW) (acc : Int) (p.length : Int)) n := by
  intro r
  induction r with
  | nil =>
   intro p acc h1 _
   have hz : ls.length = p.length := by rw [h1]; simp
   refine ⟨acc, vc ?_⟩
   simp only [jH.l0, List.length_map]
   exact vn (by omega) (vs _)
  | cons c r ih =>
   intro p acc h1 h2
   have hz : ls.length = p.length + (r.length + 1) := by rw [h1]; simp
   have hsz : Bf ls = Bf p + (c.length + Bf r) := by rw [h1, P7]; rfl
   have e1 := uT h1
   have w1 : Unit → wrap64 ((p.length : Int) + 1) = (((p ++ [c]).length : Nat) : Int) := fun _ => by rw [aV (by omega) (by omega)]; simp
   have w2 : Unit → wrap64 (wrap64 ((acc : Int) + (c.length : Int)) + 1) = ((acc + c.length + 1 : Nat) : Int) := fun _ => by rw [aV (x := (acc : Int) + _) (by omega) (by omega), aV (by omega) (by omega)]; omega
   obtain ⟨n, g⟩ := ih (p ++ [c]) (acc + c.length + 1) (by rw [h1]; simp) (by rw [uU]; simp; omega)
   refine ⟨n, vc ?_⟩
   simp only [jH.l0, List.length_map, e1, au, w1 (), w2 ()]
   clear w1 w2
   exact vp (by omega) (vp (by omega) g)
 unfold jH.f
 exact key ls [] 0 rfl rfl
theorem WL (s : Str) (hs : s.length ≤ 1000) : ∃ (n : Int) (ok : Bool), Ev (fun k => lJ.f k (aW s)) (n, ok) ∧ 0 ≤ n ∧ n ≤ 2 := by
 unfold lJ.f
 rw [au]
 by_cases c : (s.length : Int) > 300
 ·
  exact ⟨0, false, vp c (vs _), by omega, by omega⟩
 obtain ⟨l1, b1, g1, h1⟩ := Qr s hs
 by_cases c1 : b1 = true
 ·
  exact ⟨0, true, vn c (vb g1 (vp c1 (vs _))), by omega, by omega⟩
 obtain ⟨l2, b2, g2, h2⟩ := Es s hs
 obtain ⟨l3, b3, g3, h3⟩ := Hl s hs
 obtain ⟨n, g4⟩ := Sv l2 (by omega)
 obtain ⟨m, g5⟩ := Sv l3 (by omega)
 by_cases c2 : n ≤ m
 ·
  exact ⟨1, true, vn c (vb g1 (vn c1 (vb g2 (vb g3 (vb g4 (vb g5 (vp c2 (vs _)))))))), by omega, by omega⟩
 ·
  exact ⟨2, true, vn c (vb g1 (vn c1 (vb g2 (vb g3 (vb g4 (vb g5 (vn c2 (vs _)))))))), by omega, by omega⟩
theorem Qs (s : Str) (hs : s.length ≤ 1000) (n : Int) : ∃ (ls : List Str) (ok : Bool), Ev (fun k => jC.f k (aW s) n) (ls.map aW, ok) ∧ ls.length + Bf ls ≤ 8001 := by
 obtain ⟨l1, b1, g1, h1⟩ := Qr s hs
 obtain ⟨l2, b2, g2, h2⟩ := Es s hs
 obtain ⟨l3, b3, g3, h3⟩ := Hl s hs
 unfold jC.f
 by_cases c0 : n = 0
 ·
  by_cases c1 : b1 = true
  ·
   exact ⟨l1, true, vp c0 (vb g1 (vp c1 (vs _))), by omega⟩
  ·
   exact ⟨[], false, vp c0 (vb g1 (vn c1 (vs _))), by simp [Bf]⟩
 by_cases c1 : n = 1
 ·
  exact ⟨l2, b2, vn c0 (vp c1 (vb g2 (vs _))), by omega⟩
 by_cases c2 : n = 2
 ·
  exact ⟨l3, b3, vn c0 (vn c1 (vp c2 (vb g3 (vs _)))), by omega⟩
 ·
  exact ⟨[], false, vn c0 (vn c1 (vn c2 (vs _))), by simp [Bf]⟩
/-! Parts that are drawn: each is some part of a bounded size. -/
def UM (f : List (Str × Str)) (b : List Str) (k : List Pt) : Nat := f.length + Aq f + b.length + Bf b + k.length + Fq k
theorem ak2 (x : nG) : (⟨x.f0, x.f1, x.f2⟩ : nG) = x := by cases x; rfl
theorem NC (a b : List Pt) : Fq (a ++ b) = Fq a + Fq b := by
 induction a with
 | nil => simp [Fq]
 | cons c a ih => simp only [List.cons_append, Fq, ih]; omega
def szR : List gX → Nat
 | [] => 0
 | x :: r => x.f0.size + x.f1.size + szR r
theorem fields_of (R : List gX) : ∃ f : List (Str × Str), R = f.map sN ∧ Aq f = szR R ∧ f.length = R.length := by
 induction R with
 | nil => exact ⟨[], rfl, rfl, rfl⟩
 | cons x r ih =>
  obtain ⟨f, h1, h2, h3⟩ := ih
  refine ⟨(L x.f0, L x.f1) :: f, by rw [List.map_cons, ← h1]; rfl, by simp only [Aq, szR, h2, IE], by simp [h3]⟩
theorem UN (l : List Int) (p : Int) (ws : List ByteArray) (M : Nat) (hl : UZ l) (h0 : 0 ≤ p) (h1 : p ≤ 1000000000) (hn : 1 ≤ ws.length) (hn2 : ws.length ≤ 1000000) (hM : ∀ x ∈ ws, x.size ≤ M) :
  ∃ s : Str, Ev (fun k => fH.f k l p ws) (aW s, p + 1) ∧ s.length ≤ M := by
 obtain ⟨v, h, hm⟩ := avK l p ws hl h0 h1 hn hn2
 exact ⟨L v, h, by rw [← IE]; exact hM v hm⟩
theorem Yf (p : Pt) : QF p ≤ 1000000000 → Ev (fun n => iG.f n (e32 p).f0 (e32 p).f1 (e32 p).f2) ((e32 p).f0, (e32 p).f1, (e32 p).f2) := by
 refine afg (P := fun p => QF p ≤ 1000000000 → Ev (fun n => iG.f n (e32 p).f0 (e32 p).f1 (e32 p).f2) ((e32 p).f0, (e32 p).f1, (e32 p).f2)) ?_ p
 intro f b k ih hs
 rw [QF] at hs
 simp only [yt]
 have key : ∀ (r q : List Pt), k = q ++ r → Ev (fun n => fP.l0 n (q.map e32) (k.map e32) (k.length : Int) (q.length : Int)) (k.map e32) := by
  intro r
  induction r with
  | nil =>
   intro q h
   have hz : k.length = q.length := by rw [h]; simp
   refine vc ?_
   simp only [fP.l0]
   exact vn (by omega) (vq (vs _) (by rw [h, List.append_nil]))
  | cons c r ihr =>
   intro q h
   have hz : k.length = q.length + (r.length + 1) := by rw [h]; simp
   have e1 := Fp h
   have hm : c ∈ k := by rw [h]; simp
   have hc := P8 hm
   have g := ih c hm (by omega)
   have w1 : Unit → wrap64 ((q.length : Int) + 1) = (((q ++ [c]).length : Nat) : Int) := fun _ => by rw [aV (by omega) (by omega)]; simp
   have g2 := ihr (q ++ [c]) (by rw [h]; simp)
   rw [List.map_append, List.map_singleton] at g2
   refine vc ?_
   simp only [fP.l0, List.length_map, e1, w1 ()]
   refine vp (by omega) (vp (by omega) (vp (by omega) (vb g ?_)))
   simp only [ak2]
   exact vp (by omega) g2
 have k0 := key k [] rfl
 refine vc ?_
 simp only [iG.f, List.length_map]
 refine jA rfl (vp (by simp; omega) (jA rfl (vp (by simp; omega) (vb k0 (vq (vs _) (by simp))))))
theorem ab1 (p : Pt) : QF p ≤ 1000000000 → Ev (fun n => dI.f n (e32 p).f0 (e32 p).f1 (e32 p).f2) ((e32 p).f0, (e32 p).f1, (e32 p).f2) := by
 refine afg (P := fun p => QF p ≤ 1000000000 → Ev (fun n => dI.f n (e32 p).f0 (e32 p).f1 (e32 p).f2) ((e32 p).f0, (e32 p).f1, (e32 p).f2)) ?_ p
 intro f b k ih hs
 rw [QF] at hs
 simp only [yt]
 have key : ∀ (r q : List Pt), k = q ++ r → Ev (fun n => dI.l0 n (q.length : Int) (f.map sN) (b.map aW) (k.map e32) (f.map sN) (b.map aW) (q.map e32)) (f.map sN, b.map aW, k.map e32) := by
  intro r
  induction r with
  | nil =>
   intro q h
   have hz : k.length = q.length := by rw [h]; simp
   refine vc ?_
   simp only [dI.l0, List.length_map]
   exact vn (by omega) (vq (vs _) (by rw [h, List.append_nil]))
  | cons c r ihr =>
   intro q h
   have hz : k.length = q.length + (r.length + 1) := by rw [h]; simp
   have e1 := Fp h
   have hm : c ∈ k := by rw [h]; simp
   have hc := P8 hm
   have g := ih c hm (by omega)
   have w1 : Unit → wrap64 ((q.length : Int) + 1) = (((q ++ [c]).length : Nat) : Int) := fun _ => by rw [aV (by omega) (by omega)]; simp
   have g2 := ihr (q ++ [c]) (by rw [h]; simp)
   rw [List.map_append, List.map_singleton] at g2
   refine vc ?_
   simp only [dI.l0, List.length_map, e1, w1 ()]
   refine vp (by omega) (vp (by omega) (vb g ?_))
   simp only [ak2]
   exact vp (by omega) g2
 have k0 := key k [] rfl
 refine vc ?_
 simp only [dI.f, List.length_map]
 exact jA rfl (vp (by simp; omega) (jA rfl (vp (by simp; omega) k0)))
theorem Qu (n s : Str) (hn : n.length ≤ 1000) (hs : s.length ≤ 1000) : ∃ (f : List (Str × Str)) (b : List Str) (ok : Bool), Ev (fun k => gq.f k (aW n) (aW s)) (f.map sN, b.map aW, ([] : List nG), ok) ∧ UM f b [] ≤ 19000 := by
 obtain ⟨u, o1, g1, h1⟩ := IC n (by omega)
 obtain ⟨c, o2, g2, h2, h3⟩ := WL s hs
 obtain ⟨ls, o3, g3, h4⟩ := Qs s hs c
 have hv := wu ([83, 117, 98, 106, 101, 99, 116], u) (by simp) (by show u.length ≤ _; omega)
 have hb := FV ls (fun x hx => by have := Uz hx; omega) (by omega)
 have bad : UM [] [] [] ≤ 19000 := by decide
 unfold gq.f
 by_cases c1 : o1 = true
 ·
  by_cases c2 : o2 = true
  ·
   by_cases c3 : o3 = true
   ·
    by_cases c4 : fv ([83, 117, 98, 106, 101, 99, 116], u) = true
    ·
     by_cases c5 : tbs ls = true
     ·
      have fin : ∀ v : ByteArray, v.size ≤ 16 → ∃ f : List (Str × Str), ([(⟨(⟨#[83, 117, 98, 106, 101, 99, 116]⟩ : ByteArray), aW u⟩ : gX), (⟨(⟨#[67, 111, 110, 116, 101, 110, 116, 45, 84, 121, 112, 101]⟩ : ByteArray), (⟨#[116, 101, 120, 116, 47, 112, 108, 97, 105, 110, 59, 32, 99, 104, 97, 114, 115, 101, 116, 61, 117, 116, 102, 45, 56]⟩ : ByteArray)⟩ : gX), (⟨(⟨#[67, 111, 110, 116, 101, 110, 116, 45, 84, 114, 97, 110, 115, 102, 101, 114, 45, 69, 110, 99, 111, 100, 105, 110, 103]⟩ : ByteArray), v⟩ : gX)] : List gX) = f.map sN ∧ UM f ls [] ≤ 19000 := by
       intro v hv
       obtain ⟨f, k1, k2, k3⟩ := fields_of ([(⟨(⟨#[83, 117, 98, 106, 101, 99, 116]⟩ : ByteArray), aW u⟩ : gX), (⟨(⟨#[67, 111, 110, 116, 101, 110, 116, 45, 84, 121, 112, 101]⟩ : ByteArray), (⟨#[116, 101, 120, 116, 47, 112, 108, 97, 105, 110, 59, 32, 99, 104, 97, 114, 115, 101, 116, 61, 117, 116, 102, 45, 56]⟩ : ByteArray)⟩ : gX), (⟨(⟨#[67, 111, 110, 116, 101, 110, 116, 45, 84, 114, 97, 110, 115, 102, 101, 114, 45, 69, 110, 99, 111, 100, 105, 110, 103]⟩ : ByteArray), v⟩ : gX)])
       refine ⟨f, k1, ?_⟩
       have e : Aq f = 7 + u.length + (12 + 25 + (25 + v.size + 0)) := by rw [k2]; simp only [szR, au]; rfl
       have e2 : f.length = 3 := k3
       unfold UM
       simp only [Fq, List.length_nil]
       omega
      have hc : c = 0 ∨ c = 1 ∨ c = 2 := by omega
      obtain ⟨v, hv1, hv2⟩ : ∃ v, mX ByteArray.empty ([(⟨#[55, 98, 105, 116]⟩ : ByteArray), (⟨#[113, 117, 111, 116, 101, 100, 45, 112, 114, 105, 110, 116, 97, 98, 108, 101]⟩ : ByteArray), (⟨#[98, 97, 115, 101, 54, 52]⟩ : ByteArray)] : List ByteArray) c = v ∧ v.size ≤ 16 := by
       rcases hc with rfl | rfl | rfl
       ·
        exact ⟨_, rfl, by decide⟩
       ·
        exact ⟨_, rfl, by decide⟩
       ·
        exact ⟨_, rfl, by decide⟩
      obtain ⟨f, k1, k2⟩ := fin v hv2
      refine ⟨f, ls, true, vb g1 (vb g2 (vb g3 (vp c1 (vp c2 (vp c3 (vb hv (vp c4 (vb hb (vp c5 (jA rfl (vp h2 (vp ?_ ?_)))))))))))), k2⟩
      ·
       show c < ((3 : Nat) : Int)
       omega
      ·
       refine vq (vs _) ?_
       rw [← k1, hv1]
     ·
      exact ⟨[], [], false, vb g1 (vb g2 (vb g3 (vp c1 (vp c2 (vp c3 (vb hv (vp c4 (vb hb (vn c5 (vs _)))))))))), bad⟩
    ·
     exact ⟨[], [], false, vb g1 (vb g2 (vb g3 (vp c1 (vp c2 (vp c3 (vb hv (vn c4 (vs _)))))))), bad⟩
   ·
    exact ⟨[], [], false, vb g1 (vb g2 (vb g3 (vp c1 (vp c2 (vn c3 (vs _)))))), bad⟩
  ·
   exact ⟨[], [], false, vb g1 (vb g2 (vb g3 (vp c1 (vn c2 (vs _))))), bad⟩
 ·
  exact ⟨[], [], false, vb g1 (vb g2 (vb g3 (vn c1 (vs _)))), bad⟩
theorem WM (n s : Str) (hn : n.length ≤ 1000) (hs : s.length ≤ 1000) : ∃ (f : List (Str × Str)) (b : List Str) (ok : Bool), Ev (fun k => rJ.f k (aW n) (aW s)) (f.map sN, b.map aW, ([] : List nG), ok) ∧ UM f b [] ≤ 19000 := by
 obtain ⟨f, b, ok, g1, h1⟩ := Qu n s hn hs
 have g2 := Yf (.mk f b []) (by rw [QF]; unfold UM at h1; omega)
 rw [yt] at g2
 refine ⟨f, b, ok, ?_, h1⟩
 unfold rJ.f
 exact vb g1 (vb g2 (vs _))
theorem ab3 (l : List Int) (q : Int) : ∀ (n : Nat) (s : Str), 301 ≤ s.length + 10 * n → s.length ≤ 1000 → ∃ t : Str, Ev (fun k => iJ.l1 k (aW s) l q) (aW t, q) ∧ t.length ≤ 1000 := by
 intro n
 induction n with
 | zero =>
  intro s h h1
  refine ⟨s, vc ?_, h1⟩
  simp only [iJ.l1, au]
  exact vn (by omega) (vs _)
 | succ n ih =>
  intro s h h1
  by_cases c : (s.length : Int) ≤ 300
  ·
   obtain ⟨t, g, g2⟩ := ih (s ++ [48, 49, 50, 51, 52, 53, 54, 55, 56, 57]) (by simp; omega) (by simp; omega)
   rw [← jZ] at g
   refine ⟨t, vc ?_, g2⟩
   simp only [iJ.l1, au]
   exact vp c (vp (by omega) g)
  ·
   refine ⟨s, vc ?_, h1⟩
   simp only [iJ.l1, au]
   exact vn c (vs _)
theorem ab4 (l : List Int) (hl : UZ l) (p : Int) (h0 : 0 ≤ p) (h1 : p ≤ 100000000) : ∃ (s : Str) (q : Int), Ev (fun k => iJ.f k l p) (aW s, q) ∧ s.length ≤ 1000 ∧ p ≤ q ∧ q ≤ p + 20 := by
 have key : ∀ (n : Nat) (s : Str) (p : Int), 0 ≤ p → p + n ≤ 200000000 → s.length + 60 * n ≤ 600 → ∃ (t : Str) (q : Int), Ev (fun k => iJ.l0 k (aW s) (n : Int) l p) (aW t, q) ∧ t.length ≤ 1000 ∧ p ≤ q ∧ q ≤ p + n + 1 := by
  intro n
  induction n with
  | zero =>
   intro s p h0 h1 h2
   obtain ⟨i, hi, i0, i1⟩ := Gj l p 40 hl h0 (by omega) (by omega) (by omega)
   by_cases c : i = 0
   ·
    obtain ⟨t, g, g2⟩ := ab3 l (p + 1) 31 s (by omega) (by omega)
    refine ⟨t, p + 1, vc ?_, g2, by omega, by omega⟩
    simp only [iJ.l0]
    exact vn (by omega) (vb hi (vp c g))
   ·
    refine ⟨s, p + 1, vc ?_, by omega, by omega, by omega⟩
    simp only [iJ.l0]
    exact vn (by omega) (vb hi (vn c (vs _)))
  | succ n ih =>
   intro s p h0 h1 h2
   obtain ⟨v, hv, hm⟩ := UN l p (([(⟨#[104, 101, 108, 108, 111]⟩ : ByteArray), (⟨#[32]⟩ : ByteArray), (⟨#[61]⟩ : ByteArray), (⟨#[10]⟩ : ByteArray), (⟨#[255, 0]⟩ : ByteArray), (⟨#[99, 97, 102, 195, 169]⟩ : ByteArray), (⟨#[97, 32, 108, 111, 110, 103, 101, 114, 32, 114, 111, 119, 32, 111, 102, 32, 119, 111, 114, 100, 115, 32, 116, 104, 97, 116, 32, 105, 115, 32, 98, 114, 111, 107, 101, 110, 32, 104, 101, 114, 101]⟩ : ByteArray), (⟨#[120]⟩ : ByteArray), (⟨#[46]⟩ : ByteArray), (⟨#[9]⟩ : ByteArray)] : List ByteArray)) 60 hl h0 (by omega) (by simp) (by simp) (by decide)
   obtain ⟨t, q, g1, g2, g3, g4⟩ := ih (s ++ v) (p + 1) (by omega) (by omega) (by simp; omega)
   have w1 : Unit → wrap64 (((n + 1 : Nat) : Int) - 1) = (n : Int) := fun _ => by rw [aV (by omega) (by omega)]; omega
   rw [← jZ] at g1
   refine ⟨t, q, vc ?_, g2, by omega, by omega⟩
   simp only [iJ.l0, w1 ()]
   refine vp (by omega) (vb hv ?_)
   simp only [au]
   exact vp (by omega) g1
 obtain ⟨n, hn, hm⟩ := UA l p [3, 2, 5, 1, 0, 8] hl h0 (by omega) (by simp) (by simp)
 obtain ⟨m, rfl, hm⟩ := Gl hm 8 (by decide)
 obtain ⟨t, q, g1, g2, g3, g4⟩ := key m [] (p + 1) (by omega) (by omega) (by simp; omega)
 refine ⟨t, q, ?_, g2, by omega, by omega⟩
 unfold iJ.f
 exact vb hn g1
theorem ab5 (l : List Int) (hl : UZ l) (p : Int) (h0 : 0 ≤ p) (h1 : p ≤ 500000000) : ∃ a b : Str, Ev (fun k => uQ.f k l p) (aW a, aW b, p + 2) ∧ a.length ≤ 100 ∧ b.length ≤ 100 := by
 obtain ⟨a, g1, h2⟩ := UN l p ([(⟨#[84, 111]⟩ : ByteArray), (⟨#[70, 114, 111, 109]⟩ : ByteArray), (⟨#[83, 117, 98, 106, 101, 99, 116]⟩ : ByteArray), (⟨#[88, 45, 89]⟩ : ByteArray), (⟨#[82, 101, 99, 101, 105, 118, 101, 100]⟩ : ByteArray), (⟨#[116, 111]⟩ : ByteArray), (⟨#[68, 97, 116, 101]⟩ : ByteArray)] : List ByteArray) 100 hl h0 (by omega) (by simp) (by simp) (by decide)
 obtain ⟨b, g2, h3⟩ := UN l (p + 1) ([(⟨#[]⟩ : ByteArray), (⟨#[120]⟩ : ByteArray), (⟨#[97, 32, 98]⟩ : ByteArray), (⟨#[104, 101, 108, 108, 111, 32, 116, 104, 101, 114, 101, 44, 32, 116, 104, 105, 115, 32, 105, 115, 32, 97, 32, 108, 111, 110, 103, 101, 114, 32, 118, 97, 108, 117, 101, 32, 116, 104, 97, 116, 32, 105, 115, 32, 98, 114, 111, 107, 101, 110]⟩ : ByteArray), (⟨#[97, 97, 97, 97, 97, 97, 97, 97, 97, 97, 97, 97, 97, 97, 97, 97, 97, 97, 97, 97, 97, 97, 97, 97, 97, 97, 97, 97, 97, 97, 97, 97, 97, 97, 97, 97, 97, 97, 97, 97, 97, 97, 97, 97, 97, 97, 97, 97, 97, 97, 97, 32, 98]⟩ : ByteArray), (⟨#[116, 119, 111, 32, 32, 115, 112, 97, 99, 101, 115, 32, 115, 116, 97, 121, 32, 32, 116, 111, 103, 101, 116, 104, 101, 114, 32, 105, 110, 32, 104, 101, 114, 101, 44, 32, 97, 110, 100, 32, 115, 111, 32, 100, 111, 32, 116, 104, 101, 115, 101, 32, 32, 111, 110, 101, 115]⟩ : ByteArray), (⟨#[97, 58, 98]⟩ : ByteArray), (⟨#[111, 110, 101, 32, 116, 119, 111, 32, 116, 104, 114, 101, 101, 32, 102, 111, 117, 114, 32, 102, 105, 118, 101, 32, 115, 105, 120, 32, 115, 101, 118, 101, 110, 32, 101, 105, 103, 104, 116, 32, 110, 105, 110, 101, 32, 116, 101, 110, 32, 101, 108, 101, 118, 101, 110]⟩ : ByteArray)] : List ByteArray) 100 hl (by omega) (by omega) (by simp) (by simp) (by decide)
 refine ⟨a, b, ?_, h2, h3⟩
 unfold uQ.f
 have e : p + 1 + 1 = p + 2 := by omega
 rw [e] at g2
 exact vb g1 (vb g2 (vs _))
theorem ab6 (l : List Int) (hl : UZ l) (p : Int) (h0 : 0 ≤ p) (h1 : p ≤ 100000000) : ∃ (f : List (Str × Str)) (q : Int), Ev (fun k => lH.f k l p) (f.map sN, q) ∧ f.length + Aq f ≤ 1000 ∧ p ≤ q ∧ q ≤ p + 20 := by
 have key : ∀ (n : Nat) (f : List (Str × Str)) (p : Int), 0 ≤ p → p + 2 * n ≤ 200000000 → f.length + Aq f + 201 * n ≤ 1000 → ∃ (f2 : List (Str × Str)) (q : Int), Ev (fun k => lH.l0 k (f.map sN) (n : Int) l p) (f2.map sN, q) ∧ f2.length + Aq f2 ≤ 1000 ∧ p ≤ q ∧ q ≤ p + 2 * n := by
  intro n
  induction n with
  | zero =>
   intro f p h0 h1 h2
   refine ⟨f, p, vc ?_, by omega, by omega, by omega⟩
   simp only [lH.l0]
   exact vn (by omega) (vs _)
  | succ n ih =>
   intro f p h0 h1 h2
   obtain ⟨a, b, g1, h3, h4⟩ := ab5 l hl p h0 (by omega)
   obtain ⟨f2, q, g2, h5, h6, h7⟩ := ih (f ++ [(a, b)]) (p + 2) (by omega) (by omega) (by rw [yw]; simp [Aq]; omega)
   have w1 : Unit → wrap64 (((n + 1 : Nat) : Int) - 1) = (n : Int) := fun _ => by rw [aV (by omega) (by omega)]; omega
   rw [List.map_append, List.map_singleton] at g2
   refine ⟨f2, q, vc ?_, h5, by omega, by omega⟩
   simp only [lH.l0, w1 (), List.length_map]
   exact vp (by omega) (vb g1 (vp (by omega) g2))
 obtain ⟨n, hn, hm⟩ := UA l p [2, 3, 1, 0, 4] hl h0 (by omega) (by simp) (by simp)
 obtain ⟨m, rfl, hm⟩ := Gl hm 4 (by decide)
 obtain ⟨f, q, g1, g2, g3, g4⟩ := key m [] (p + 1) (by omega) (by omega) (by simp [Aq]; omega)
 refine ⟨f, q, ?_, g2, by omega, by omega⟩
 unfold lH.f
 exact vb hn g1
theorem Sz (l : List Int) (hl : UZ l) (p : Int) (h0 : 0 ≤ p) (h1 : p ≤ 10000000) : ∃ (f : List (Str × Str)) (b : List Str) (q : Int), Ev (fun k => iC.f k l p) (f.map sN, b.map aW, ([] : List nG), q) ∧ UM f b [] ≤ 19000 ∧ p ≤ q ∧ q ≤ p + 60 := by
 have key : ∀ (f : List (Str × Str)) (n : Nat) (b : List Str) (p : Int), 0 ≤ p → p + n ≤ 200000000 → b.length + Bf b + 101 * n ≤ 1000 → ∃ (b2 : List Str) (q : Int), Ev (fun k => iC.l0 k (n : Int) l p (f.map sN) (b.map aW)) (f.map sN, b2.map aW, ([] : List nG), q) ∧ b2.length + Bf b2 ≤ 1000 ∧ p ≤ q ∧ q ≤ p + n := by
  intro f n
  induction n with
  | zero =>
   intro b p h0 h1 h2
   refine ⟨b, p, vc ?_, by omega, by omega, by omega⟩
   simp only [iC.l0]
   exact vn (by omega) (vs _)
  | succ n ih =>
   intro b p h0 h1 h2
   obtain ⟨v, g1, h3⟩ := UN l p ([(⟨#[97]⟩ : ByteArray), (⟨#[]⟩ : ByteArray), (⟨#[116, 101, 120, 116, 32, 111, 102, 32, 97, 32, 108, 105, 110, 101]⟩ : ByteArray), (⟨#[45, 45, 98, 49]⟩ : ByteArray), (⟨#[45, 45, 120]⟩ : ByteArray)] : List ByteArray) 100 hl h0 (by omega) (by simp) (by simp) (by decide)
   obtain ⟨b2, q, g2, h5, h6, h7⟩ := ih (b ++ [v]) (p + 1) (by omega) (by omega) (by rw [uU]; simp; omega)
   have w1 : Unit → wrap64 (((n + 1 : Nat) : Int) - 1) = (n : Int) := fun _ => by rw [aV (by omega) (by omega)]; omega
   rw [List.map_append, List.map_singleton] at g2
   refine ⟨b2, q, vc ?_, h5, by omega, by omega⟩
   simp only [iC.l0, w1 (), List.length_map]
   exact vp (by omega) (vb g1 (vp (by omega) g2))
 obtain ⟨i, hi, i0, i1⟩ := Gj l p 2 hl h0 (by omega) (by omega) (by omega)
 unfold iC.f
 by_cases c : i = 0
 ·
  obtain ⟨v, g1, h2⟩ := UN l (p + 1) ([(⟨#[104, 101, 108, 108, 111]⟩ : ByteArray), (⟨#[90, 111, 195, 171]⟩ : ByteArray), (⟨#[]⟩ : ByteArray)] : List ByteArray) 100 hl (by omega) (by omega) (by simp) (by simp) (by decide)
  obtain ⟨s, q, g2, h3, h4, h5⟩ := ab4 l hl (p + 1 + 1) (by omega) (by omega)
  obtain ⟨f, b, ok, g3, h6⟩ := WM v s (by omega) h3
  exact ⟨f, b, q, vb hi (vp c (vb g1 (vb g2 (vb g3 (vs _))))), h6, by omega, by omega⟩
 ·
  obtain ⟨f, q, g1, h2, h3, h4⟩ := ab6 l hl (p + 1) (by omega) (by omega)
  obtain ⟨n, hn, hm⟩ := UA l q [1, 2, 0, 3] hl (by omega) (by omega) (by simp) (by simp)
  obtain ⟨m, rfl, hm⟩ := Gl hm 3 (by decide)
  obtain ⟨b, q2, g2, h5, h6, h7⟩ := key f m [] (q + 1) (by omega) (by omega) (by simp [Bf]; omega)
  exact ⟨f, b, q2, vb hi (vn c (vb g1 (vb hn g2))), by unfold UM; simp only [Fq, List.length_nil]; omega, by omega, by omega⟩
def dB : Nat → Nat
 | 0 => 19000
 | d + 1 => 3 * dB d + 1000
def dQ : Nat → Nat
 | 0 => 64
 | d + 1 => 3 * dQ d + 10
theorem UO (f : List (Str × Str)) (b : List Str) (k : List Pt) : QF (.mk f b k) = UM f b k := by rw [QF]; rfl
theorem avQ (d : Nat) : 19000 ≤ dB d ∧ 64 ≤ dQ d := by
 induction d with
 | zero => exact ⟨Nat.le_refl _, Nat.le_refl _⟩
 | succ d ih => unfold dB dQ; omega
theorem ab7 (l : List Int) (hl : UZ l) : ∀ d : Nat, d ≤ 2 → ∀ p : Int, 0 ≤ p → p + dQ d ≤ 1000000 → ∃ (f : List (Str × Str)) (b : List Str) (k : List Pt) (q : Int), Ev (fun n => dX.f n l p ((d + 1 : Nat) : Int)) (f.map sN, b.map aW, k.map e32, q) ∧ UM f b k ≤ dB d ∧ p ≤ q ∧ q ≤ p + dQ d := by
 have leaf : ∀ (d : Nat) (x1 p p0 : Int), 0 ≤ p → p ≤ 2000000 → p0 ≤ p → p ≤ p0 + 1 → ∃ (f : List (Str × Str)) (b : List Str) (k : List Pt) (q : Int), Ev (fun n => dX.j0 n x1 true l p) (f.map sN, b.map aW, k.map e32, q) ∧ UM f b k ≤ dB d ∧ p0 ≤ q ∧ q ≤ p0 + dQ d := by
  intro d x1 p p0 h0 h1 h2 h3
  obtain ⟨f, b, q, g1, h4, h5, h6⟩ := Sz l hl p h0 (by omega)
  have hd := avQ d
  refine ⟨f, b, [], q, vc ?_, by omega, by omega, by omega⟩
  simp only [dX.j0]
  exact vp trivial (vb g1 (vs _))
 intro d
 induction d with
 | zero =>
  intro _ p h0 h1
  obtain ⟨f, b, k, q, g1, h2, h3, h4⟩ := leaf 0 ((0 + 1 : Nat) : Int) p p h0 (by omega) (by omega) (by omega)
  refine ⟨f, b, k, q, vc ?_, h2, h3, h4⟩
  simp only [dX.f]
  exact vp (by omega) g1
 | succ d ih =>
  intro hd2 p h0 h1
  have hdb : dB d ≤ 100000 ∧ dQ d ≤ 1000 := by
   have : d = 0 ∨ d = 1 := by omega
   rcases this with rfl | rfl <;> decide
  have eB : dB (d + 1) = 3 * dB d + 1000 := rfl
  have eQ : dQ (d + 1) = 3 * dQ d + 10 := rfl
  have w0 : Unit → wrap64 (((d + 1 + 1 : Nat) : Int) - 1) = ((d + 1 : Nat) : Int) := fun _ => by rw [aV (by omega) (by omega)]; omega
  have key : ∀ (F : List gX) (n : Nat), n ≤ 3 → ∀ (kk : List Pt) (p : Int), 0 ≤ p → p + n * dQ d ≤ 1000000 → kk.length + Fq kk + n * (dB d + 1) ≤ 3 * dB d + 3 → ∃ (k : List Pt) (q : Int), Ev (fun m => dX.l0 m ((d + 1 + 1 : Nat) : Int) (n : Int) l p F (kk.map e32)) (F, ([] : List ByteArray), k.map e32, q) ∧ k.length + Fq k ≤ 3 * dB d + 3 ∧ p ≤ q ∧ q ≤ p + n * dQ d := by
   intro F n
   induction n with
   | zero =>
    intro _ kk p h0 h1 h2
    refine ⟨kk, p, vc ?_, by omega, by omega, by omega⟩
    simp only [dX.l0]
    exact vn (by omega) (vs _)
   | succ n ihn =>
    intro hn3 kk p h0 h1 h2
    rw [Nat.succ_mul] at h2
    have m1 : (((n + 1 : Nat) : Int)) * (dQ d : Int) = (n : Int) * (dQ d : Int) + (dQ d : Int) := by rw [Int.natCast_add, Int.add_mul]; simp
    have m2 : (0 : Int) ≤ (n : Int) * (dQ d : Int) := Int.mul_nonneg (by omega) (by omega)
    rw [m1] at h1
    obtain ⟨f, b, k, q, g1, h3, h4, h5⟩ := ih (by omega) p h0 (by omega)
    have hs := UO f b k
    obtain ⟨k2, q2, g2, h6, h7, h8⟩ := ihn (by omega) (kk ++ [.mk f b k]) q (by omega) (by omega) (by rw [NC]; simp only [List.length_append, List.length_cons, List.length_nil, Fq]; omega)
    have w1 : Unit → wrap64 (((n + 1 : Nat) : Int) - 1) = (n : Int) := fun _ => by rw [aV (by omega) (by omega)]; omega
    have hkk : kk.length ≤ 1000000 := by
     have : 0 ≤ n * (dB d + 1) := Nat.zero_le _
     omega
    rw [List.map_append, List.map_singleton, yt] at g2
    refine ⟨k2, q2, vc ?_, h6, by omega, by rw [m1]; omega⟩
    simp only [dX.l0, w1 (), w0 (), List.length_map]
    clear w1 w0
    exact vp (by omega) (vb g1 (vp (by omega) g2))
  obtain ⟨i, hi, i0, i1⟩ := Gj l p 2 hl h0 (by omega) (by omega) (by omega)
  by_cases c : i = 0
  ·
   obtain ⟨f, b, k, q, g1, h2, h3, h4⟩ := leaf (d + 1) ((d + 1 + 1 : Nat) : Int) (p + 1) p (by omega) (by omega) (by omega) (by omega)
   refine ⟨f, b, k, q, vc ?_, h2, h3, h4⟩
   simp only [dX.f]
   refine vn (by omega) (vb hi ?_)
   rw [c]
   exact g1
  ·
   obtain ⟨v, g1, h2⟩ := UN l (p + 1) ([(⟨#[109, 117, 108, 116, 105, 112, 97, 114, 116, 47, 109, 105, 120, 101, 100, 59, 32, 98, 111, 117, 110, 100, 97, 114, 121, 61, 98, 48]⟩ : ByteArray), (⟨#[77, 117, 108, 116, 105, 112, 97, 114, 116, 47, 97, 108, 116, 101, 114, 110, 97, 116, 105, 118, 101, 59, 32, 66, 111, 117, 110, 100, 97, 114, 121, 61, 98, 50]⟩ : ByteArray), (⟨#[109, 117, 108, 116, 105, 112, 97, 114, 116, 47, 109, 105, 120, 101, 100, 59, 32, 98, 111, 117, 110, 100, 97, 114, 121, 61, 120, 121, 122]⟩ : ByteArray)] : List ByteArray) 100 hl (by omega) (by omega) (by simp) (by simp) (by decide)
   obtain ⟨n, hn, hm⟩ := UA l (p + 1 + 1) [2, 1, 3] hl (by omega) (by omega) (by simp) (by simp)
   obtain ⟨m, rfl, hm2⟩ := Gl hm 3 (by decide)
   obtain ⟨f, k1, k2, k3⟩ := fields_of ([(⟨(⟨#[83, 117, 98, 106, 101, 99, 116]⟩ : ByteArray), (⟨#[109, 97, 110, 121]⟩ : ByteArray)⟩ : gX), (⟨(⟨#[67, 111, 110, 116, 101, 110, 116, 45, 84, 121, 112, 101]⟩ : ByteArray), aW v⟩ : gX)] : List (gX))
   have e : Aq f ≤ 300 := by
    rw [k2]
    have : szR ([(⟨(⟨#[83, 117, 98, 106, 101, 99, 116]⟩ : ByteArray), (⟨#[109, 97, 110, 121]⟩ : ByteArray)⟩ : gX), (⟨(⟨#[67, 111, 110, 116, 101, 110, 116, 45, 84, 121, 112, 101]⟩ : ByteArray), aW v⟩ : gX)] : List (gX)) = _ := rfl
    simp only [szR, au]
    have hA : ∀ a b c x : Nat, a + b ≤ 100 → c ≤ 100 → x ≤ 100 → a + b + (c + x + 0) ≤ 300 := by intros; omega
    exact hA _ _ _ _ (by decide) (by decide) h2
   have e2 : f.length = 2 := k3
   have hmq : (m : Int) * (dQ d : Int) ≤ 3 * (dQ d : Int) := Int.mul_le_mul_of_nonneg_right (by omega) (by omega)
   have hmb : m * (dB d + 1) ≤ 3 * (dB d + 1) := Nat.mul_le_mul_right _ hm2
   obtain ⟨k, q, g2, h3, h4, h5⟩ := key ([(⟨(⟨#[83, 117, 98, 106, 101, 99, 116]⟩ : ByteArray), (⟨#[109, 97, 110, 121]⟩ : ByteArray)⟩ : gX), (⟨(⟨#[67, 111, 110, 116, 101, 110, 116, 45, 84, 121, 112, 101]⟩ : ByteArray), aW v⟩ : gX)] : List (gX)) m hm2 [] (p + 1 + 1 + 1) (by omega) (by omega) (by simp [Fq]; omega)
   refine ⟨f, [], k, q, vc ?_, by unfold UM; simp only [Bf, List.length_nil]; omega, by omega, by omega⟩
   rw [← k1]
   simp only [dX.f]
   refine vn (by omega) (vb hi ?_)
   have hf : (i == 0) = false := by simp [c]
   simp only [hf]
   refine vc ?_
   simp only [dX.j0]
   exact vn (by simp) (vb g1 (vb hn g2))
theorem Yg (l : List Int) (hl : UZ l) (p : Int) (h0 : 0 ≤ p) (h1 : p ≤ 1000000) (f : List (Str × Str)) (b : List Str) (k : List Pt) (hs : UM f b k ≤ 500000) :
  ∃ (f2 : List (Str × Str)) (b2 : List Str) (k2 : List Pt) (q : Int), Ev (fun n => dN.f n l p (f.map sN) (b.map aW) (k.map e32)) (f2.map sN, b2.map aW, k2.map e32, q) ∧ UM f2 b2 k2 ≤ UM f b k + 20000 ∧ p ≤ q ∧ q ≤ p + 70 := by
 have cp := ab1 (.mk f b k) (by rw [UO]; omega)
 rw [yt] at cp
 obtain ⟨i, hi, i0, i1⟩ := Gj l p 20 hl h0 (by omega) (by omega) (by omega)
 have hs0 := hs
 unfold UM at hs0
 unfold dN.f
 by_cases c0 : i = 0
 ·
  obtain ⟨v, g1, h2⟩ := UN l (p + 1) ([(⟨#[10]⟩ : ByteArray), (⟨#[120]⟩ : ByteArray)] : List ByteArray) 100 hl (by omega) (by omega) (by simp) (by simp) (by decide)
  refine ⟨f, b ++ [v], k, p + 1 + 1, vb cp (vb hi (vp c0 (vb g1 (vp (by rw [List.length_map]; omega) (vq (vs _) (by simp)))))), by unfold UM; rw [uU]; simp; omega, by omega, by omega⟩
 by_cases c1 : i = 1
 ·
  obtain ⟨v, g1, h2⟩ := UN l (p + 1) ([(⟨#[97, 32, 98]⟩ : ByteArray), (⟨#[79, 107]⟩ : ByteArray)] : List ByteArray) 100 hl (by omega) (by omega) (by simp) (by simp) (by decide)
  obtain ⟨u, g2, h3⟩ := UN l (p + 1 + 1) ([(⟨#[32, 120]⟩ : ByteArray), (⟨#[120]⟩ : ByteArray)] : List ByteArray) 100 hl (by omega) (by omega) (by simp) (by simp) (by decide)
  refine ⟨f ++ [(v, u)], b, k, p + 1 + 1 + 1, vb cp (vb hi (vn c0 (vp c1 (vb g1 (vb g2 (vp (by rw [List.length_map]; omega) (vq (vs _) (by simp [sN])))))))), by unfold UM; rw [yw]; simp [Aq]; omega, by omega, by omega⟩
 by_cases c2 : i = 2
 ·
  obtain ⟨g, c, q, g1, h2, h3, h4⟩ := Sz l hl (p + 1) (by omega) (by omega)
  have e : k.map e32 ++ [(⟨g.map sN, c.map aW, ([] : List nG)⟩ : nG)] = (k ++ [Pt.mk g c []]).map e32 := by
   rw [List.map_append, List.map_singleton, yt]; rfl
  refine ⟨f, b, k ++ [Pt.mk g c []], q, vb cp (vb hi (vn c0 (vn c1 (vp c2 (vb g1 (vp (by rw [List.length_map]; omega) (vq (vs _) (by rw [← e]))))))))
   , by unfold UM; rw [NC]; simp only [Fq, UO, List.length_append, List.length_cons, List.length_nil]; omega, by omega, by omega⟩
 ·
  exact ⟨f, b, k, p + 1, vb cp (vb hi (vn c0 (vn c1 (vn c2 (vs _))))), by omega, by omega, by omega⟩
theorem ab8 (l : List Int) (h : ∀ x ∈ l, (Lit.int .u8 x).wf = true) : ∃ p : Pt, Ev (fun k => uG.f k l) ((e32 p).f0, (e32 p).f1, (e32 p).f2) ∧ QF p ≤ 500000 := by
 obtain ⟨l2, ho, hl⟩ := ahx l h
 have e1 : dB 2 = 175000 := by decide
 have e2 : dQ 2 = 616 := by decide
 obtain ⟨f, b, k, q, g1, h1, h2, h3⟩ := ab7 l2 hl 2 (by omega) 0 (by omega) (by omega)
 obtain ⟨f2, b2, k2, q2, g2, h4, h5, h6⟩ := Yg l2 hl q (by omega) (by omega) f b k (by omega)
 unfold uG.f
 refine ⟨.mk f2 b2 k2, ?_, by rw [UO]; omega⟩
 rw [yt]
 exact jA ho (vb g1 (vb g2 (vs _)))
theorem KR (l : List Int) (h : ∀ x ∈ l, (Lit.int .u8 x).wf = true) : ∃ p : Pt, Ev (fun k => lT.f k l) ((e32 p).f0, (e32 p).f1, (e32 p).f2) ∧ QF p ≤ 500000 := by
 obtain ⟨p, g, hp⟩ := ab8 l h
 exact ⟨p, by unfold lT.f; exact vb g (vs _), hp⟩
/-! The kids of a valid part. -/
theorem Oe (a b : List Str) (hn : a.length ≤ 1000000000000000) : Ev (fun k => fD.f k (a.map aW) (b.map aW)) (decide (a = b)) := by
 unfold fD.f
 simp only [List.length_map]
 by_cases hl : a.length = b.length
 ·
  refine vp (by omega) ?_
  refine vq (pG (xs := a) (F := fun k (_ : List Str) i => fD.l0 k (a.map aW) (b.map aW) i) (st := fun r c => match r with
   | [] => .inl false
   | d :: r => if c = d then .inr r else .inl false) (fin := fun _ => true) (s := b) (fun p r => ∃ q, b = q ++ r ∧ q.length = p.length) ⟨[], rfl, rfl⟩ ?_ ?_) ?_
  ·
   rintro p c r s h ⟨q, hq, hql⟩
   have hz := jf h
   have e1 := uT h
   have w1 : wrap64 ((p.length : Int) + 1) = (p.length : Int) + 1 := aV (by omega) (by omega)
   cases s with
   | nil => rw [hq] at hl; simp at hl; omega
   | cons d s =>
    have e2 := uT hq
    rw [hql] at e2
    simp only [fD.l0, e1, e2, w1, List.length_map, lU]
    clear w1 e1 e2
    by_cases e : c = d
    ·
     simp only [if_pos e]
     refine ⟨(fun v hv => by cases hv), fun s' hs => ⟨?_, fun v hv => ?_⟩⟩
     ·
      cases hs; exact ⟨q ++ [d], by rw [hq]; simp, by simp [hql]⟩
     ·
      exact vp (by omega) (vp (by omega) (vp (by omega) hv))
    ·
     simp only [if_neg e]
     refine ⟨(fun v hv => ?_), fun s' hs => by cases hs⟩
     cases hv
     exact vp (by omega) (vp (by omega) (vp (by omega) (vs _)))
  ·
   intro s _
   simp only [fD.l0, List.length_map]
   exact vn (by omega) (vs _)
  ·
   clear hn
   induction a generalizing b with
   | nil => cases b with
    | nil => rfl
    | cons d b => simp at hl
   | cons c a ih => cases b with
    | nil => simp at hl
    | cons d b =>
     unfold run
     by_cases e : c = d
     ·
      simp only [if_pos e]; rw [ih b (by simpa using hl)]; simp [e]
     ·
      simp only [if_neg e]; simp [e]
 ·
  refine vn (by omega) (vq (vs _) ?_)
  rw [eq_comm]; exact decide_eq_false (fun h => hl (by rw [h]))
/-! What FormatPart answers. -/
def fmt (p : Pt) : List ByteArray × Bool := match lines 3 p with
 | some ls => (ls.map aW, true)
 | none => ([], false)
theorem IG (p : Pt) (hp : QF p ≤ 1048576) : Ev (fun k => pR.f k (e32 p).f0 (e32 p).f1 (e32 p).f2) (fmt p) := by
 unfold pR.f fmt
 obtain ⟨v, hv, hr⟩ := Ob 3 p (by omega) hp
 refine vb hv ?_
 cases e : lines 3 p with
 | none =>
  rw [e] at hr
  have hr' : v.2 = false := hr
  exact vn (by simp [hr']) (vs _)
 | some ls =>
  rw [e] at hr
  have hr' : v = (ls.map aW, true) := hr
  rw [hr']
  exact vp rfl (vs _)
theorem II (p : Pt) (hp : QF p ≤ 1048576) : Ev (fun k => pU.f k (e32 p).f0 (e32 p).f1 (e32 p).f2) (fmt p) := by
 unfold pU.f fmt
 refine vb (KP p hp) ?_
 cases e : lines 3 p with
 | none => exact vn (by simp) (vs _)
 | some ls => exact vp rfl (vb (Dh 3 p ls (by omega) hp e) (vs _))
theorem Yh {d : Nat} {f : List (Str × Str)} {b : List Str} {k : List Pt} {ls : List Str} (h : lines (d + 1) (.mk f b k) = some ls) : fvs f = true ∧ ∃ rest, ls = folds f ++ [] :: rest ∧ (k = [] → rest = b) := by
 rw [lines] at h
 by_cases c : fvs f = true
 ·
  rw [if_pos c] at h
  refine ⟨c, ?_⟩
  by_cases c1 : (bF f).2 = true
  ·
   rw [if_pos c1] at h
   by_cases c2 : b = [] ∧ 1 ≤ k.length ∧ k.length ≤ 4
   ·
    rw [if_pos c2] at h
    cases e : kl (lines d) k with
    | none => rw [e] at h; cases h
    | some l =>
     rw [e] at h
     simp only at h
     cases e2 : jR (bF f).1 l with
     | none => rw [e2] at h; cases h
     | some s =>
      rw [e2] at h
      cases h
      exact ⟨s, by unfold head; simp, fun hk => by rw [hk] at c2; simp at c2⟩
   ·
    rw [if_neg c2] at h; cases h
  ·
   rw [if_neg c1] at h
   by_cases c2 : k = [] ∧ tbs b = true
   ·
    rw [if_pos c2] at h
    cases h
    exact ⟨b, by unfold head; simp, fun _ => rfl⟩
   ·
    rw [if_neg c2] at h; cases h
 ·
  rw [if_neg c] at h; cases h
theorem OI (a : List Str) (hn : a.length ≤ 1000000000000000) : Ev (fun k => fD.f k (a.map aW) (a.map aW)) true := vq (Oe a a hn) (by simp)
theorem FnPartLines : dD.Pure := by
 intro l0 _ _ h
 refine ab9 ?_
 unfold dD.f
 by_cases h0 : (l0.length : Int) > 1048576
 ·
  exact vp h0 (vs _)
 obtain ⟨⟨f, b, k⟩, hd, hp⟩ := KR l0 h
 have hi := IG (.mk f b k) (by omega)
 have hs := II (.mk f b k) (by omega)
 refine vn h0 (vb hd (vb hi (vb hs ?_)))
 clear hi hs
 unfold fmt
 cases e : lines 3 (.mk f b k) with
 | none =>
  have m0 := OI [] (by simp)
  refine vb m0 (vp rfl (vn (by simp) (vc ?_)))
  simp only [dD.j0]
  exact vp rfl (vb m0 (vp rfl (vs _)))
 | some ls =>
  have hl := zY 3 _ ls e
  have hl2 := aaY (d := 3) (by omega)
  have m0 := OI ls (by omega)
  refine vb m0 (vp rfl (vn (by simp) (vc ?_)))
  simp only [dD.j0]
  obtain ⟨hf, rest, hr, hk⟩ := Yh e
  obtain ⟨sf, fn, -, hbn, -, -⟩ := zZ (f := f) (b := b) (k := k) (by omega)
  have ff := sZ f sf fn
  rw [if_pos hf] at ff
  have hn : ls.length = (folds f).length + 1 + rest.length := by rw [hr]; simp; omega
  have m1 := OI (folds f) (by omega)
  have e1 : (ls.map aW).take (((folds f).length : Int) : Int).toNat = (folds f).map aW := by
   rw [← List.map_take, hr]; simp
  have e2 : mX ByteArray.empty (ls.map aW) ((folds f).length : Int) = aW [] := uT hr
  have w1 : wrap64 (((folds f).length : Int) + 1) = ((folds f).length : Int) + 1 := aV (by omega) (by omega)
  have e3 : (ls.map aW).drop (((folds f).length : Int) + 1).toNat = rest.map aW := by
   rw [show (((folds f).length : Int) + 1).toNat = (folds f).length + 1 by omega, ← List.map_drop, hr]
   rw [show (folds f).length + 1 = (folds f ++ [[]]).length by simp, show folds f ++ [] :: rest = (folds f ++ [[]]) ++ rest by simp, List.drop_left]
  refine vn (by simp) ?_
  simp only [yt]
  refine vb ff (vp rfl ?_)
  simp only [List.length_map, e1, e2, w1, e3]
  clear w1
  refine vp (by omega) (vp (by omega) (vp (by omega) (vb m1 (vp rfl (vp (by omega) (vp (by rw [lU]) ?_))))))
  by_cases hz : (k.length : Int) > 0
  ·
   exact vp hz (vs _)
  ·
   refine vn hz (vp (by omega) (vp (by omega) (vb ?_ (vs _))))
   have : rest = b := hk (List.length_eq_zero_iff.mp (by omega))
   rw [this]
   exact OI b (by omega)
end Go.Proofs.YtncdadcmghglkaaGreatDoor.Pure
