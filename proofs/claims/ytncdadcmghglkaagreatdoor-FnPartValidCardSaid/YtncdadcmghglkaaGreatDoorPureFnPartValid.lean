/- Proved here: the pure form of the law FnPartValid (fields can come) returns true for all arguments; conditions: none beyond those that the printed statement bears. -/
import Derived.Test.YtncdadcmghglkaaGreatDoorPFnPartValidx31
import Derived.Test.YtncdadcmghglkaaGreatDoorVFnPartValidZbt
import Derived.Test.YtncdadcmghglkaaGreatDoorVFnPartValidMore
import Derived.Lib.TrimByte
import Derived.Lib.CutLaws
import Derived.Lib.ReplaceLaws
import Derived.Lib.Join
import Derived.Lib.JoinLaws
import Derived.Lib.Split
import Derived.Lib.CountLaws
-- dense
namespace Go.Proofs.YtncdadcmghglkaaGreatDoor.Pure
open Go.Proofs.YtncdadcmghglkaaGreatDoorW.iU Go.RowKit Go.Proofs.YtncdadcmghglkaaGreatDoor.X Go.Proofs.YtncdadcmghglkaaGreatDoor.PFnPartValid Go.Proofs.YtncdadcmghglkaaGreatDoorW.bK Go.Proofs.YtncdadcmghglkaaGreatDoorW.gY Go.Proofs.YtncdadcmghglkaaGreatDoor.Z
set_option linter.unusedVariables false
set_option linter.unusedSimpArgs false
/-! Several answers from one number of rounds on. -/
def Evp (p : Nat → Prop) : Prop := ∃ K, ∀ k, K ≤ k → p k
def stp {α : Type} [DecidableEq α] (r : List α) (c : α) : Bool ⊕ List α := match r with
 | [] => .inl false
 | d :: r => if c = d then .inr r else .inl false
theorem Yj {α : Type} [DecidableEq α] (a b : List α) (hl : a.length = b.length) : run stp (fun _ => true) a b = decide (a = b) := by
 induction a generalizing b with
 | nil => cases b with
  | nil => rfl
  | cons d b => simp at hl
 | cons c a ih => cases b with
  | nil => simp at hl
  | cons d b =>
   unfold run
   by_cases e : c = d
   ·
    simp only [stp, if_pos e]; rw [ih b (by simpa using hl)]; simp [e]
   ·
    simp only [stp, if_neg e]; simp [e]
/-! Texts that came in: their size, a copy, and the same again. -/
def CS : List Str → Nat
 | [] => 0
 | c :: r => c.length + CS r
theorem RI (a b : List Str) : CS (a ++ b) = CS a + CS b := by
 induction a with
 | nil => simp [CS]
 | cons c a ih => simp only [List.cons_append, CS, ih]; omega
theorem WB {a : List Str} {c : Str} (h : c ∈ a) : c.length ≤ CS a := by
 induction a with
 | nil => cases h
 | cons d a ih =>
  simp only [CS]
  rcases List.mem_cons.mp h with rfl | h
  ·
   omega
  ·
   have := ih h; omega
/-! Fields that came in: pairs of texts. -/
def uw (p : Str × Str) : gK := ⟨bD p.1, bD p.2⟩
def BA : List (Str × Str) → Nat
 | [] => 0
 | c :: r => c.1.length + c.2.length + BA r
theorem ajh {a : List (Str × Str)} {c : Str × Str} (h : c ∈ a) : c.1.length + c.2.length ≤ BA a := by
 induction a with
 | nil => cases h
 | cons d a ih =>
  simp only [BA]
  rcases List.mem_cons.mp h with rfl | h
  ·
   omega
  ·
   have := ih h; omega
theorem wQ {ls p r : List (Str × Str)} {c : Str × Str} (h : ls = p ++ c :: r) : dY (ls.map uw) (p.length : Int) = uw c := by
 unfold dY
 rw [List.getD_eq_getElem?_getD, h]
 simp
def sane (ls : List (Str × Str)) : Prop := ∀ x ∈ ls, x.1.length ≤ 9223372036854775807 ∧ x.2.length ≤ 9223372036854775807
/-! Parts: rows of texts, and parts within parts. -/
inductive Pt where
 | mk (f : List (Str × Str)) (b : List Str) (k : List Pt)
mutual
def e32 : Pt → mV
 | .mk f b k => ⟨f.map uw, b.map bD, aji k⟩
def aji : List Pt → List mV
 | [] => []
 | p :: r => e32 p :: aji r
end
theorem agN (k : List Pt) : aji k = k.map e32 := by
 induction k with
 | nil => rfl
 | cons p r ih => rw [aji, ih]; rfl
theorem vU (f : List (Str × Str)) (b : List Str) (k : List Pt) : e32 (.mk f b k) = ⟨f.map uw, b.map bD, k.map e32⟩ := by rw [e32, agN]
theorem Am {ls p r : List Pt} {c : Pt} (h : ls = p ++ c :: r) : aN (ls.map e32) (p.length : Int) = e32 c := by
 unfold aN
 rw [List.getD_eq_getElem?_getD, h]
 simp
mutual
def IW : Pt → Nat
 | .mk f b k => f.length + BA f + b.length + CS b + k.length + EZ k
def EZ : List Pt → Nat
 | [] => 0
 | p :: r => IW p + EZ r
end
theorem L_ {k : List Pt} {p : Pt} (h : p ∈ k) : IW p ≤ EZ k := by
 induction k with
 | nil => cases h
 | cons d a ih =>
  rw [EZ]
  rcases List.mem_cons.mp h with rfl | h
  ·
   omega
  ·
   have := ih h; omega
mutual
def smt : Pt → Pt → Bool
 | .mk f b k, .mk g c l => decide (f = g) && (decide (b = c) && (decide (k.length = l.length) && Yk k l))
def Yk : List Pt → List Pt → Bool
 | [], _ => true
 | _ :: _, [] => false
 | p :: r, q :: s => smt p q && Yk r s
end
/-- What holds of a part if it holds of it where it holds of all its parts. -/
theorem Ob {P : Pt → Prop} (h : ∀ f b k, (∀ p ∈ k, P p) → P (.mk f b k)) (p : Pt) : P p := by
 have key : ∀ (n : Nat) (p : Pt), SizeOf.sizeOf p < n → P p := by
  intro n
  induction n with
  | zero => intro p hp; omega
  | succ n ih =>
   intro p hp
   cases p with
   | mk f b k =>
    refine h f b k fun q hq => ih q ?_
    have := List.sizeOf_lt_of_mem hq
    simp only [Pt.mk.sizeOf_spec] at hp
    omega
 exact key _ p (Nat.lt_succ_self _)
/-! The reader of draws. -/
theorem Z4 (a b : Nat) (ha : a < 9223372036854775808) (hb : b < 9223372036854775808) : Go.bits .xor .i64 (a : Int) (b : Int) = ((a ^^^ b : Nat) : Int) := by
 have hx : a ^^^ b < 2 ^ 63 := Nat.xor_lt_two_pow (by omega) (by omega)
 have h1 : (BitVec.ofInt 64 (a : Int)).toNat = a := by
  rw [BitVec.ofInt_natCast, BitVec.toNat_ofNat]; exact Nat.mod_eq_of_lt (by omega)
 have h2 : (BitVec.ofInt 64 (b : Int)).toNat = b := by
  rw [BitVec.ofInt_natCast, BitVec.toNat_ofNat]; exact Nat.mod_eq_of_lt (by omega)
 show IntKind.i64.wrap ((BitVec.ofInt 64 (a : Int) ^^^ BitVec.ofInt 64 (b : Int)).toNat : Int) = _
 rw [BitVec.toNat_xor, h1, h2]
 rw [eu]
 exact bf (by omega) (by omega)
theorem tmod_in {a b : Int} (ha : 0 ≤ a) (hb : 1 ≤ b) : 0 ≤ Int.tmod a b ∧ Int.tmod a b < b := by
 rw [Int.tmod_eq_emod_of_nonneg ha]
 exact ⟨Int.emod_nonneg _ (by omega), Int.emod_lt_of_pos _ (by omega)⟩
/-- What is known of the bytes that are drawn from. -/
def IsB (l : List Int) : Prop := l.length ≤ 2000 ∧ ∀ x ∈ l, 0 ≤ x ∧ x ≤ 255
theorem acD {l : List Int} (h : IsB l) (i : Int) : 0 ≤ rd l i ∧ rd l i ≤ 255 := by
 unfold rd
 rw [List.getD_eq_getElem?_getD]
 cases e : l[i.toNat]? with
 | none => simp
 | some x => exact h.2 x (List.mem_of_getElem? e)
theorem H6 (l : List Int) (p n : Int) (hl : IsB l) (h0 : 0 ≤ p) (h1 : p ≤ 1000000000) (hn : 1 ≤ n) (hn2 : n ≤ 1000000000) :
  ∃ v, Ev (fun k => dF.f k l p n) (v, p + 1) ∧ 0 ≤ v ∧ v < n := by
 have hw : wrap64 (p + 1) = p + 1 := bf (by omega) (by omega)
 have hw2 : wrap64 (p + 1 - 1) = p := by rw [bf (by omega) (by omega)]; omega
 have hlen := hl.1
 unfold dF.f
 rw [hw]
 by_cases he : (l.length : Int) = 0
 ·
  refine ⟨0, vn (by omega) (vc ?_), by omega, by omega⟩
  simp only [dF.j0]
  refine vp ?_ (vs _)
  rw [he]; rfl
 have hb : ((l.length : Int) == 0) = false := by simp at he ⊢; exact he
 rw [hb]
 by_cases hlt : p < (l.length : Int)
 ·
  have hv := tmod_in (acD hl p).1 hn
  have hr : wrap64 (rd l p) = rd l p := by have := acD hl p; exact bf (by omega) (by omega)
  refine ⟨Int.tmod (rd l p) n, vn (by omega) (vc ?_), hv.1, hv.2⟩
  simp only [dF.j0, hw2, hr]
  exact vn (by simp) (vp hlt (vp h0 (vn (by omega) (vs _))))
 ·
  have hq := tmod_in h0 (b := (l.length : Int)) (by omega)
  have hm : wrap64 (wrap64 (p * 7) + 3) = p * 7 + 3 := by rw [bf (x := p * 7) (by omega) (by omega), bf (by omega) (by omega)]
  have hq2 := tmod_in (a := p * 7 + 3) (by omega) (b := (l.length : Int)) (by omega)
  have r1 := acD hl (Int.tmod p l.length)
  have r2 := acD hl (Int.tmod (p * 7 + 3) l.length)
  generalize hA : rd l (Int.tmod p l.length) = A at r1
  generalize hB : rd l (Int.tmod (p * 7 + 3) l.length) = B at r2
  have hd : 0 ≤ Int.tdiv p l.length ∧ Int.tdiv p l.length ≤ p := by
   rw [Int.tdiv_eq_ediv_of_nonneg h0]
   refine ⟨Int.ediv_nonneg h0 (by omega), Int.ediv_le_self _ h0⟩
  generalize hD : Int.tdiv p l.length = D at hd
  have w1 : wrap64 A = A := bf (by omega) (by omega)
  have w2 : wrap64 B = B := bf (by omega) (by omega)
  have w3 : wrap64 (A * 131) = A * 131 := bf (by omega) (by omega)
  have w4 : wrap64 (B * 1117) = B * 1117 := bf (by omega) (by omega)
  have w5 : wrap64 (A * 131 + B * 1117) = A * 131 + B * 1117 := bf (by omega) (by omega)
  have w6 : wrap64 (p * 29) = p * 29 := bf (by omega) (by omega)
  have w7 : wrap64 (A * 131 + B * 1117 + p * 29) = A * 131 + B * 1117 + p * 29 := bf (by omega) (by omega)
  have w8 : wrap64 D = D := bf (by omega) (by omega)
  have w9 : wrap64 (D * 53) = D * 53 := bf (by omega) (by omega)
  have w10 : wrap64 (A * 131 + B * 1117 + p * 29 + D * 53) = A * 131 + B * 1117 + p * 29 + D * 53 := bf (by omega) (by omega)
  have hX : 0 ≤ A * 131 + B * 1117 + p * 29 + D * 53 ∧ A * 131 + B * 1117 + p * 29 + D * 53 < 9223372036854775808 := by omega
  generalize hXX : A * 131 + B * 1117 + p * 29 + D * 53 = X at hX w10
  have hX2 : 0 ≤ Int.tdiv X 64 ∧ Int.tdiv X 64 ≤ X := by
   rw [Int.tdiv_eq_ediv_of_nonneg hX.1]
   refine ⟨Int.ediv_nonneg hX.1 (by omega), Int.ediv_le_self _ hX.1⟩
  have U2 : wrap64 (Int.tdiv X 64) = Int.tdiv X 64 := bf (by omega) (by omega)
  have aBr : 0 ≤ Go.bits .xor .i64 X (Int.tdiv X 64) := by
   obtain ⟨a, ha⟩ := Int.eq_ofNat_of_zero_le hX.1
   obtain ⟨b, hb⟩ := Int.eq_ofNat_of_zero_le hX2.1
   rw [hb, ha, Z4 _ _ (by omega) (by omega)]
   omega
  have hv := tmod_in aBr hn
  refine ⟨Int.tmod (Go.bits .xor .i64 X (Int.tdiv X 64)) n, vn (by omega) (vc ?_), hv.1, hv.2⟩
  simp only [dF.j0, hw2, hm, hA, hB, hD, w1, w2, w3, w4, w5, w6, w7, w8, w9, hXX, w10, U2]
  exact vn (by simp) (vn hlt (vn he (vp hq.1 (vp hq.2 (vp hq2.1 (vp hq2.2 (vn (by omega) (vs _))))))))
theorem Yl {l : List Int} (h : ∀ x ∈ l, (Lit.int .u8 x).wf = true) (n : Nat) (hn : (l.take n).length ≤ 2000) : IsB (l.take n) := by
 refine ⟨hn, fun x hx => ?_⟩
 have := h x (List.mem_of_mem_take hx)
 simp [Lit.wf, IntKind.min, IntKind.max, IntKind.bits, IntKind.signed] at this
 omega
theorem awZ (l : List Int) (p : Int) (ws : List ByteArray) (hl : IsB l) (h0 : 0 ≤ p) (h1 : p ≤ 1000000000) (hn : 1 ≤ ws.length) (hn2 : ws.length ≤ 1000000) :
  ∃ v, Ev (fun k => fV.f k l p ws) (v, p + 1) ∧ v ∈ ws := by
 obtain ⟨i, hi, i0, i1⟩ := H6 l p ws.length hl h0 h1 (by omega) (by omega)
 have hlt : i.toNat < ws.length := by omega
 refine ⟨qg ByteArray.empty ws i, ?_, ?_⟩
 ·
  unfold fV.f
  exact vb hi (vp i0 (vp i1 (vs _)))
 ·
  unfold qg
  rw [List.getD_eq_getElem?_getD, List.getElem?_eq_getElem hlt]
  exact List.getElem_mem hlt
theorem WC (l : List Int) (p : Int) (ws : List Int) (hl : IsB l) (h0 : 0 ≤ p) (h1 : p ≤ 1000000000) (hn : 1 ≤ ws.length) (hn2 : ws.length ≤ 1000000) :
  ∃ v, Ev (fun k => kW.f k l p ws) (v, p + 1) ∧ v ∈ ws := by
 obtain ⟨i, hi, i0, i1⟩ := H6 l p ws.length hl h0 h1 (by omega) (by omega)
 have hlt : i.toNat < ws.length := by omega
 refine ⟨rd ws i, ?_, ?_⟩
 ·
  unfold kW.f
  exact vb hi (vp i0 (vp i1 (vs _)))
 ·
  unfold rd
  rw [List.getD_eq_getElem?_getD, List.getElem?_eq_getElem hlt]
  exact List.getElem_mem hlt
theorem ajj (l : List Int) (h : ∀ x ∈ l, (Lit.int .u8 x).wf = true) : ∃ l', uY.f l = some (l', 0) ∧ IsB l' := by
 unfold uY.f
 by_cases hc : (l.length : Int) > 2000
 ·
  refine ⟨l.take 2000, ?_, Yl h 2000 (by rw [List.length_take]; omega)⟩
  rw [if_pos hc, if_pos (by omega)]
 ·
  refine ⟨l, by rw [if_neg hc], ?_⟩
  have := Yl h l.length (by rw [List.take_length]; omega)
  rwa [List.take_length] at this
theorem H7 {n : Int} {ws : List Int} (h : n ∈ ws) (m : Nat) (hm : ∀ x ∈ ws, 0 ≤ x ∧ x ≤ (m : Int)) : ∃ k : Nat, n = (k : Int) ∧ k ≤ m := by
 have := hm n h
 exact ⟨n.toNat, by omega, by omega⟩
theorem RJ {ps p r : List (List Str)} {c : List Str} (h : ps = p ++ c :: r) : zy (ps.map (List.map bD)) (p.length : Int) = c.map bD := by
 unfold zy
 rw [List.getD_eq_getElem?_getD, h]
 simp
/-- How many lines there are, one more counted for each part. -/
def tl : List (List Str) → Nat
 | [] => 0
 | c :: r => c.length + 1 + tl r
theorem Ef (a b : List (List Str)) : tl (a ++ b) = tl a + tl b := by
 induction a with
 | nil => simp [tl]
 | cons c a ih => simp only [List.cons_append, tl, ih]; omega
theorem WE (a : List (List Str)) : a.length ≤ tl a := by
 induction a with
 | nil => simp [tl]
 | cons c a ih => simp only [List.length_cons, tl]; omega
theorem apc {a : List (List Str)} {c : List Str} (h : c ∈ a) : c.length ≤ tl a := by
 induction a with
 | nil => cases h
 | cons d a ih =>
  simp only [tl]
  rcases List.mem_cons.mp h with rfl | h
  ·
   omega
  ·
   have := ih h; omega
/-! Letters and digits, boundaries: the model. -/
def Jo (c : UInt8) : Bool := decide (97 ≤ (c.toNat : Int) ∧ (c.toNat : Int) ≤ 122) || decide (65 ≤ (c.toNat : Int) ∧ (c.toNat : Int) ≤ 90)
def adB (c : UInt8) : Bool := decide (48 ≤ (c.toNat : Int) ∧ (c.toNat : Int) ≤ 57)
def CU (c : UInt8) : Bool := Jo c || adB c
def GK (l : Str) : Bool := decide (1 ≤ l.length) && decide (l.length ≤ 20) && l.all CU
theorem RN {l : Str} (h : GK l = true) : l.length ≤ 20 := by
 unfold GK at h; simp at h; exact h.1.2
theorem zO (c : UInt8) : bP.f (c.toNat : Int) = some (Jo c) := by
 unfold bP.f Jo
 by_cases h1 : 97 ≤ (c.toNat : Int) <;> by_cases h2 : (c.toNat : Int) ≤ 122 <;> by_cases h3 : 65 ≤ (c.toNat : Int) <;> by_cases h4 : (c.toNat : Int) ≤ 90 <;> simp [h1, h2, h3, h4]
theorem FD (c : UInt8) : dO.f (c.toNat : Int) = some (adB c) := by
 unfold dO.f adB
 by_cases h1 : 48 ≤ (c.toNat : Int) <;> by_cases h2 : (c.toNat : Int) ≤ 57 <;> simp [h1, h2]
theorem uN (c : UInt8) : iq.f (c.toNat : Int) = some (CU c) := by
 unfold iq.f CU Jo adB
 by_cases h1 : 97 ≤ (c.toNat : Int) <;> by_cases h2 : (c.toNat : Int) ≤ 122 <;> by_cases h3 : 65 ≤ (c.toNat : Int) <;> by_cases h4 : (c.toNat : Int) ≤ 90 <;> by_cases h5 : 48 ≤ (c.toNat : Int) <;> by_cases h6 : (c.toNat : Int) ≤ 57 <;> simp [h1, h2, h3, h4, h5, h6]
/-! Atoms: the model. -/
def RP : Str := [33, 35, 36, 37, 38, 39, 42, 43, 45, 47, 61, 63, 94, 95, 96, 123, 124, 125, 126]
def xA (c : UInt8) : Bool := CU c || decide (c ∈ RP)
def RQ (l : Str) : Bool := decide (1 ≤ l.length) && decide (l.length ≤ 40) && l.all xA
theorem RS {p : UInt8 → Prop} (h : ∀ n : Nat, n < 256 → p (UInt8.ofNat n)) (c : UInt8) : p c := by
 have := h c.toNat c.toNat_lt
 rwa [UInt8.ofNat_toNat] at this
theorem yj (c : UInt8) : lS.f (c.toNat : Int) = some (xA c) := by
 revert c
 exact RS (by decide +kernel)
theorem Bg (l : Str) (hl : l.length ≤ 1000000000000000) : Ev (fun k => dX.f k (bD l)) (l.all xA) := by
 unfold dX.f
 rw [ay]
 refine vq (qh (xs := l) (F := fun k (_ : Unit) i => dX.l0 k (bD l) (l.length : Int) i) (st := fun _ c => if xA c = true then .inr () else .inl false) (fin := fun _ => true) (s := ()) (fun _ _ => True) trivial ?_ ?_) ?_
 ·
  intro p c r s h _
  have hz := jc h
  have e1 := jL h
  have w1 : wrap64 ((p.length : Int) + 1) = (p.length : Int) + 1 := bf (by omega) (by omega)
  simp only [dX.l0, e1, w1, ay]
  clear w1 e1
  cases e : xA c with
  | true =>
   simp only [if_true]
   refine ⟨(fun v hv => by cases hv), fun s' hs => ⟨trivial, fun v hv => ?_⟩⟩
   refine vp (by omega) (vp (by omega) (vp (by omega) (jB (yj c) (vp e hv))))
  | false =>
   refine ⟨(fun v hv => ?_), fun s' hs => by simp at hs⟩
   simp only [Bool.false_eq_true, if_false, Sum.inl.injEq] at hv
   subst hv
   refine vp (by omega) (vp (by omega) (vp (by omega) (jB (yj c) (vn (by rw [e]; simp) (vs _)))))
 ·
  intro s _
  simp only [dX.l0]
  exact vn (by omega) (vs _)
 ·
  clear hl
  induction l with
  | nil => rfl
  | cons c r ih =>
   unfold run
   cases e : xA c with
   | true => simp [e, ih]
   | false => simp [e]
theorem Mc (l : Str) (hl : l.length ≤ 1000000000000000) : Ev (fun k => qJ.f k (bD l)) (RQ l) := by
 unfold qJ.f RQ
 rw [ay]
 by_cases h1 : 1 ≤ l.length
 ·
  rw [decide_eq_true h1]
  refine vp (by omega) ?_
  by_cases h2 : l.length ≤ 40
  ·
   rw [decide_eq_true h2]
   exact vp (by omega) (vb (Bg l hl) (vs _))
  ·
   rw [decide_eq_false h2]
   exact vn (by omega) (vs _)
 ·
  rw [decide_eq_false h1]
  exact vn (by omega) (vs _)
theorem BO (c : UInt8) : Ev (fun k => jD.f k (c.toNat : Int)) (xA c) := by
 unfold jD.f
 have lit : (⟨#[33, 35, 36, 37, 38, 39, 42, 43, 45, 47, 61, 63, 94, 95, 96, 123, 124, 125, 126]⟩ : ByteArray) = bD RP := rfl
 have hlen : RP.length = 19 := rfl
 refine vq (qh (xs := RP) (F := fun k (_ : Unit) i => jD.l0 k (c.toNat : Int) i) (st := fun _ d => if c = d then .inl true else .inr ()) (fin := fun _ => CU c) (s := ()) (fun _ _ => True) trivial ?_ ?_) ?_
 ·
  intro p d r s h _
  have hz := jc h
  have e1 := jL h
  have w1 : wrap64 ((p.length : Int) + 1) = (p.length : Int) + 1 := bf (by omega) (by omega)
  simp only [jD.l0, lit, e1, w1]
  clear w1 e1
  by_cases e : c = d
  ·
   simp only [if_pos e]
   refine ⟨(fun v hv => ?_), fun s' hs => by cases hs⟩
   cases hv
   exact vp (by omega) (vp (by omega) (vp (by rw [e]) (vs _)))
  ·
   simp only [if_neg e]
   refine ⟨(fun v hv => by cases hv), fun s' hs => ⟨trivial, fun v hv => ?_⟩⟩
   exact vp (by omega) (vp (by omega) (vn (fun hh => e (UInt8.toNat_inj.mp (by omega))) hv))
 ·
  intro s _
  simp only [jD.l0]
  exact vn (by omega) (jB (uN c) (vs _))
 ·
  have key : ∀ r : Str, run (fun (_ : Unit) d => if c = d then .inl true else .inr ()) (fun _ => CU c) r () = (CU c || decide (c ∈ r)) := by
   intro r
   induction r with
   | nil => simp [run]
   | cons d r ih =>
    unfold run
    by_cases e : c = d
    ·
     simp [e]
    ·
     simp [e, ih]
  exact key RP
theorem Md (l : Str) (hl : l.length ≤ 1000000000000000) : Ev (fun k => fB.f k (bD l)) (RQ l) := by
 unfold fB.f
 have hj' : ∀ i : Int, Ev (fun k => fB.j1 k (bD l) i false) (decide (1 ≤ l.length) && decide (l.length ≤ 40)) := by
  intro i
  refine vc ?_
  simp only [fB.j1, ay]
  by_cases h1 : 1 ≤ l.length
  ·
   rw [decide_eq_true h1]
   refine vn (by simp) (vp (by omega) (vq (vs _) ?_))
   rw [Bool.true_and]
   by_cases h2 : l.length ≤ 40
   ·
    rw [decide_eq_true h2]; exact decide_eq_true (by omega)
   ·
    rw [decide_eq_false h2]; exact decide_eq_false (by omega)
  ·
   rw [decide_eq_false h1]
   exact vn (by simp) (vn (by omega) (vs _))
 refine vq (qh (xs := l) (F := fun k (_ : Nat) i => fB.l0 k (bD l) i) (st := fun n c => if n ≤ 40 then (if xA c = true then .inr (n + 1) else .inl false) else .inl (decide (1 ≤ l.length) && decide (l.length ≤ 40))) (fin := fun _ => decide (1 ≤ l.length) && decide (l.length ≤ 40)) (s := 0) (fun p n => n = p.length) rfl ?_ ?_) ?_
 ·
  intro p c r n h hn
  subst hn
  have hz := jc h
  have e1 := jL h
  have w1 : wrap64 ((p.length : Int) + 1) = (p.length : Int) + 1 := bf (by omega) (by omega)
  by_cases h20 : p.length ≤ 40
  ·
   simp only [if_pos h20]
   have hd : decide ((p.length : Int) ≤ 40) = true := decide_eq_true (by omega)
   simp only [fB.l0, hd, ay]
   cases e : xA c with
   | true =>
    simp only [if_true]
    refine ⟨(fun v hv => by cases hv), fun s' hs => ⟨?_, fun v hv => ?_⟩⟩
    ·
     cases hs; simp
    ·
     refine vp (by omega) (vc ?_)
     simp only [fB.j1, e1, w1, ay]
     clear w1 e1
     exact vp trivial (vp (by omega) (vp (by omega) (vb (BO c) (vp e hv))))
   | false =>
    refine ⟨(fun v hv => ?_), fun s' hs => by simp at hs⟩
    simp only [Bool.false_eq_true, if_false, Sum.inl.injEq] at hv
    subst hv
    refine vp (by omega) (vc ?_)
    simp only [fB.j1, e1, w1, ay]
    clear w1 e1
    exact vp trivial (vp (by omega) (vp (by omega) (vb (BO c) (vn (by rw [e]; simp) (vs _)))))
  ·
   simp only [if_neg h20]
   have hd : decide ((p.length : Int) ≤ 40) = false := decide_eq_false (by omega)
   refine ⟨(fun v hv => ?_), fun s' hs => by cases hs⟩
   cases hv
   simp only [fB.l0, hd, ay]
   clear w1 e1
   exact vp (by omega) (hj' _)
 ·
  intro s hs
  subst hs
  simp only [fB.l0, ay]
  exact vn (by omega) (hj' _)
 ·
  unfold RQ
  have key : ∀ (r : Str) (n : Nat), n + r.length = l.length → run (fun n c => if n ≤ 40 then (if xA c = true then .inr (n + 1) else .inl false) else .inl (decide (1 ≤ l.length) && decide (l.length ≤ 40))) (fun _ => decide (1 ≤ l.length) && decide (l.length ≤ 40)) r n = (decide (1 ≤ l.length) && decide (l.length ≤ 40) && r.all xA) := by
   intro r
   induction r with
   | nil => intro n _; simp [run]
   | cons c r ih =>
    intro n hn
    simp only [List.length_cons] at hn
    unfold run
    by_cases h20 : n ≤ 40
    ·
     simp only [if_pos h20]
     cases e : xA c with
     | true => simp [e, ih (n + 1) (by omega)]
     | false => simp [e]
    ·
     simp only [if_neg h20]
     have : decide (l.length ≤ 40) = false := decide_eq_false (by omega)
     simp [this]
  exact key l 0 (by omega)
/-! Names, small letters: the model. -/
def WG (c : UInt8) : Bool := CU c || decide (c = 45)
def Ik (l : Str) : Bool := decide (l.length ≤ 30) && (match l with
 | [] => false
 | c :: _ => Jo c) && l.all WG
def aw0 (c : UInt8) : UInt8 := if 65 ≤ c ∧ c ≤ 90 then c + 32 else c
def low (l : Str) : Str := l.map aw0
def isSmall (l : Str) : Bool := Ik l && decide (low l = l)
theorem Ym {l : Str} (h : Ik l = true) : l.length ≤ 30 := by
 unfold Ik at h; simp at h; exact h.1.1
theorem H8 (a b : Str) : (a == b) = decide (a = b) := by
 rw [Bool.eq_iff_iff]; simp
theorem agO (c : UInt8) : Tf (c.toNat : Int) = ((aw0 c).toNat : Int) := by
 revert c
 exact RS (by decide +kernel)
theorem agP (l : Str) : (zn l).map Tf = zn (low l) := by
 unfold zn low
 rw [List.map_map, List.map_map]
 exact List.map_congr_left (fun c _ => agO c)
theorem Dv (l : Str) : (low l).length = l.length := by unfold low; simp
theorem nK (l : Str) (hl : l.length ≤ 140737488355328) : jg.f (bD l) = some (bD (low l)) := by
 unfold jg.f
 rw [ay, if_pos hl, Pj, agP, zl]
theorem nM (l : Str) (hl : l.length ≤ 140737488355328) : iK.f (bD l) = some (bD (low l)) := by
 unfold iK.f
 rw [ay, if_pos hl, Pj, agP, zl]
theorem Oc (a b : Str) (ha : a.length ≤ 140737488355328) (hb : b.length ≤ 140737488355328) : uq.f (bD a) (bD b) = some (decide (low a = low b)) := by
 unfold uq.f
 rw [nK a ha, nK b hb]
 simp only [Option.bind_some, m_, H8]
theorem Oe (a b : Str) (ha : a.length ≤ 140737488355328) (hb : b.length ≤ 140737488355328) : rU.f (bD a) (bD b) = some (decide (low a = low b)) := by
 unfold rU.f
 rw [nM a ha, nM b hb]
 simp only [Option.bind_some, m_, H8]
theorem Eh (c : UInt8) : rV.f (c.toNat : Int) = some (WG c) := by
 unfold rV.f WG CU
 rw [zO, FD]
 have := yM c 45 (by omega)
 by_cases e : c = 45
 ·
  have h2 := this.mpr e
  cases Jo c <;> cases adB c <;> simp [e, h2]
 ·
  have h2 : ¬ (c.toNat : Int) = 45 := fun hh => e (this.mp hh)
  cases Jo c <;> cases adB c <;> simp [e, h2]
theorem CV (l : Str) (hl : l.length ≤ 1000000000000000) : Ev (fun k => fE.f k (bD l)) (l.all WG) := by
 unfold fE.f
 rw [ay]
 refine vq (qh (xs := l) (F := fun k (_ : Unit) i => fE.l0 k (bD l) (l.length : Int) i) (st := fun _ c => if WG c = true then .inr () else .inl false) (fin := fun _ => true) (s := ()) (fun _ _ => True) trivial ?_ ?_) ?_
 ·
  intro p c r s h _
  have hz := jc h
  have e1 := jL h
  have w1 : wrap64 ((p.length : Int) + 1) = (p.length : Int) + 1 := bf (by omega) (by omega)
  simp only [fE.l0, e1, w1, ay]
  clear w1 e1
  cases e : WG c with
  | true =>
   simp only [if_true]
   refine ⟨(fun v hv => by cases hv), fun s' hs => ⟨trivial, fun v hv => ?_⟩⟩
   refine vp (by omega) (vp (by omega) (vp (by omega) (jB (Eh c) (vp e hv))))
  | false =>
   refine ⟨(fun v hv => ?_), fun s' hs => by simp at hs⟩
   simp only [Bool.false_eq_true, if_false, Sum.inl.injEq] at hv
   subst hv
   refine vp (by omega) (vp (by omega) (vp (by omega) (jB (Eh c) (vn (by rw [e]; simp) (vs _)))))
 ·
  intro s _
  simp only [fE.l0]
  exact vn (by omega) (vs _)
 ·
  clear hl
  induction l with
  | nil => rfl
  | cons c r ih =>
   unfold run
   cases e : WG c with
   | true => simp [e, ih]
   | false => simp [e]
theorem GL (l : Str) (hl : l.length ≤ 1000000000000000) : Ev (fun k => jE.f k (bD l)) (Ik l) := by
 unfold jE.f Ik
 rw [ay]
 cases l with
 | nil => exact vn (by simp) (vs _)
 | cons c r =>
  simp only [acE]
  refine vp (by simp only [List.length_cons]; omega) ?_
  by_cases h2 : (c :: r).length ≤ 30
  ·
   rw [decide_eq_true h2]
   refine vp (by omega) (vp (by simp) (jB (zO c) ?_))
   cases e : Jo c with
   | true => exact vp rfl (vb (CV (c :: r) hl) (vs _))
   | false => exact vn (by simp) (vs _)
  ·
   rw [decide_eq_false h2]
   exact vn (by omega) (vs _)
theorem xG (l : Str) (hl : l.length ≤ 140737488355328) : Ev (fun k => ig.f k (bD l)) (isSmall l) := by
 unfold ig.f isSmall
 refine vb (GL l (by omega)) ?_
 cases e : Ik l with
 | true =>
  refine vp rfl (jB (nK l hl) (vq (vs _) ?_))
  simp only [m_, H8, Bool.true_and]
 | false => exact vn (by simp) (vs _)
theorem GN (l : Str) (hl : l.length ≤ 1000000000000000) : Ev (fun k => b_.f k (bD l)) (Ik l) := by
 unfold b_.f
 have hj' : ∀ i : Int, Ev (fun k => b_.j1 k (bD l) i false) (decide (1 ≤ l.length) && decide (l.length ≤ 30)) := by
  intro i
  refine vc ?_
  simp only [b_.j1, ay]
  by_cases h1 : 1 ≤ l.length
  ·
   rw [decide_eq_true h1]
   refine vn (by simp) (vp (by omega) (vq (vs _) ?_))
   rw [Bool.true_and]
   by_cases h2 : l.length ≤ 30
   ·
    rw [decide_eq_true h2]; exact decide_eq_true (by omega)
   ·
    rw [decide_eq_false h2]; exact decide_eq_false (by omega)
  ·
   rw [decide_eq_false h1]
   exact vn (by simp) (vn (by omega) (vs _))
 refine vq (qh (xs := l) (F := fun k (_ : Nat) i => b_.l0 k (bD l) i) (st := fun n c => if n ≤ 30 then (if WG c = true then (if n = 0 then (if Jo c = true then .inr (n + 1) else .inl false) else .inr (n + 1)) else .inl false) else .inl (decide (1 ≤ l.length) && decide (l.length ≤ 30))) (fin := fun _ => decide (1 ≤ l.length) && decide (l.length ≤ 30)) (s := 0) (fun p n => n = p.length) rfl ?_ ?_) ?_
 ·
  intro p c r n h hn
  subst hn
  have hz := jc h
  have e1 := jL h
  have w1 : wrap64 ((p.length : Int) + 1) = (p.length : Int) + 1 := bf (by omega) (by omega)
  by_cases h20 : p.length ≤ 30
  ·
   simp only [if_pos h20]
   have hd : decide ((p.length : Int) ≤ 30) = true := decide_eq_true (by omega)
   simp only [b_.l0, hd, ay]
   have h45 := yM c 45 (by omega)
   have hlet : WG c = true → (Jo c = true ↔ ¬ (c.toNat : Int) ≤ 57) := RS (p := fun c => WG c = true → (Jo c = true ↔ ¬ (c.toNat : Int) ≤ 57)) (by decide +kernel) c
   cases e : WG c with
   | true =>
    have hlt := hlet e
    have go : ∀ v, Ev (fun k => if (p.length : Int) = 0 then (if (c.toNat : Int) ≤ 57 then some false else b_.l0 k (bD l) ((p.length : Int) + 1)) else b_.l0 k (bD l) ((p.length : Int) + 1)) v → Ev (fun k => if (p.length : Int) < (l.length : Int) then b_.j1 (k + 0) (bD l) (p.length : Int) true else b_.j1 (k + 0) (bD l) (p.length : Int) false) v := by
     intro v hv
     refine vp (by omega) (vc ?_)
     simp only [b_.j1, e1, w1, ay]
     clear w1 e1
     refine vp trivial (vp (by omega) (vp (by omega) (jB (uN c) ?_)))
     cases ea : CU c with
     | true => exact vp rfl hv
     | false =>
      have : c = 45 := by
       unfold WG at e
       rw [ea, Bool.false_or] at e
       exact of_decide_eq_true e
      exact vn (by simp) (vp (h45.mpr this) hv)
    simp only [if_true]
    by_cases h0 : p.length = 0
    ·
     simp only [if_pos h0]
     by_cases hL : Jo c = true
     ·
      simp only [if_pos hL]
      refine ⟨(fun v hv => by cases hv), fun s' hs => ⟨?_, fun v hv => ?_⟩⟩
      ·
       cases hs; simp
      ·
       exact go v (vp (by omega) (vn (hlt.mp hL) hv))
     ·
      simp only [if_neg hL]
      refine ⟨(fun v hv => ?_), fun s' hs => by cases hs⟩
      cases hv
      exact go false (vp (by omega) (vp (Decidable.not_not.mp (fun hh => hL (hlt.mpr hh))) (vs _)))
    ·
     simp only [if_neg h0]
     refine ⟨(fun v hv => by cases hv), fun s' hs => ⟨?_, fun v hv => ?_⟩⟩
     ·
      cases hs; simp
     ·
      exact go v (vn (by omega) hv)
   | false =>
    refine ⟨(fun v hv => ?_), fun s' hs => by simp at hs⟩
    simp only [Bool.false_eq_true, if_false, Sum.inl.injEq] at hv
    subst hv
    refine vp (by omega) (vc ?_)
    simp only [b_.j1, e1, w1, ay]
    clear w1 e1
    unfold WG at e
    rw [Bool.or_eq_false_iff] at e
    exact vp trivial (vp (by omega) (vp (by omega) (jB (uN c) (vn (by rw [e.1]; simp) (vn (fun hh => (of_decide_eq_false e.2) (h45.mp hh)) (vs _))))))
  ·
   simp only [if_neg h20]
   have hd : decide ((p.length : Int) ≤ 30) = false := decide_eq_false (by omega)
   refine ⟨(fun v hv => ?_), fun s' hs => by cases hs⟩
   cases hv
   simp only [b_.l0, hd, ay]
   clear w1 e1
   exact vp (by omega) (hj' _)
 ·
  intro s hs
  subst hs
  simp only [b_.l0, ay]
  exact vn (by omega) (hj' _)
 ·
  have key : ∀ (r : Str) (n : Nat), 1 ≤ n → n + r.length = l.length → run (fun n c => if n ≤ 30 then (if WG c = true then (if n = 0 then (if Jo c = true then .inr (n + 1) else .inl false) else .inr (n + 1)) else .inl false) else .inl (decide (1 ≤ l.length) && decide (l.length ≤ 30))) (fun _ => decide (1 ≤ l.length) && decide (l.length ≤ 30)) r n = (decide (l.length ≤ 30) && r.all WG) := by
   intro r
   induction r with
   | nil => intro n h1 h2; have : decide (1 ≤ l.length) = true := decide_eq_true (by simp at h2; omega); simp only [run, this]; simp
   | cons c r ih =>
    intro n h1 hn
    simp only [List.length_cons] at hn
    unfold run
    have h1l : decide (1 ≤ l.length) = true := decide_eq_true (by omega)
    by_cases h20 : n ≤ 30
    ·
     simp only [if_pos h20, if_neg (show ¬ n = 0 by omega)]
     cases e : WG c with
     | true => simp [e, ih (n + 1) (by omega) (by omega)]
     | false => simp [e]
    ·
     simp only [if_neg h20]
     have : decide (l.length ≤ 30) = false := decide_eq_false (by omega)
     simp [this]
  cases l with
  | nil => simp [run, Ik]
  | cons c r =>
   unfold run Ik
   have hc := key r 1 (by omega) (by simp; omega)
   simp only [if_pos (show (0 : Nat) ≤ 30 by omega), if_true]
   cases e : WG c with
   | true =>
    cases e2 : Jo c with
    | true => simp only [if_true]; rw [hc]; simp [e]
    | false => simp
   | false => simp [e]
theorem BP (l : Str) (hl : l.length ≤ 140737488355328) : Ev (fun k => lG.f k (bD l)) (isSmall l) := by
 unfold lG.f isSmall
 refine vb (GN l (by omega)) ?_
 cases e : Ik l with
 | true =>
  refine vp rfl (jB (nM l hl) (vq (vs _) ?_))
  simp only [m_, H8, Bool.true_and]
 | false => exact vn (by simp) (vs _)
/-! The place of a name. -/
def fidx (n : Str) : List (Str × Str) → Nat → Int
 | [], _ => -1
 | c :: r, i => if low c.1 = low n then (i : Int) else fidx n r (i + 1)
def small (ls : List (Str × Str)) : Prop := ∀ x ∈ ls, x.1.length ≤ 1048576 ∧ x.2.length ≤ 1048576
theorem Ei {ls : List (Str × Str)} (h : BA ls ≤ 1048576) : small ls := fun x hx => by
 have := ajh hx
 exact ⟨by omega, by omega⟩
theorem Jp (n : Str) (r : List (Str × Str)) : ∀ i : Nat, fidx n r i = -1 ∨ ((i : Int) ≤ fidx n r i ∧ fidx n r i < i + r.length) := by
 induction r with
 | nil => intro i; exact Or.inl rfl
 | cons c r ih =>
  intro i
  unfold fidx
  split
  ·
   right; simp only [List.length_cons]; omega
  ·
   rcases ih (i + 1) with h | ⟨h1, h2⟩
   ·
    exact Or.inl h
   ·
    right; simp only [List.length_cons]; omega
theorem Yn (n : Str) (r : List (Str × Str)) : ∀ i : Nat, run (fun (i : Nat) (c : Str × Str) => if low c.1 = low n then .inl (i : Int) else .inr (i + 1)) (fun _ => (-1 : Int)) r i = fidx n r i := by
 induction r with
 | nil => intro i; rfl
 | cons c r ih =>
  intro i
  unfold run fidx
  by_cases e : low c.1 = low n
  ·
   simp only [if_pos e]
  ·
   simp only [if_neg e, ih]
theorem GR (ls : List (Str × Str)) (n : Str) (hs : small ls) (hn : n.length ≤ 1048576) (hl : ls.length ≤ 1048576) : Ev (fun k => kG.f k (ls.map uw) (bD n)) (fidx n ls 0) := by
 unfold kG.f
 refine vq (qh (xs := ls) (F := fun k (_ : Nat) i => kG.l0 k (ls.map uw) (bD n) i) (st := fun i c => if low c.1 = low n then .inl (i : Int) else .inr (i + 1)) (fin := fun _ => (-1 : Int)) (s := 0) (fun p i => i = p.length) rfl ?_ ?_) (Yn n ls 0)
 ·
  intro p c r i h hi
  subst hi
  have hz := jc h
  have e1 := wQ h
  have hc := hs c (by rw [h]; simp)
  have w1 : wrap64 ((p.length : Int) + 1) = (p.length : Int) + 1 := bf (by omega) (by omega)
  have hq := Oe c.1 n (by omega) (by omega)
  simp only [kG.l0, e1, w1, List.length_map, uw, hq]
  clear w1 e1
  by_cases e : low c.1 = low n
  ·
   simp only [if_pos e]
   refine ⟨(fun v hv => ?_), fun s' hs => by cases hs⟩
   cases hv
   exact vp (by omega) (vp (by omega) (jB rfl (vp (decide_eq_true e) (vs _))))
  ·
   simp only [if_neg e]
   refine ⟨(fun v hv => by cases hv), fun s' hs => ⟨?_, fun v hv => ?_⟩⟩
   ·
    cases hs; simp
   ·
    exact vp (by omega) (vp (by omega) (jB rfl (vn (by simp [e]) hv)))
 ·
  intro s _
  simp only [kG.l0, List.length_map]
  exact vn (by omega) (vs _)
theorem BQ (ls : List (Str × Str)) (n : Str) (hs : small ls) (hn : n.length ≤ 1048576) (hl : ls.length ≤ 1048576) : Ev (fun k => lQ.f k (ls.map uw) (bD n)) (fidx n ls 0) := by
 unfold lQ.f fJ.f
 refine vb ?_ (vs _)
 rw [List.length_map]
 refine vq (qh (xs := ls) (F := fun k (_ : Nat) i => fJ.l0 k (ls.map uw) (ls.length : Int) i (bD n)) (st := fun i c => if low c.1 = low n then .inl (i : Int) else .inr (i + 1)) (fin := fun _ => (-1 : Int)) (s := 0) (fun p i => i = p.length) rfl ?_ ?_) (Yn n ls 0)
 ·
  intro p c r i h hi
  subst hi
  have hz := jc h
  have e1 := wQ h
  have hc := hs c (by rw [h]; simp)
  have w1 : wrap64 ((p.length : Int) + 1) = (p.length : Int) + 1 := bf (by omega) (by omega)
  have hq := Oc c.1 n (by omega) (by omega)
  simp only [fJ.l0, oW.f, e1, w1, List.length_map, uw, hq, Option.bind_some]
  clear w1 e1
  by_cases e : low c.1 = low n
  ·
   simp only [if_pos e]
   refine ⟨(fun v hv => ?_), fun s' hs => by cases hs⟩
   cases hv
   exact vp (by omega) (vp (by omega) (vp (by omega) (vp (decide_eq_true e) (vs _))))
  ·
   simp only [if_neg e]
   refine ⟨(fun v hv => by cases hv), fun s' hs => ⟨?_, fun v hv => ?_⟩⟩
   ·
    cases hs; simp
   ·
    exact vp (by omega) (vp (by omega) (vp (by omega) (vn (by simp [e]) hv)))
 ·
  intro s _
  simp only [fJ.l0]
  exact vn (by omega) (vs _)
/-! Texts: the model. -/
def okB (c : UInt8) : Bool := 32 ≤ c && c ≤ 126
def lX (l : Str) : Bool := l.all okB && decide (l.length ≤ 200)
theorem agQ (c : UInt8) (h : (c.toNat : Int) < 32) : okB c = false := by
 have : c < 32 := (aw1 c 32 (by omega)).mp h
 unfold okB
 simp [UInt8.le_iff_toNat_le, UInt8.lt_iff_toNat_lt] at this ⊢
 omega
theorem agR (c : UInt8) (h : (c.toNat : Int) > 126) : okB c = false := by
 unfold okB
 simp [UInt8.le_iff_toNat_le, UInt8.lt_iff_toNat_lt]
 omega
theorem acF (c : UInt8) (h : ¬ (c.toNat : Int) < 32) (h2 : ¬ (c.toNat : Int) > 126) : okB c = true := by
 unfold okB
 simp [UInt8.le_iff_toNat_le, UInt8.lt_iff_toNat_lt]
 omega
theorem Jq {l : Str} (h : lX l = true) : l.length ≤ 200 := by
 unfold lX at h; simp at h; exact h.2
theorem Il (l : Str) (hl : l.length ≤ 1000000000000000) (r : Str) : ∀ (p : Str), l = p ++ r → Ev (fun k => bI.l0 k (bD l) (l.length : Int) (p.length : Int)) (r.all okB && decide (l.length ≤ 200)) := by
 induction r with
 | nil =>
  intro p h
  have hz : l.length = p.length := by rw [h, List.append_nil]
  refine vc ?_
  simp only [bI.l0, ay]
  repeat (first | refine vp (by first | assumption | omega | decide) ?_ | refine vn (by first | assumption | omega | decide) ?_)
  exact vq (vs _) (by simp; omega)
 | cons c r ih =>
  intro p h
  have hz : l.length = p.length + (r.length + 1) := by rw [h]; simp
  have e1 : bt (bD l) (p.length : Int) = (c.toNat : Int) := by rw [h]; exact Z5 p r c
  have := ih (p ++ [c]) (by rw [h]; simp)
  rw [nY] at this
  refine vc ?_
  simp (disch := omega) only [bI.l0, ay, e1, bf]
  by_cases h1 : (c.toNat : Int) < 32
  ·
   repeat (first | refine vp (by first | assumption | omega | decide) ?_ | refine vn (by first | assumption | omega | decide) ?_)
   exact vq (vs _) (by simp [agQ c h1])
  ·
   by_cases h2 : (c.toNat : Int) > 126
   ·
    repeat (first | refine vp (by first | assumption | omega | decide) ?_ | refine vn (by first | assumption | omega | decide) ?_)
    exact vq (vs _) (by simp [agR c h2])
   ·
    repeat (first | refine vp (by first | assumption | omega | decide) ?_ | refine vn (by first | assumption | omega | decide) ?_)
    exact vq this (by simp [acF c h1 h2])
theorem qQ (l : Str) (hl : l.length ≤ 1000000000000000) : Ev (fun k => bI.f k (bD l)) (lX l) := by
 unfold bI.f
 rw [ay]
 exact Il l hl l [] rfl
theorem Io (l : Str) (hl : l.length ≤ 1000000000000000) (r : Str) : ∀ (p : Str), l = p ++ r → Ev (fun k => aQ.l0 k (bD l) (p.length : Int)) (r.all okB && decide (l.length ≤ 200)) := by
 induction r with
 | nil =>
  intro p h
  have hz : l.length = p.length := by rw [h, List.append_nil]
  refine vc ?_
  simp only [aQ.l0, ay]
  repeat (first | refine vp (by first | assumption | omega | decide) ?_ | refine vn (by first | assumption | omega | decide) ?_)
  refine vc ?_
  simp only [aQ.j1, ay]
  repeat (first | refine vp (by first | assumption | omega | decide) ?_ | refine vn (by first | assumption | omega | decide) ?_)
  exact vq (vs _) (by simp; omega)
 | cons c r ih =>
  intro p h
  have hz : l.length = p.length + (r.length + 1) := by rw [h]; simp
  have e1 : bt (bD l) (p.length : Int) = (c.toNat : Int) := by rw [h]; exact Z5 p r c
  have := ih (p ++ [c]) (by rw [h]; simp)
  rw [nY] at this
  by_cases h0 : (p.length : Int) ≤ 200
  ·
   refine vc ?_
   simp only [aQ.l0, ay]
   repeat (first | refine vp (by first | assumption | omega | decide) ?_ | refine vn (by first | assumption | omega | decide) ?_)
   refine vc ?_
   simp (disch := omega) only [aQ.j1, ay, e1, bf, decide_eq_true h0]
   by_cases h1 : (c.toNat : Int) < 32
   ·
    repeat (first | refine vp (by first | assumption | omega | decide) ?_ | refine vn (by first | assumption | omega | decide) ?_)
    exact vq (vs _) (by simp [agQ c h1])
   ·
    by_cases h2 : (c.toNat : Int) > 126
    ·
     repeat (first | refine vp (by first | assumption | omega | decide) ?_ | refine vn (by first | assumption | omega | decide) ?_)
     exact vq (vs _) (by simp [agR c h2])
    ·
     repeat (first | refine vp (by first | assumption | omega | decide) ?_ | refine vn (by first | assumption | omega | decide) ?_)
     exact vq this (by simp [acF c h1 h2])
  ·
   refine vc ?_
   simp only [aQ.l0, ay]
   repeat (first | refine vp (by first | assumption | omega | decide) ?_ | refine vn (by first | assumption | omega | decide) ?_)
   refine vc ?_
   simp only [aQ.j1, ay, decide_eq_false h0]
   repeat (first | refine vp (by first | assumption | omega | decide) ?_ | refine vn (by first | assumption | omega | decide) ?_)
   have d1 : decide ((l.length : Int) ≤ 200) = false := decide_eq_false (by omega)
   have d2 : decide (l.length ≤ 200) = false := decide_eq_false (by omega)
   exact vq (vs _) (by rw [d1, d2, Bool.and_false])
theorem lU (l : Str) (hl : l.length ≤ 1000000000000000) : Ev (fun k => aQ.f k (bD l)) (lX l) := by
 unfold aQ.f
 exact Io l hl l [] rfl
/-! Words quoted. -/
def Og (c : UInt8) : Str := if c = 34 ∨ c = 92 then [92, c] else [c]
def esc : Str → Str
 | [] => []
 | c :: r => Og c ++ esc r
def quote (l : Str) : Str := 34 :: (esc l ++ [34])
def qw (l : Str) : Str := if lX l = true then (if RQ l = true then l else quote l) else []
theorem RU (a b : Str) : esc (a ++ b) = esc a ++ esc b := by
 induction a with
 | nil => rfl
 | cons c a ih => simp only [List.cons_append, esc, ih, List.append_assoc]
theorem agS (c : UInt8) : (Og c).length ≤ 2 := by unfold Og; split <;> simp
theorem Me (l : Str) : (esc l).length ≤ 2 * l.length := by
 induction l with
 | nil => simp [esc]
 | cons c r ih => have := agS c; simp only [esc, List.length_append, List.length_cons]; omega
theorem Z7 (l : Str) : (qw l).length ≤ 2 * l.length + 2 := by
 unfold qw quote
 have := Me l
 split
 ·
  split
  ·
   omega
  ·
   simp only [List.length_cons, List.length_append, List.length_nil]; omega
 ·
  simp
theorem MB (l : Str) (hl : l.length ≤ 1048576) : Ev (fun k => jh.f k (bD l)) (bD (qw l)) := by
 have key : ∀ (r p : Str), l = p ++ r → Ev (fun k => jh.l0 k (bD l) (zn (34 :: esc p)) (l.length : Int) (p.length : Int)) (bD (quote l)) := by
  intro r
  induction r with
  | nil =>
   intro p h
   rw [List.append_nil] at h
   subst h
   have h1 := Me l
   refine vc ?_
   simp only [jh.l0, Oh]
   refine vn (by omega) (vp (by simp only [List.length_cons]; omega) (vq (vs _) ?_))
   rw [show ([34] : List Int) = zn [34] from rfl, ← H9, zl]
   rfl
  | cons c r ih =>
   intro p h
   have hz := jc h
   have e1 := jL h
   have h1 := Me p
   have hh := ih (p ++ [c]) (by rw [h]; simp)
   rw [nY, RU] at hh
   have w1 : wrap64 ((p.length : Int) + 1) = (p.length : Int) + 1 := bf (by omega) (by omega)
   have RV := yM c 34 (by omega)
   have h92 := yM c 92 (by omega)
   have b1 : (34 :: esc p : Str).length < 140737488355328 := by simp only [List.length_cons]; omega
   have b2 : (34 :: esc p ++ [92] : Str).length < 140737488355328 := by simp only [List.length_cons, List.length_append, List.length_nil]; omega
   refine vc ?_
   have e92 : ([92] : List Int) = zn [92] := rfl
   have ec : ([(c.toNat : Int)] : List Int) = zn [c] := rfl
   simp only [jh.l0, e1, w1, ay, Oh, Option.bind_some, e92, ec, ← H9]
   clear w1 e1
   refine vp (by omega) (vp (by omega) (vp (by omega) ?_))
   have two : Og c = [92, c] → (34 :: esc p ++ [92]) ++ [c] = 34 :: (esc p ++ (esc [c])) := fun h => by simp [esc, h]
   have one : Og c = [c] → (34 :: esc p) ++ [c] = 34 :: (esc p ++ (esc [c])) := fun h => by simp [esc, h]
   by_cases c1 : (c.toNat : Int) = 34
   ·
    have hc : c = 34 := RV.mp c1
    refine vp c1 (vp b1 (vp b2 ?_))
    rw [two (by unfold Og; rw [if_pos (Or.inl hc)])]
    exact hh
   ·
    have hc : ¬ c = 34 := fun h => c1 (RV.mpr h)
    by_cases c2 : (c.toNat : Int) = 92
    ·
     have hc2 : c = 92 := h92.mp c2
     refine vn c1 (vp c2 (vp b1 (vp b2 ?_)))
     rw [two (by unfold Og; rw [if_pos (Or.inr hc2)])]
     exact hh
    ·
     have hc2 : ¬ c = 92 := fun h => c2 (h92.mpr h)
     refine vn c1 (vn c2 (vp b1 ?_))
     rw [one (by unfold Og; rw [if_neg (by simp [hc, hc2])])]
     exact hh
 unfold jh.f qw
 refine vb (qQ l (by omega)) ?_
 cases e1 : lX l with
 | false => exact vn (by simp) (vq (vs _) rfl)
 | true =>
  refine vp rfl (vb (Mc l (by omega)) ?_)
  cases e2 : RQ l with
  | true => exact vp rfl (vs _)
  | false =>
   have := key l [] rfl
   simp only [ay]
   exact vn (by simp) this
theorem MC (l : Str) (hl : l.length ≤ 1048576) : Ev (fun k => su.f k (bD l)) (bD (qw l)) := by
 have key : ∀ (r p : Str), l = p ++ r → Ev (fun k => kR.l0 k (bD l) (bD (34 :: esc p)) (p.length : Int)) (bD (quote l)) := by
  intro r
  induction r with
  | nil =>
   intro p h
   rw [List.append_nil] at h
   subst h
   have h1 := Me l
   refine vc ?_
   simp only [kR.l0, ay]
   refine vn (by omega) (vp (by simp only [List.length_cons]; omega) (vq (vs _) ?_))
   rw [show (⟨#[34]⟩ : ByteArray) = bD [34] from rfl, kY]
   rfl
  | cons c r ih =>
   intro p h
   have hz := jc h
   have e1 := jL h
   have h1 := Me p
   have hh := ih (p ++ [c]) (by rw [h]; simp)
   rw [nY, RU] at hh
   have w1 : wrap64 ((p.length : Int) + 1) = ((p.length + 1 : Nat) : Int) := (bf (by omega) (by omega)).trans (by omega)
   have w2 : ((p.length + 1 : Nat) : Int) = (p.length : Int) + 1 := by omega
   have RV := yM c 34 (by omega)
   have h92 := yM c 92 (by omega)
   have e3 : strOfNums ([92] : List Int) = bD [92] := zl [92]
   have e4 : (l.drop p.length).take (p.length + 1 - p.length) = [c] := by
    rw [h, List.drop_left, show p.length + 1 - p.length = 1 by omega]; rfl
   refine vc ?_
   simp only [kR.l0, e1, w1, ay, Option.bind_some, e3, Int.toNat_natCast, jV, e4, kY]
   clear w1 e1 e3 e4
   simp only [w2]
   refine vp (by omega) (vp (by omega) ?_)
   have two : Og c = [92, c] → (34 :: esc p ++ [92]) ++ [c] = 34 :: (esc p ++ (esc [c])) := fun h => by simp [esc, h]
   have one : Og c = [c] → (34 :: esc p) ++ [c] = 34 :: (esc p ++ (esc [c])) := fun h => by simp [esc, h]
   have b1 : (34 :: esc p : Str).length + ([92] : Str).length ≤ 9223372036854775807 := by simp only [List.length_cons, List.length_nil]; omega
   have b2 : (34 :: esc p ++ [92] : Str).length + ([c] : Str).length ≤ 9223372036854775807 := by simp only [List.length_cons, List.length_append, List.length_nil]; omega
   have b3 : (34 :: esc p : Str).length + ([c] : Str).length ≤ 9223372036854775807 := by simp only [List.length_cons, List.length_nil]; omega
   by_cases c1 : (c.toNat : Int) = 34
   ·
    have hc : c = 34 := RV.mp c1
    refine vp c1 (vp b1 (vp (by omega) (vp (by omega) (vp b2 ?_))))
    rw [two (by unfold Og; rw [if_pos (Or.inl hc)])]
    exact hh
   ·
    have hc : ¬ c = 34 := fun h => c1 (RV.mpr h)
    by_cases c2 : (c.toNat : Int) = 92
    ·
     have hc2 : c = 92 := h92.mp c2
     refine vn c1 (vp c2 (vp b1 (vp (by omega) (vp (by omega) (vp b2 ?_)))))
     rw [two (by unfold Og; rw [if_pos (Or.inr hc2)])]
     exact hh
    ·
     have hc2 : ¬ c = 92 := fun h => c2 (h92.mpr h)
     refine vn c1 (vn c2 (vp (by omega) (vp (by omega) (vp b3 ?_))))
     rw [one (by unfold Og; rw [if_neg (by simp [hc, hc2])])]
     exact hh
 unfold su.f qw
 refine vb (lU l (by omega)) ?_
 cases e1 : lX l with
 | false => exact vn (by simp) (vq (vs _) rfl)
 | true =>
  refine vp rfl (vb (Md l (by omega)) ?_)
  cases e2 : RQ l with
  | true => exact vp rfl (vs _)
  | false =>
   have := key l [] rfl
   unfold kR.f
   exact vn (by simp) (vb this (vs _))
/-! Kinds as texts, valid kinds. -/
def acG (p : Str × Str) : Str := [59, 32] ++ p.1 ++ [61] ++ qw p.2
def uT : List (Str × Str) → Str
 | [] => []
 | c :: r => acG c ++ uT r
def MF (a b : Str) (ps : List (Str × Str)) : Str := (a ++ [47] ++ b) ++ uT ps
def kfl (q : List (Str × Str)) : List (Str × Str) → Bool
 | [] => true
 | c :: r => isSmall c.1 && (lX c.2 && decide (c.2.length ≤ 40)) && decide (¬ (fidx c.1 q 0 ≥ 0)) && kfl (q ++ [c]) r
def wR (a b : Str) (ps : List (Str × Str)) : Bool := isSmall a && isSmall b && decide (¬ (ps.length > 4)) && kfl [] ps && decide ((MF a b ps).length ≤ 150)
theorem Uo (p : Str × Str) : (acG p).length = 3 + p.1.length + (qw p.2).length := by
 unfold acG; simp only [List.length_append, List.length_cons, List.length_nil]
 omega
theorem MG (a b : List (Str × Str)) : uT (a ++ b) = uT a ++ uT b := by
 induction a with
 | nil => rfl
 | cons c a ih => simp only [List.cons_append, uT, ih, List.append_assoc]
theorem Ur (ps : List (Str × Str)) : (uT ps).length ≤ 2 * BA ps + 5 * ps.length := by
 induction ps with
 | nil => simp [uT]
 | cons c r ih =>
  have h1 := Uo c
  have h2 := Z7 c.2
  simp only [uT, BA, List.length_append, List.length_cons]
  omega
theorem yt (a b : List (Str × Str)) : BA (a ++ b) = BA a + BA b := by
 induction a with
 | nil => simp [BA]
 | cons c a ih => simp only [List.cons_append, BA, ih]; omega
theorem RX {ls p r : List (Str × Str)} (h : ls = p ++ r) (hs : small ls) : small p := fun x hx => hs x (by rw [h]; exact List.mem_append_left _ hx)
theorem MH {ls p r : List (Str × Str)} (h : ls = p ++ r) : (ls.map uw).take p.length = p.map uw := by
 rw [h, List.map_append]
 exact List.take_left' (by simp)
theorem Oi (a b : Str) (ps : List (Str × Str)) (ha : a.length ≤ 1048576) (hb : b.length ≤ 1048576) (hz : BA ps ≤ 1048576) (hn : ps.length ≤ 1048576) : Ev (fun k => iE.f k (bD a) (bD b) (ps.map uw)) (bD (MF a b ps)) := by
 have hs := Ei hz
 unfold iE.f
 have e47 : (⟨#[47]⟩ : ByteArray) = bD [47] := rfl
 simp only [e47, kY, ay, List.length_map]
 refine vp (by omega) (vp (by first | omega | (simp only [List.length_append, List.length_cons, List.length_nil]; omega)) ?_)
 have key : ∀ (r p : List (Str × Str)), ps = p ++ r → Ev (fun k => iE.l0 k (bD (a ++ [47] ++ b ++ uT p)) (ps.map uw) (ps.length : Int) (p.length : Int)) (bD (MF a b ps)) := by
  intro r
  induction r with
  | nil =>
   intro p h
   rw [List.append_nil] at h
   subst h
   refine vc ?_
   simp only [iE.l0]
   exact vn (by omega) (vs _)
  | cons c r ih =>
   intro p h
   have hz2 := jc h
   have e1 := wQ h
   have hc := hs c (by rw [h]; simp)
   have hh := ih (p ++ [c]) (by rw [h]; simp)
   rw [nY, MG] at hh
   have hq := Z7 c.2
   have hp : (uT p).length ≤ 20000000 := by
    have h1 := Ur p
    have h2 : BA p ≤ BA ps := by rw [h, yt]; omega
    omega
   have hi := MB c.2 (by omega)
   have w1 : wrap64 ((p.length : Int) + 1) = (p.length : Int) + 1 := bf (by omega) (by omega)
   have e59 : (⟨#[59, 32]⟩ : ByteArray) = bD [59, 32] := rfl
   have e61 : (⟨#[61]⟩ : ByteArray) = bD [61] := rfl
   refine vc ?_
   simp only [iE.l0, e1, w1, uw, e59, e61, ay, kY, List.length_map]
   clear w1 e1
   refine vp (by omega) (vp (by omega) (vp (by omega) (vp (by first | omega | (simp only [List.length_cons, List.length_nil]; omega)) (vp (by first | omega | (simp only [List.length_append, List.length_cons, List.length_nil]; omega)) (vb hi ?_)))))
   simp only [ay, kY]
   refine vp (by first | omega | (simp only [List.length_append, List.length_cons, List.length_nil]; omega)) (vp (by first | omega | (simp only [List.length_append, List.length_cons, List.length_nil]; omega)) ?_)
   have e : a ++ [47] ++ b ++ uT p ++ ([59, 32] ++ c.1 ++ [61] ++ qw c.2) = a ++ [47] ++ b ++ (uT p ++ uT [c]) := by
    simp [uT, acG]
   rw [e]
   exact hh
 have := key ps [] rfl
 simpa [uT] using this
theorem Dw (a b : Str) (ps : List (Str × Str)) (ha : a.length ≤ 1048576) (hb : b.length ≤ 1048576) (hz : BA ps ≤ 1048576) (hn : ps.length ≤ 1048576) : Ev (fun k => bV.f k (bD a) (bD b) (ps.map uw)) (wR a b ps) := by
 have hs := Ei hz
 have ht := Oi a b ps ha hb hz hn
 have hbad : Ev (fun k => bV.j0 k true (bD a) (bD b) (ps.map uw)) false := by
  refine vc ?_
  simp only [bV.j0]
  exact vp trivial (vs _)
 have key : ∀ (r p : List (Str × Str)), ps = p ++ r → Ev (fun k => bV.l0 k (ps.map uw) (ps.length : Int) (p.length : Int) (bD a) (bD b) (ps.map uw)) (kfl p r && decide ((MF a b ps).length ≤ 150)) := by
  intro r
  induction r with
  | nil =>
   intro p h
   rw [List.append_nil] at h
   subst h
   refine vc ?_
   simp only [bV.l0, kfl, Bool.true_and]
   refine vn (by omega) (vb ht (vq (vs _) ?_))
   rw [ay]
   by_cases h1 : (MF a b ps).length ≤ 150
   ·
    rw [decide_eq_true h1]; exact decide_eq_true (by omega)
   ·
    rw [decide_eq_false h1]; exact decide_eq_false (by omega)
  | cons c r ih =>
   intro p h
   have hz2 := jc h
   have e1 := wQ h
   have hc := hs c (by rw [h]; simp)
   have hh := ih (p ++ [c]) (by rw [h]; simp)
   rw [nY] at hh
   have w1 : wrap64 ((p.length : Int) + 1) = (p.length : Int) + 1 := bf (by omega) (by omega)
   have i1 := xG c.1 (by omega)
   have i2 := qQ c.2 (by omega)
   have i3 := BQ p c.1 (RX h hs) hc.1 (by omega)
   have e3 := MH h
   refine vc ?_
   simp only [bV.l0, kfl, e1, w1, uw, ay, List.length_map, Int.toNat_natCast]
   clear w1 e1
   refine vp (by omega) (vp (by omega) (vp (by omega) (vb i1 ?_)))
   cases q1 : isSmall c.1 with
   | false => exact vn (by simp) (vs _)
   | true =>
    refine vp rfl (vb i2 ?_)
    cases q2 : lX c.2 with
    | false => exact vn (by simp) (vs _)
    | true =>
     refine vp rfl ?_
     by_cases q3 : c.2.length ≤ 40
     ·
      rw [decide_eq_true q3]
      refine vn (by omega) (vp (by omega) ?_)
      rw [e3]
      refine vb i3 ?_
      by_cases q4 : fidx c.1 p 0 ≥ 0
      ·
       refine vp q4 (vq (vs _) ?_)
       rw [decide_eq_false (fun hn => hn q4)]; rfl
      ·
       refine vn q4 ?_
       rw [decide_eq_true q4]
       simpa using hh
     ·
      rw [decide_eq_false q3]
      exact vp (by omega) (vs _)
 unfold bV.f wR
 refine vb (xG a (by omega)) ?_
 cases q1 : isSmall a with
 | false => exact vn (by simp) hbad
 | true =>
  refine vp rfl (vb (xG b (by omega)) ?_)
  cases q2 : isSmall b with
  | false => exact vn (by simp) hbad
  | true =>
   refine vp rfl (vc ?_)
   simp only [bV.j0, List.length_map]
   by_cases q3 : ps.length > 4
   ·
    refine vp (decide_eq_true (by omega)) (vq (vs _) ?_)
    rw [decide_eq_false (fun hn => hn q3)]; rfl
   ·
    refine vn (by simp; omega) ?_
    rw [decide_eq_true q3]
    have := key ps [] rfl
    simpa using this
theorem RY (l : Str) (hl : l.length ≤ 1000000000) : Ev (fun k => tX.f k (bD l)) (lX l && decide (l.length ≤ 40)) := by
 unfold tX.f
 refine vb (lU l (by omega)) ?_
 cases q2 : lX l with
 | false => exact vn (by simp) (vs _)
 | true =>
  refine vp rfl (vq (vs _) ?_)
  rw [ay, Bool.true_and]
  by_cases h1 : l.length ≤ 40
  ·
   rw [decide_eq_true h1]; exact decide_eq_true (by omega)
  ·
   rw [decide_eq_false h1]; exact decide_eq_false (by omega)
theorem Dx (a b : Str) (ps : List (Str × Str)) (ha : a.length ≤ 1048576) (hb : b.length ≤ 1048576) (hz : BA ps ≤ 1048576) (hn : ps.length ≤ 1048576) : Ev (fun k => bC.f k (bD a) (bD b) (ps.map uw)) (wR a b ps) := by
 have hs := Ei hz
 have hbad : Ev (fun k => bC.j0 k true (bD a) (bD b) (ps.map uw)) false := by
  refine vc ?_
  simp only [bC.j0]
  exact vp trivial (vs _)
 have key : ∀ (r p : List (Str × Str)), ps = p ++ r → Ev (fun k => bC.l0 k (((a ++ [47] ++ b ++ uT p : Str).length : Nat) : Int) (p.length : Int) (bD a) (bD b) (ps.map uw)) (kfl p r && decide ((MF a b ps).length ≤ 150)) := by
  intro r
  induction r with
  | nil =>
   intro p h
   rw [List.append_nil] at h
   subst h
   refine vc ?_
   simp only [bC.l0, kfl, Bool.true_and, List.length_map]
   refine vn (by omega) (vq (vs _) ?_)
   have e : a ++ [47] ++ b ++ uT ps = MF a b ps := rfl
   rw [e]
   by_cases h1 : (MF a b ps).length ≤ 150
   ·
    rw [decide_eq_true h1]; exact decide_eq_true (by omega)
   ·
    rw [decide_eq_false h1]; exact decide_eq_false (by omega)
  | cons c r ih =>
   intro p h
   have hz2 := jc h
   have e1 := wQ h
   have hc := hs c (by rw [h]; simp)
   have hh := ih (p ++ [c]) (by rw [h]; simp)
   rw [nY] at hh
   have hp : (uT p).length ≤ 20000000 := by
    have h1 := Ur p
    have h2 : BA p ≤ BA ps := by rw [h, yt]; omega
    omega
   have hq := Z7 c.2
   have hk := Uo c
   have i1 := BP c.1 (by omega)
   have i2 := RY c.2 (by omega)
   have i3 := GR p c.1 (RX h hs) hc.1 (by omega)
   have i4 := MC c.2 (by omega)
   have e3 := MH h
   have en : (a ++ [47] ++ b ++ uT (p ++ [c]) : Str).length = (a ++ [47] ++ b ++ uT p : Str).length + 3 + c.1.length + (qw c.2).length := by
    rw [MG]
    simp only [List.length_append, uT, List.length_nil, hk]
    omega
   have hm : (a ++ [47] ++ b ++ uT p : Str).length ≤ 30000000 := by
    simp only [List.length_append, List.length_cons, List.length_nil]; omega
   rw [en] at hh
   generalize (a ++ [47] ++ b ++ uT p : Str).length = m at hh hm
   have w1 : Unit → wrap64 ((p.length : Int) + 1) = (p.length : Int) + 1 ∧ wrap64 (wrap64 (wrap64 ((m : Int) + 3) + (c.1.length : Int)) + ((qw c.2).length : Int)) = ((m + 3 + c.1.length + (qw c.2).length : Nat) : Int) := by
    intro _
    have x1 : wrap64 ((m : Int) + 3) = (m : Int) + 3 := bf (by omega) (by omega)
    rw [x1]
    clear x1
    have x2 : wrap64 ((m : Int) + 3 + (c.1.length : Int)) = (m : Int) + 3 + (c.1.length : Int) := bf (by omega) (by omega)
    rw [x2]
    clear x2
    exact ⟨bf (by omega) (by omega), (bf (by omega) (by omega)).trans (by omega)⟩
   refine vc ?_
   simp only [bC.l0, kfl, e1, (w1 ()).1, uw, ay, List.length_map, Int.toNat_natCast]
   refine vp (by omega) (vp (by omega) (vb i1 ?_))
   cases q1 : isSmall c.1 with
   | false => exact vn (by simp) (vs _)
   | true =>
    refine vp rfl (vb i2 ?_)
    cases q2 : (lX c.2 && decide (c.2.length ≤ 40)) with
    | false => exact vn (by simp) (vs _)
    | true =>
     refine vp rfl (vp (by omega) ?_)
     rw [e3]
     refine vb i3 ?_
     by_cases q4 : fidx c.1 p 0 ≥ 0
     ·
      refine vp q4 (vq (vs _) ?_)
      rw [decide_eq_false (fun hn => hn q4)]; rfl
     ·
      refine vn q4 (vb i4 ?_)
      rw [decide_eq_true q4]
      simp only [ay, (w1 ()).2]
      simpa using hh
 unfold bC.f wR
 refine vb (BP a (by omega)) ?_
 cases q1 : isSmall a with
 | false => exact vn (by simp) hbad
 | true =>
  refine vp rfl (vb (BP b (by omega)) ?_)
  cases q2 : isSmall b with
  | false => exact vn (by simp) hbad
  | true =>
   refine vp rfl (vc ?_)
   simp only [bC.j0, List.length_map, ay]
   by_cases q3 : ps.length > 4
   ·
    refine vp (decide_eq_true (by omega)) (vq (vs _) ?_)
    rw [decide_eq_false (fun hn => hn q3)]; rfl
   ·
    refine vn (by simp; omega) ?_
    rw [decide_eq_true q3]
    have := key ps [] rfl
    have x1 : wrap64 ((a.length : Int) + (b.length : Int)) = (a.length : Int) + (b.length : Int) := bf (by omega) (by omega)
    rw [x1]
    clear x1
    have x2 : wrap64 ((a.length : Int) + (b.length : Int) + 1) = (((a ++ [47] ++ b ++ uT [] : Str).length : Nat) : Int) := by
     refine (bf (by omega) (by omega)).trans ?_
     simp only [uT, List.length_append, List.length_cons, List.length_nil]
     omega
    rw [x2]
    simpa using this
theorem Ap (c : UInt8) : nJ.f (c.toNat : Int) = some (CU c) := by
 unfold nJ.f CU
 rw [zO, FD]
 cases Jo c <;> simp
theorem Aq (l : Str) (hl : l.length ≤ 1000000000000000) : Ev (fun k => dM.f k (bD l)) (l.all CU) := by
 unfold dM.f
 rw [ay]
 refine vq (qh (xs := l) (F := fun k (_ : Unit) i => dM.l0 k (bD l) (l.length : Int) i) (st := fun _ c => if CU c = true then .inr () else .inl false) (fin := fun _ => true) (s := ()) (fun _ _ => True) trivial ?_ ?_) ?_
 ·
  intro p c r s h _
  have hz := jc h
  have e1 := jL h
  have w1 : wrap64 ((p.length : Int) + 1) = (p.length : Int) + 1 := bf (by omega) (by omega)
  simp only [dM.l0, e1, w1, ay]
  clear w1 e1
  cases e : CU c with
  | true =>
   simp only [if_true]
   refine ⟨(fun v hv => by cases hv), fun s' hs => ⟨trivial, fun v hv => ?_⟩⟩
   refine vp (by omega) (vp (by omega) (vp (by omega) (jB (Ap c) (vp e hv))))
  | false =>
   refine ⟨(fun v hv => ?_), fun s' hs => by simp at hs⟩
   simp only [Bool.false_eq_true, if_false, Sum.inl.injEq] at hv
   subst hv
   refine vp (by omega) (vp (by omega) (vp (by omega) (jB (Ap c) (vn (by rw [e]; simp) (vs _)))))
 ·
  intro s _
  simp only [dM.l0]
  exact vn (by omega) (vs _)
 ·
  clear hl
  induction l with
  | nil => rfl
  | cons c r ih =>
   unfold run
   cases e : CU c with
   | true => simp [e, ih]
   | false => simp [e]
theorem BR (l : Str) (hl : l.length ≤ 1000000000000000) : Ev (fun k => kU.f k (bD l)) (GK l) := by
 unfold kU.f GK
 rw [ay]
 by_cases h1 : 1 ≤ l.length
 ·
  rw [decide_eq_true h1]
  refine vp (by omega) ?_
  by_cases h2 : l.length ≤ 20
  ·
   rw [decide_eq_true h2]
   exact vp (by omega) (vb (Aq l hl) (vs _))
  ·
   rw [decide_eq_false h2]
   exact vn (by omega) (vs _)
 ·
  rw [decide_eq_false h1]
  exact vn (by omega) (vs _)
theorem BU (l : Str) (hl : l.length ≤ 1000000000000000) : Ev (fun k => dh.f k (bD l)) (GK l) := by
 unfold dh.f
 have hj : Ev (fun k => dh.j1 k (bD l) (0 : Int) false) (decide (1 ≤ l.length) && decide (l.length ≤ 20)) := by
  refine vc ?_
  simp only [dh.j1, ay]
  by_cases h1 : 1 ≤ l.length
  ·
   rw [decide_eq_true h1]
   refine vn (by simp) (vp (by omega) (vq (vs _) ?_))
   rw [Bool.true_and]
   by_cases h2 : l.length ≤ 20
   ·
    rw [decide_eq_true h2]; exact decide_eq_true (by omega)
   ·
    rw [decide_eq_false h2]; exact decide_eq_false (by omega)
  ·
   rw [decide_eq_false h1]
   exact vn (by simp) (vn (by omega) (vs _))
 have hj' : ∀ i : Int, Ev (fun k => dh.j1 k (bD l) i false) (decide (1 ≤ l.length) && decide (l.length ≤ 20)) := by
  intro i
  obtain ⟨K, hK⟩ := hj
  refine ⟨K + 1, fun k hk => ?_⟩
  have := hK k (by omega)
  obtain ⟨m, rfl⟩ : ∃ m, k = m + 1 := ⟨k - 1, by omega⟩
  simp only [dh.j1] at this ⊢
  exact this
 refine vq (qh (xs := l) (F := fun k (_ : Nat) i => dh.l0 k (bD l) i) (st := fun n c => if n ≤ 20 then (if CU c = true then .inr (n + 1) else .inl false) else .inl (decide (1 ≤ l.length) && decide (l.length ≤ 20))) (fin := fun _ => decide (1 ≤ l.length) && decide (l.length ≤ 20)) (s := 0) (fun p n => n = p.length) rfl ?_ ?_) ?_
 ·
  intro p c r n h hn
  subst hn
  have hz := jc h
  have e1 := jL h
  have w1 : wrap64 ((p.length : Int) + 1) = (p.length : Int) + 1 := bf (by omega) (by omega)
  by_cases h20 : p.length ≤ 20
  ·
   simp only [if_pos h20]
   have hd : decide ((p.length : Int) ≤ 20) = true := decide_eq_true (by omega)
   simp only [dh.l0, hd, ay]
   cases e : CU c with
   | true =>
    simp only [if_true]
    refine ⟨(fun v hv => by cases hv), fun s' hs => ⟨?_, fun v hv => ?_⟩⟩
    ·
     cases hs; simp
    ·
     refine vp (by omega) (vc ?_)
     simp only [dh.j1, e1, w1, ay]
     clear w1 e1
     exact vp trivial (vp (by omega) (vp (by omega) (jB (uN c) (vp e hv))))
   | false =>
    refine ⟨(fun v hv => ?_), fun s' hs => by simp at hs⟩
    simp only [Bool.false_eq_true, if_false, Sum.inl.injEq] at hv
    subst hv
    refine vp (by omega) (vc ?_)
    simp only [dh.j1, e1, w1, ay]
    clear w1 e1
    exact vp trivial (vp (by omega) (vp (by omega) (jB (uN c) (vn (by rw [e]; simp) (vs _)))))
  ·
   simp only [if_neg h20]
   have hd : decide ((p.length : Int) ≤ 20) = false := decide_eq_false (by omega)
   refine ⟨(fun v hv => ?_), fun s' hs => by cases hs⟩
   cases hv
   simp only [dh.l0, hd, ay]
   clear w1 e1
   exact vp (by omega) (hj' _)
 ·
  intro s hs
  subst hs
  simp only [dh.l0, ay]
  exact vn (by omega) (hj' _)
 ·
  unfold GK
  have key : ∀ (r : Str) (n : Nat), n + r.length = l.length → run (fun n c => if n ≤ 20 then (if CU c = true then .inr (n + 1) else .inl false) else .inl (decide (1 ≤ l.length) && decide (l.length ≤ 20))) (fun _ => decide (1 ≤ l.length) && decide (l.length ≤ 20)) r n = (decide (1 ≤ l.length) && decide (l.length ≤ 20) && r.all CU) := by
   intro r
   induction r with
   | nil => intro n _; simp [run]
   | cons c r ih =>
    intro n hn
    simp only [List.length_cons] at hn
    unfold run
    by_cases h20 : n ≤ 20
    ·
     simp only [if_pos h20]
     cases e : CU c with
     | true => simp [e, ih (n + 1) (by omega)]
     | false => simp [e]
    ·
     simp only [if_neg h20]
     have : decide (l.length ≤ 20) = false := decide_eq_false (by omega)
     simp [this]
  exact key l 0 (by omega)
/-! The boundary of a kind. -/
def yR (ps : List (Str × Str)) (n : Str) : Str × Bool := if fidx n ps 0 < 0 then ([], false) else ((ps.getD (fidx n ps 0).toNat ([], [])).2, true)
def multi : Str := [109, 117, 108, 116, 105, 112, 97, 114, 116]
def bnd : Str := [98, 111, 117, 110, 100, 97, 114, 121]
def PO (a b : Str) (ps : List (Str × Str)) : Str × Bool := if wR a b ps = true ∧ a = multi ∧ GK (yR ps bnd).1 = true then ((yR ps bnd).1, true) else ([], false)
theorem E5 (ps : List (Str × Str)) (n : Str) (hs : small ps) : (yR ps n).1.length ≤ 1048576 := by
 unfold yR
 split
 ·
  simp
 ·
  rw [List.getD_eq_getElem?_getD]
  cases e : ps[(fidx n ps 0).toNat]? with
  | none => simp
  | some x => exact (hs x (List.mem_of_getElem? e)).2
theorem Us (ps : List (Str × Str)) (i : Int) : (dY (ps.map uw) i).f1 = bD ((ps.getD i.toNat ([], [])).2) := by
 unfold dY
 rw [List.getD_eq_getElem?_getD, List.getD_eq_getElem?_getD, List.getElem?_map]
 cases ps[i.toNat]? with
 | none => rfl
 | some x => rfl
theorem Ej (ps : List (Str × Str)) (n : Str) (hs : small ps) (hn : n.length ≤ 1048576) (hl : ps.length ≤ 1048576) : Ev (fun k => nS.f k (ps.map uw) (bD n)) (bD (yR ps n).1, (yR ps n).2) := by
 unfold nS.f yR
 refine vb (BQ ps n hs hn hl) ?_
 have hr := Jp n ps 0
 by_cases h : fidx n ps 0 < 0
 ·
  simp only [if_pos h]; exact vq (vs _) rfl
 ·
  simp only [if_neg h, List.length_map, Us]
  exact vp (by omega) (vp (by omega) (vs _))
theorem Em (ps : List (Str × Str)) (n : Str) (hs : small ps) (hn : n.length ≤ 1048576) (hl : ps.length ≤ 1048576) : Ev (fun k => kM.f k (ps.map uw) (bD n)) (bD (yR ps n).1, (yR ps n).2) := by
 unfold kM.f yR
 refine vb (GR ps n hs hn hl) ?_
 have hr := Jp n ps 0
 by_cases h : fidx n ps 0 < 0
 ·
  simp only [if_pos h]; exact vq (vs _) rfl
 ·
  simp only [if_neg h, List.length_map, Us]
  exact vp (by omega) (vp (by omega) (vs _))
theorem Ut (ps : List (Str × Str)) (n : Str) (h : (yR ps n).2 = false) : (yR ps n).1 = [] := by
 unfold yR at *
 split at h
 ·
  rename_i h1; rw [if_pos h1]
 ·
  cases h
theorem acH : (⟨#[98, 111, 117, 110, 100, 97, 114, 121]⟩ : ByteArray) = bD bnd := rfl
theorem Jr (a b : Str) (ps : List (Str × Str)) (ha : a.length ≤ 1048576) (hb : b.length ≤ 1048576) (hz : BA ps ≤ 1048576) (hn : ps.length ≤ 1048576) : Ev (fun k => jq.f k (bD a) (bD b) (ps.map uw)) (bD (PO a b ps).1, (PO a b ps).2) := by
 have hs := Ei hz
 have hg := E5 ps bnd hs
 unfold jq.f
 refine vb (Dw a b ps ha hb hz hn) ?_
 simp only [m_]
 have hbad : PO a b ps = ([], false) → Ev (fun k => jq.j0 k true (bD a) (bD b) (ps.map uw)) (bD (PO a b ps).1, (PO a b ps).2) := by
  intro e
  rw [e]
  refine vc ?_
  simp only [jq.j0]
  exact vp trivial (vq (vs _) rfl)
 cases e : wR a b ps with
 | false => exact vn (by simp) (hbad (by unfold PO; rw [if_neg (by simp [e])]))
 | true =>
  refine vp rfl ?_
  by_cases hm : a = multi
  ·
   have e2 : (a != ([109, 117, 108, 116, 105, 112, 97, 114, 116] : List UInt8)) = false := by rw [hm]; decide
   rw [e2]
   refine vc ?_
   simp only [jq.j0, acH]
   refine vn (by simp) (vb (Ej ps bnd hs (by decide) (by omega)) (vb (BR (yR ps bnd).1 (by omega)) ?_))
   cases e3 : GK (yR ps bnd).1 with
   | true =>
    have hv : PO a b ps = ((yR ps bnd).1, true) := by unfold PO; rw [if_pos ⟨e, hm, e3⟩]
    rw [hv]; exact vp rfl (vs _)
   | false =>
    have hv : PO a b ps = ([], false) := by unfold PO; rw [if_neg (by rw [e3]; simp)]
    rw [hv]; exact vn (by simp) (vq (vs _) rfl)
  ·
   have e2 : (a != ([109, 117, 108, 116, 105, 112, 97, 114, 116] : List UInt8)) = true := by simpa [multi] using hm
   rw [e2]
   exact hbad (by unfold PO; rw [if_neg (by simp [hm])])
theorem BX (a b : Str) (ps : List (Str × Str)) (ha : a.length ≤ 1048576) (hb : b.length ≤ 1048576) (hz : BA ps ≤ 1048576) (hn : ps.length ≤ 1048576) : Ev (fun k => n_.f k (bD a) (bD b) (ps.map uw)) (bD (PO a b ps).1, (PO a b ps).2) := by
 have hs := Ei hz
 have hg := E5 ps bnd hs
 unfold n_.f
 simp only [acH, m_]
 refine vb (Em ps bnd hs (by decide) (by omega)) (vb (Dx a b ps ha hb hz hn) ?_)
 cases e : wR a b ps with
 | false =>
  have hv : PO a b ps = ([], false) := by unfold PO; rw [if_neg (by rw [e]; simp)]
  rw [hv]; exact vn (by simp) (vq (vs _) rfl)
 | true =>
  refine vp rfl ?_
  by_cases hm : a = multi
  ·
   refine vp hm ?_
   cases e4 : (yR ps bnd).2 with
   | false =>
    have := Ut ps bnd e4
    have hv : PO a b ps = ([], false) := by unfold PO; rw [if_neg (by rw [this]; simp [GK])]
    rw [hv]; exact vn (by simp) (vq (vs _) rfl)
   | true =>
    refine vp rfl (vb (BU (yR ps bnd).1 (by omega)) ?_)
    cases e3 : GK (yR ps bnd).1 with
    | true =>
     have hv : PO a b ps = ((yR ps bnd).1, true) := by unfold PO; rw [if_pos ⟨e, hm, e3⟩]
     rw [hv]; exact vp rfl (vs _)
    | false =>
     have hv : PO a b ps = ([], false) := by unfold PO; rw [if_neg (by rw [e3]; simp)]
     rw [hv]; exact vn (by simp) (vq (vs _) rfl)
  ·
   have hv : PO a b ps = ([], false) := by unfold PO; rw [if_neg (by simp [hm])]
   rw [hv]; exact vn hm (vq (vs _) rfl)
/-! Kinds parsed: the model. -/
def MI : Str → Option (Str × Str)
 | [] => none
 | c :: r => if c = 34 then some ([], r) else if c = 92 then (match r with
   | [] => none
   | d :: t => (MI t).map fun q => (d :: q.1, q.2)) else (MI r).map fun q => (c :: q.1, q.2)
theorem En (c : UInt8) (r : Str) : MI (c :: r) = if c = 34 then some ([], r) else if c = 92 then (match r with
   | [] => none
   | d :: t => (MI t).map fun q => (d :: q.1, q.2)) else (MI r).map fun q => (c :: q.1, q.2) := by rw [MI.eq_def]; rfl
def nq (q : Nat) (c : UInt8) : Nat := if q = 2 then 1 else if q = 1 then (if c = 34 then 0 else if c = 92 then 2 else 1) else (if c = 34 then 1 else 0)
def uh (b : UInt8) : Nat → Str → Option (Str × Str)
 | _, [] => none
 | q, c :: r => if q = 0 ∧ c = b then some ([], r) else (uh b (nq q c) r).map fun x => (c :: x.1, x.2)
def hd1 (c : UInt8) : List Str → List Str
 | [] => [[c]]
 | x :: r => (c :: x) :: r
def parts (b : UInt8) : Nat → Str → List Str
 | _, [] => [[]]
 | q, c :: r => if q = 0 ∧ c = b then [] :: parts b 0 r else hd1 c (parts b (nq q c) r)
theorem H_ (b : UInt8) : ∀ (n : Nat) (r w t : Str), r.length ≤ n → MI r = some (w, t) → ∃ m, r = m ++ t ∧ w.length < m.length ∧ uh b 1 r = (uh b 0 t).map fun x => (m ++ x.1, x.2) := by
 intro n
 induction n with
 | zero => intro r w t h h2; cases r with
  | nil => cases h2
  | cons c r => simp at h
 | succ n ih =>
  intro r w t h h2
  cases r with
  | nil => cases h2
  | cons c r =>
   simp only [List.length_cons] at h
   rw [En] at h2
   by_cases c1 : c = 34
   ·
    rw [if_pos c1] at h2
    cases h2
    refine ⟨[c], rfl, by simp, ?_⟩
    rw [uh, if_neg (by simp), c1]
    rfl
   ·
    rw [if_neg c1] at h2
    by_cases c2 : c = 92
    ·
     rw [if_pos c2] at h2
     cases r with
     | nil => cases h2
     | cons d r =>
      simp only [List.length_cons] at h
      simp only [Option.map_eq_some_iff] at h2
      obtain ⟨⟨w1, t1⟩, e1, e2⟩ := h2
      cases e2
      obtain ⟨m, e3, e4, e5⟩ := ih r w1 t1 (by omega) e1
      refine ⟨c :: d :: m, by rw [e3]; rfl, by simp only [List.length_cons]; omega, ?_⟩
      rw [uh, if_neg (by simp), c2, uh, if_neg (by simp [nq])]
      have : nq (nq 1 92) d = 1 := by simp [nq]
      rw [this, e5]
      cases uh b 0 t1 <;> rfl
    ·
     rw [if_neg c2] at h2
     simp only [Option.map_eq_some_iff] at h2
     obtain ⟨⟨w1, t1⟩, e1, e2⟩ := h2
     cases e2
     obtain ⟨m, e3, e4, e5⟩ := ih r w1 t1 (by omega) e1
     refine ⟨c :: m, by rw [e3]; rfl, by simp only [List.length_cons]; omega, ?_⟩
     have : nq 1 c = 1 := by simp [nq, c1, c2]
     rw [uh, if_neg (by simp), this, e5]
     cases uh b 0 t1 <;> rfl
theorem Yo (b : UInt8) : ∀ (n : Nat) (r : Str), r.length ≤ n → MI r = none → uh b 1 r = none := by
 intro n
 induction n with
 | zero => intro r h h2; cases r with
  | nil => rfl
  | cons c r => simp at h
 | succ n ih =>
  intro r h h2
  cases r with
  | nil => rfl
  | cons c r =>
   simp only [List.length_cons] at h
   rw [En] at h2
   by_cases c1 : c = 34
   ·
    rw [if_pos c1] at h2; cases h2
   ·
    rw [if_neg c1] at h2
    by_cases c2 : c = 92
    ·
     rw [if_pos c2] at h2
     cases r with
     | nil => rw [uh, if_neg (by simp)]; rfl
     | cons d r =>
      simp only [List.length_cons] at h
      simp only [Option.map_eq_none_iff] at h2
      rw [uh, if_neg (by simp), c2, uh, if_neg (by simp [nq])]
      have : nq (nq 1 92) d = 1 := by simp [nq]
      rw [this, ih r (by omega) h2]; rfl
    ·
     rw [if_neg c2] at h2
     simp only [Option.map_eq_none_iff] at h2
     have : nq 1 c = 1 := by simp [nq, c1, c2]
     rw [uh, if_neg (by simp), this, ih r (by omega) h2]; rfl
theorem acI (b : UInt8) (s : Str) : ∀ (q : Nat) (x t : Str), uh b q s = some (x, t) → s = x ++ b :: t := by
 induction s with
 | nil => intro q x t h; cases h
 | cons c r ih =>
  intro q x t h
  rw [uh] at h
  split at h
  ·
   rename_i hc; cases h; rw [hc.2]; rfl
  ·
   simp only [Option.map_eq_some_iff] at h
   obtain ⟨⟨w1, t1⟩, e1, e2⟩ := h
   cases e2
   rw [ih _ _ _ e1]; rfl
theorem Oj (b : UInt8) (s : Str) : ∀ q : Nat, parts b q s = match uh b q s with
  | none => [s]
  | some x => x.1 :: parts b 0 x.2 := by
 induction s with
 | nil => intro q; rfl
 | cons c r ih =>
  intro q
  rw [parts, uh]
  by_cases h : q = 0 ∧ c = b
  ·
   rw [if_pos h, if_pos h]
  ·
   rw [if_neg h, if_neg h, ih]
   cases uh b (nq q c) r <;> rfl
theorem Uu (b : UInt8) (s : Str) : ∀ q : Nat, 1 ≤ (parts b q s).length ∧ (parts b q s).length ≤ s.length + 1 := by
 induction s with
 | nil => intro q; exact ⟨Nat.le_refl _, Nat.le_refl _⟩
 | cons c r ih =>
  intro q
  rw [parts]
  split
  ·
   have := ih 0; simp only [List.length_cons]; omega
  ·
   have := ih (nq q c)
   cases e : parts b (nq q c) r with
   | nil => rw [e] at this; simp at this
   | cons y l => rw [e] at this; simp only [hd1, List.length_cons] at this ⊢; omega
/-- Each part is a piece of the text. -/
theorem adC (b : UInt8) (s : Str) : ∀ (q : Nat) (x : Str), x ∈ parts b q s → x.length ≤ s.length ∧ ∀ c ∈ x, c ∈ s := by
 induction s with
 | nil => intro q x h; simp only [parts, List.mem_singleton] at h; subst h; simp
 | cons c r ih =>
  intro q x h
  rw [parts] at h
  split at h
  ·
   rcases List.mem_cons.mp h with rfl | h
   ·
    simp
   ·
    obtain ⟨h1, h2⟩ := ih _ x h
    exact ⟨by simp only [List.length_cons]; omega, fun d hd => List.mem_cons_of_mem _ (h2 d hd)⟩
  ·
   cases e : parts b (nq q c) r with
   | nil => have := Uu b r (nq q c); rw [e] at this; simp at this
   | cons y l =>
    rw [e, hd1] at h
    rcases List.mem_cons.mp h with rfl | h
    ·
     obtain ⟨h1, h2⟩ := ih (nq q c) y (by rw [e]; simp)
     refine ⟨by simp only [List.length_cons]; omega, fun d hd => ?_⟩
     rcases List.mem_cons.mp hd with rfl | hd
     ·
      simp
     ·
      exact List.mem_cons_of_mem _ (h2 d hd)
    ·
     obtain ⟨h1, h2⟩ := ih (nq q c) x (by rw [e]; exact List.mem_cons_of_mem _ h)
     exact ⟨by simp only [List.length_cons]; omega, fun d hd => List.mem_cons_of_mem _ (h2 d hd)⟩
/-! Words. -/
def MJ : Nat → Bool → Str → Option (List Str)
 | 0, _, _ => none
 | _ + 1, _, [] => some []
 | n + 1, a, c :: r => if c = 32 then MJ n true r else if a = false then none else if c = 34 then (match MI r with
   | none => none
   | some q => (MJ n false q.2).map (q.1 :: ·)) else if (c :: r).takeWhile xA = [] then none else (MJ n false ((c :: r).dropWhile xA)).map ((c :: r).takeWhile xA :: ·)
def words (s : Str) : Option (List Str) := MJ (s.length + 1) true s
/-! Cut at a byte. -/
def zx (b : UInt8) : Str → Option (Str × Str)
 | [] => none
 | c :: r => if c = b then some ([], r) else (zx b r).map fun x => (c :: x.1, x.2)
theorem WH (b : UInt8) (s : Str) : ∀ (x t : Str), zx b s = some (x, t) → s = x ++ b :: t := by
 induction s with
 | nil => intro x t h; cases h
 | cons c r ih =>
  intro x t h
  rw [zx] at h
  split at h
  ·
   rename_i hc; cases h; rw [hc]; rfl
  ·
   simp only [Option.map_eq_some_iff] at h
   obtain ⟨⟨w1, t1⟩, e1, e2⟩ := h
   cases e2
   rw [ih _ _ e1]; rfl
theorem ajk (b : UInt8) (s : Str) : Lib.index s [b] = match zx b s with
  | none => -1
  | some x => (x.1.length : Int) := by
 induction s with
 | nil => rfl
 | cons c r ih =>
  rw [Lib.index, zx]
  by_cases h : c = b
  ·
   rw [if_pos (by simp [List.isPrefixOf, h]), if_pos h]; rfl
  ·
   rw [if_neg (by simp only [List.isPrefixOf, Bool.and_true, beq_iff_eq]; exact fun e => h e.symm), if_neg h, ih]
   cases e : zx b r with
   | none => rfl
   | some q =>
    simp only [Option.map_some, List.length_cons]
    rw [if_neg (by simp)]
    rfl
theorem aw2 (b : UInt8) (s : Str) : Lib.cut s [b] = match zx b s with
  | none => (s, [], false)
  | some x => (x.1, x.2, true) := by
 unfold Lib.cut
 rw [ajk]
 cases e : zx b s with
 | none => rfl
 | some q =>
  obtain ⟨x, t⟩ := q
  have := WH b s x t e
  simp only
  rw [if_pos (by omega)]
  subst this
  simp
def trim (l : Str) : Str := Lib.trimB l 32
theorem DR (p : UInt8 → Bool) (l : Str) : ∃ m, l = m ++ l.dropWhile p ∧ ∀ c ∈ m, p c = true := by
 induction l with
 | nil => exact ⟨[], rfl, by simp⟩
 | cons c r ih =>
  cases e : p c with
  | true =>
   obtain ⟨m, h1, h2⟩ := ih
   refine ⟨c :: m, by simp [List.dropWhile, e]; exact h1, fun d hd => ?_⟩
   rcases List.mem_cons.mp hd with rfl | hd
   ·
    exact e
   ·
    exact h2 d hd
  | false => exact ⟨[], by simp [List.dropWhile, e], by simp⟩
/-- What is trimmed: spaces ahead and behind. -/
theorem Js (l : Str) : ∃ i j, l = List.replicate i 32 ++ trim l ++ List.replicate j 32 := by
 unfold trim Lib.trimB Lib.trimLeftB Lib.trimRightB
 have rep : ∀ m : Str, (∀ c ∈ m, (c == 32) = true) → m = List.replicate m.length 32 := fun m h => List.eq_replicate_iff.mpr ⟨rfl, fun c hc => by simpa using h c hc⟩
 obtain ⟨m, h1, h2⟩ := DR (· == 32) l.reverse
 obtain ⟨m2, h3, h4⟩ := DR (· == 32) (l.reverse.dropWhile (· == 32)).reverse
 refine ⟨m2.length, m.length, ?_⟩
 rw [← rep m2 h4, ← h3]
 have e : m.reverse = List.replicate m.length 32 := by
  have := rep m.reverse (fun c hc => h2 c (List.mem_reverse.mp hc))
  rwa [List.length_reverse] at this
 rw [← e, ← List.reverse_append, ← h1, List.reverse_reverse]
theorem Eo (l : Str) : (trim l).length ≤ l.length := by
 obtain ⟨i, j, h⟩ := Js l
 have := congrArg List.length h
 simp only [List.length_append] at this
 omega
theorem Yp (l : Str) (c : UInt8) (hc : c ∈ l) (h32 : c ≠ 32) : c ∈ trim l := by
 obtain ⟨i, j, h⟩ := Js l
 rw [h] at hc
 simp only [List.mem_append, List.mem_replicate] at hc
 rcases hc with (⟨_, h⟩ | h) | ⟨_, h⟩
 ·
  exact absurd h h32
 ·
  exact h
 ·
  exact absurd h h32
theorem Uw (l : Str) : trim (32 :: l) = trim l := by
 unfold trim Lib.trimB Lib.trimLeftB Lib.trimRightB
 rw [List.reverse_cons, List.dropWhile_append]
 split
 ·
  rename_i h
  have : l.reverse.dropWhile (· == 32) = [] := by simpa using h
  rw [this]; rfl
 ·
  rw [List.reverse_append]; simp
/-- One parameter; all of them; a kind. -/
def Jt (s : Str) : Option (Str × Str) := match zx 61 s with
 | none => none
 | some x => match words x.2 with
  | some [w] => some (low (trim x.1), w)
  | _ => none
def RZ : List Str → Option (List (Str × Str))
 | [] => some []
 | s :: r => match Jt s with
  | none => none
  | some x => (RZ r).map (x :: ·)
def pkO (o : Option (Str × Str)) (ps : Option (List (Str × Str))) : Option (Str × Str × List (Str × Str)) := match o, ps with
 | some x, some ps => if wR (low x.1) (low x.2) ps = true then some (low x.1, low x.2, ps) else none
 | _, _ => none
def pk (s : Str) : Option (Str × Str × List (Str × Str)) := if lX s = true then pkO (zx 47 (trim ((parts 59 0 s).headD []))) (RZ ((parts 59 0 s).drop 1)) else none
/-! Kinds parsed: the program. -/
theorem agT (c b : UInt8) : ((c.toNat : Int) = (b.toNat : Int)) ↔ c = b := by
 constructor
 ·
  intro e; exact UInt8.toNat_inj.mp (by omega)
 ·
  intro e; rw [e]
def TF (L : Nat) (acc : Str) : Option (Str × Str) → ByteArray × Int × Bool
 | none => (bD [], 0, false)
 | some q => (bD (acc ++ q.1), ((L - q.2.length : Nat) : Int), true)
theorem Ol (l : Str) (hl : l.length ≤ 1048576) : ∀ (n : Nat) (r p acc : Str), r.length ≤ n → l = p ++ r → acc.length ≤ p.length → Ev (fun k => jG.l0 k (bD l) (zn acc) (p.length : Int)) (TF l.length acc (MI r)) := by
 intro n
 induction n with
 | zero =>
  intro r p acc h h2 h3
  have : r = [] := List.length_eq_zero_iff.mp (by omega)
  subst this
  rw [List.append_nil] at h2
  subst h2
  refine vc ?_
  simp only [jG.l0, ay]
  exact vn (by omega) (vq (vs _) rfl)
 | succ n ih =>
  intro r p acc h h2 h3
  cases r with
  | nil =>
   rw [List.append_nil] at h2
   subst h2
   refine vc ?_
   simp only [jG.l0, ay]
   exact vn (by omega) (vq (vs _) rfl)
  | cons c r =>
   simp only [List.length_cons] at h
   have hz := jc h2
   have e1 := jL h2
   have w1 : wrap64 ((p.length : Int) + 1) = ((p.length + 1 : Nat) : Int) := (bf (by omega) (by omega)).trans (by omega)
   have RV : (c.toNat : Int) = 34 ↔ c = 34 := yM c 34 (by omega)
   have h92 : (c.toNat : Int) = 92 ↔ c = 92 := yM c 92 (by omega)
   refine vc ?_
   simp only [jG.l0, e1, w1, ay, Oh]
   clear e1 w1
   rw [En]
   refine vp (by omega) (vp (by omega) ?_)
   by_cases c1 : (c.toNat : Int) = 34
   ·
    refine vp c1 (vq (vs _) ?_)
    rw [if_pos (RV.mp c1), TF, zl, show l.length - r.length = p.length + 1 by omega]
    simp
   ·
    refine vn c1 ?_
    rw [if_neg (fun hh => c1 (RV.mpr hh))]
    by_cases c2 : (c.toNat : Int) = 92
    ·
     refine vp c2 ?_
     rw [if_pos (h92.mp c2)]
     cases r with
     | nil =>
      simp only [List.length_nil] at hz
      exact vp (by omega) (vq (vs _) rfl)
     | cons d r =>
      simp only [List.length_cons] at h hz
      have e2 : bt (bD l) ((p.length + 1 : Nat) : Int) = (d.toNat : Int) := by
       have := jL (l := l) (p := p ++ [c]) (c := d) (r := r) (by rw [h2]; simp)
       rwa [List.length_append] at this
      have w2 : wrap64 (((p.length + 1 : Nat) : Int) + 1) = ((p.length + 2 : Nat) : Int) := (bf (by omega) (by omega)).trans (by omega)
      have := ih r (p ++ [c, d]) (acc ++ [d]) (by omega) (by rw [h2]; simp) (by simp; omega)
      rw [H9, List.length_append] at this
      have e3 : ([(d.toNat : Int)] : List Int) = zn [d] := rfl
      rw [e2, w2, e3]
      clear e2 w2
      refine vn (by omega) (vp (by omega) (vp (by omega) (vp (by omega) (vq this ?_))))
      show _ = TF l.length acc ((MI r).map fun q => (d :: q.1, q.2))
      cases MI r with
      | none => rfl
      | some q => simp [TF]
    ·
     refine vn c2 ?_
     rw [if_neg (fun hh => c2 (h92.mpr hh))]
     have := ih r (p ++ [c]) (acc ++ [c]) (by omega) (by rw [h2]; simp) (by simp; omega)
     rw [H9, List.length_append] at this
     have e3 : ([(c.toNat : Int)] : List Int) = zn [c] := rfl
     rw [e3]
     refine vp (by omega) (vq this ?_)
     cases MI r with
     | none => rfl
     | some q => simp [TF]
theorem GU (c : UInt8) (r : Str) (hl : r.length ≤ 1048575) : Ev (fun k => jG.f k (bD (c :: r))) (TF (r.length + 1) [] (MI r)) := Ol (c :: r) (by simp only [List.length_cons]; omega) r.length r [c] [] (Nat.le_refl _) rfl (by simp)
def Yq (p : Nat) : Option (Str × Str) → Int
 | none => -1
 | some q => ((p + q.1.length : Nat) : Int)
theorem BZ {l p r : Str} (h : l = p ++ r) : l.drop p.length = r := by rw [h, List.drop_left]
theorem MK (l : Str) (b : UInt8) (hb : b ≠ 34) (hl : l.length ≤ 1048576) : ∀ (n : Nat) (r p : Str), r.length ≤ n → l = p ++ r → Ev (fun k => kK.l0 k (bD l) (b.toNat : Int) (p.length : Int)) (Yq p.length (uh b 0 r)) := by
 intro n
 induction n with
 | zero =>
  intro r p h h2
  have : r = [] := List.length_eq_zero_iff.mp (by omega)
  subst this
  rw [List.append_nil] at h2
  subst h2
  refine vc ?_
  simp only [kK.l0, ay]
  exact vn (by omega) (vq (vs _) rfl)
 | succ n ih =>
  intro r p h h2
  cases r with
  | nil =>
   rw [List.append_nil] at h2
   subst h2
   refine vc ?_
   simp only [kK.l0, ay]
   exact vn (by omega) (vq (vs _) rfl)
  | cons c r =>
   simp only [List.length_cons] at h
   have hz := jc h2
   have e1 := jL h2
   have w1 : wrap64 ((p.length : Int) + 1) = ((p.length + 1 : Nat) : Int) := (bf (by omega) (by omega)).trans (by omega)
   have RV : (c.toNat : Int) = 34 ↔ c = 34 := yM c 34 (by omega)
   have hbb := agT c b
   have ex : (bD l).extract (p.length : Int).toNat l.length = bD (c :: r) := by
    rw [Int.toNat_natCast, jV, BZ h2, List.take_of_length_le (by simp only [List.length_cons]; omega)]
   refine vc ?_
   simp only [kK.l0, e1, w1, ay, ex]
   clear e1 w1 ex
   rw [uh]
   refine vp (by omega) (vp (by omega) ?_)
   by_cases c1 : (c.toNat : Int) = 34
   ·
    have hc := RV.mp c1
    refine vp c1 (vp (by omega) (vb (GU c r (by omega)) ?_))
    rw [if_neg (by intro hh; exact hb (hh.2.symm.trans hc)), show nq 0 c = 1 by rw [hc]; rfl]
    cases e : MI r with
    | none => rw [Yo b r.length r (Nat.le_refl _) e]; exact vn (by simp [TF]) (vq (vs _) rfl)
    | some q =>
     obtain ⟨w, t⟩ := q
     obtain ⟨m, h3, h4, h5⟩ := H_ b r.length r w t (Nat.le_refl _) e
     have hm : r.length = m.length + t.length := by rw [h3, List.length_append]
     have := ih t (p ++ c :: m) (by omega) (by rw [h2, h3]; simp)
     refine vp rfl ?_
     simp only [TF]
     have w2 : wrap64 (((r.length + 1 - t.length : Nat) : Int) - 1) = (m.length : Int) := (bf (by omega) (by omega)).trans (by omega)
     rw [w2]
     clear w2
     have w3 : wrap64 ((p.length : Int) + (m.length : Int)) = ((p.length + m.length : Nat) : Int) := (bf (by omega) (by omega)).trans (by omega)
     rw [w3]
     clear w3
     have w4 : wrap64 (((p.length + m.length : Nat) : Int) + 1) = ((p ++ c :: m).length : Int) := (bf (by omega) (by omega)).trans (by simp only [List.length_append, List.length_cons]; omega)
     rw [w4, h5]
     clear w4
     refine vq this ?_
     cases uh b 0 t with
     | none => rfl
     | some x => simp only [Option.map_some, Yq, List.length_append, List.length_cons]; omega
   ·
    refine vn c1 ?_
    have hc : ¬ c = 34 := fun hh => c1 (RV.mpr hh)
    by_cases c2 : c = b
    ·
     rw [if_pos ⟨rfl, c2⟩]
     exact vp (hbb.mpr c2) (vq (vs _) (by simp [Yq]))
    ·
     rw [if_neg (fun hh => c2 hh.2), show nq 0 c = 0 by simp [nq, hc]]
     have := ih r (p ++ [c]) (by omega) (by rw [h2]; simp)
     rw [List.length_append] at this
     refine vn (fun hh => c2 (hbb.mp hh)) (vq this ?_)
     cases uh b 0 r with
     | none => rfl
     | some x => simp only [Option.map_some, Yq, List.length_append, List.length_cons, List.length_nil]; omega
theorem FH (l : Str) (b : UInt8) (hb : b ≠ 34) (hl : l.length ≤ 1048576) : Ev (fun k => kK.f k (bD l) (b.toNat : Int)) (Yq 0 (uh b 0 l)) := MK l b hb hl l.length l [] (Nat.le_refl _) rfl
theorem E8 (b : UInt8) (hb : b ≠ 34) : ∀ (n : Nat) (s : Str) (acc : List Str), s.length ≤ n → s.length + acc.length ≤ 1048576 → Ev (fun k => dV.l0 k (bD s) (b.toNat : Int) (acc.map bD)) ((acc ++ parts b 0 s).map bD) := by
 intro n
 induction n with
 | zero =>
  intro s acc h h2
  have : s = [] := List.length_eq_zero_iff.mp (by omega)
  subst this
  refine vc ?_
  simp only [dV.l0, List.length_map]
  refine vb (FH [] b hb (by simp)) (vp (by simp [uh, Yq]) (vp (by simp at h2; omega) (vq (vs _) ?_)))
  simp [parts]
 | succ n ih =>
  intro s acc h h2
  refine vc ?_
  simp only [dV.l0, List.length_map, ay]
  refine vb (FH s b hb (by omega)) ?_
  rw [Oj]
  cases e : uh b 0 s with
  | none => exact vp (by simp [Yq]) (vp (by omega) (vq (vs _) (by simp)))
  | some q =>
   obtain ⟨x, t⟩ := q
   have hs := acI b s 0 x t e
   have hz : s.length = x.length + (t.length + 1) := by rw [hs]; simp
   have := ih t (acc ++ [x]) (by omega) (by simp; omega)
   have w1 : wrap64 ((x.length : Int) + 1) = ((x.length + 1 : Nat) : Int) := (bf (by omega) (by omega)).trans (by omega)
   simp only [Yq, Nat.zero_add, w1, Int.toNat_natCast, jV, List.drop_zero, Nat.sub_zero]
   have e1 : s.take x.length = x := by rw [hs, List.take_left]
   have e2 : (s.drop (x.length + 1)).take (s.length - (x.length + 1)) = t := by
    rw [List.take_of_length_le (by simp), hs, ← List.drop_drop, List.drop_left]; rfl
   rw [e1, e2]
   clear w1
   refine vn (by omega) (vp (by omega) (vp (by omega) (vp (by omega) (vp (by omega) (vp (by omega) (vq (r := ((acc ++ [x] ++ parts b 0 t).map bD)) ?_ (by simp)))))))
   simpa using this
theorem GV (s : Str) (hs : s.length ≤ 1048576) : Ev (fun k => dV.f k (bD s) 59) ((parts 59 0 s).map bD) := by
 have := E8 59 (by decide) s.length s [] (Nat.le_refl _) (by simpa using hs)
 unfold dV.f
 simpa using this
def Ip (acc : List Str) : Option (List Str) → List ByteArray × Bool
 | none => ([], false)
 | some ws => ((acc ++ ws).map bD, true)
/-- The run of an atom, from its begin. -/
theorem Iq (l : Str) (acc : List Str) (hl : l.length ≤ 1048576) (ha : acc.length ≤ 1048576) (p : Str) (v : List ByteArray × Bool) : ∀ (r a : Str), l = p ++ (a ++ r) → a.all xA = true →
  (a ++ r.takeWhile xA = [] → v = ([], false)) →
  (a ++ r.takeWhile xA ≠ [] → Ev (fun k => dS.l0 k (bD l) ((acc ++ [a ++ r.takeWhile xA]).map bD) (((p ++ (a ++ r.takeWhile xA)).length : Nat) : Int) false) v) →
  Ev (fun k => dS.l1 k (bD l) (acc.map bD) (p.length : Int) (((p ++ a).length : Nat) : Int)) v := by
 intro r
 induction r with
 | nil =>
  intro a h h2 h3 h4
  have hz : l.length = p.length + a.length := by rw [h]; simp
  have hpa : (p ++ a).length = p.length + a.length := by simp
  simp only [List.takeWhile_nil, List.append_nil] at h3 h4
  refine vc ?_
  simp only [dS.l1, ay, List.length_map]
  refine vn (by omega) ?_
  by_cases e : a = []
  ·
   rw [h3 e]; subst e; exact vp (by simp) (vs _)
  ·
   have hne : 0 < a.length := List.length_pos_iff.mpr e
   have ex : (bD l).extract (p.length : Int).toNat (((p ++ a).length : Nat) : Int).toNat = bD a := by
    rw [Int.toNat_natCast, Int.toNat_natCast, jV, BZ h, hpa, List.append_nil]
    rw [List.take_of_length_le (by omega)]
   rw [ex]
   have := h4 e
   rw [List.map_append, List.map_singleton] at this
   exact vn (by omega) (vp (by omega) (vp (by omega) (vp (by omega) (vp (by omega) this))))
 | cons c r ih =>
  intro a h h2 h3 h4
  have hz : l.length = p.length + (a.length + (r.length + 1)) := by rw [h]; simp
  have hpa : (p ++ a).length = p.length + a.length := by simp
  have e1 : bt (bD l) (((p ++ a).length : Nat) : Int) = (c.toNat : Int) := jL (l := l) (p := p ++ a) (c := c) (r := r) (by rw [h]; simp)
  have w1 : wrap64 ((((p ++ a).length : Nat) : Int) + 1) = ((p ++ (a ++ [c])).length : Int) := (bf (by omega) (by omega)).trans (by simp only [List.length_append, List.length_cons, List.length_nil]; omega)
  refine vc ?_
  simp only [dS.l1, ay, List.length_map, e1, w1]
  clear e1 w1
  refine vp (by omega) (vp (by omega) (jB (yj c) ?_))
  cases e : xA c with
  | true =>
   refine vp rfl ?_
   have ec : a ++ (c :: r).takeWhile xA = a ++ [c] ++ r.takeWhile xA := by simp [List.takeWhile, e]
   refine ih (a ++ [c]) (by rw [h]; simp) (by simp [h2, e]) (fun hh => h3 (by rw [ec]; exact hh)) (fun hh => ?_)
   have := h4 (by rw [ec]; exact hh)
   rwa [ec] at this
  | false =>
   have et : (c :: r).takeWhile xA = [] := by simp [List.takeWhile, e]
   rw [et, List.append_nil] at h3 h4
   refine vn (by simp) ?_
   by_cases e : a = []
   ·
    rw [h3 e]; subst e; exact vp (by simp) (vs _)
   ·
    have hne : 0 < a.length := List.length_pos_iff.mpr e
    have ex : (bD l).extract (p.length : Int).toNat (((p ++ a).length : Nat) : Int).toNat = bD a := by
     rw [Int.toNat_natCast, Int.toNat_natCast, jV, BZ h, hpa, show p.length + a.length - p.length = a.length by omega, List.take_left]
    rw [ex]
    have := h4 e
    rw [List.map_append, List.map_singleton] at this
    exact vn (by omega) (vp (by omega) (vp (by omega) (vp (by omega) (vp (by omega) this))))
theorem Dy (p : UInt8 → Bool) (l : Str) : l.takeWhile p ++ l.dropWhile p = l := List.takeWhile_append_dropWhile
theorem GX (l : Str) (hl : l.length ≤ 1048576) : ∀ (n : Nat) (r p : Str) (acc : List Str) (a : Bool), r.length < n → l = p ++ r → acc.length ≤ p.length → Ev (fun k => dS.l0 k (bD l) (acc.map bD) (p.length : Int) a) (Ip acc (MJ n a r)) := by
 intro n
 induction n with
 | zero => intro r p acc a h; omega
 | succ n ih =>
  intro r p acc a h h2 h3
  refine vc ?_
  cases r with
  | nil =>
   rw [List.append_nil] at h2
   subst h2
   simp only [dS.l0, ay]
   exact vn (by omega) (vq (vs _) (by simp [MJ, Ip]))
  | cons c r =>
   simp only [List.length_cons] at h
   have hz := jc h2
   have e1 := jL h2
   have w1 : wrap64 ((p.length : Int) + 1) = (((p ++ [c]).length : Nat) : Int) := (bf (by omega) (by omega)).trans (by simp)
   have h32 : (c.toNat : Int) = 32 ↔ c = 32 := yM c 32 (by omega)
   have RV : (c.toNat : Int) = 34 ↔ c = 34 := yM c 34 (by omega)
   have ex : (bD l).extract (p.length : Int).toNat l.length = bD (c :: r) := by
    rw [Int.toNat_natCast, jV, BZ h2, List.take_of_length_le (by simp only [List.length_cons]; omega)]
   simp only [dS.l0, e1, w1, ay, ex, List.length_map]
   clear e1 w1 ex
   rw [MJ]
   refine vp (by omega) (vp (by omega) ?_)
   by_cases c1 : (c.toNat : Int) = 32
   ·
    rw [if_pos (h32.mp c1)]
    exact vp c1 (ih r (p ++ [c]) acc true (by omega) (by rw [h2]; simp) (by simp; omega))
   ·
    rw [if_neg (fun hh => c1 (h32.mpr hh))]
    refine vn c1 ?_
    cases a with
    | false => exact vn (by simp) (vq (vs _) rfl)
    | true =>
     refine vp rfl ?_
     rw [if_neg (by simp)]
     by_cases c2 : (c.toNat : Int) = 34
     ·
      rw [if_pos (RV.mp c2)]
      refine vp c2 (vp (by omega) (vb (GU c r (by omega)) ?_))
      cases e : MI r with
      | none => exact vn (by simp [TF]) (vq (vs _) rfl)
      | some q =>
       obtain ⟨w, t⟩ := q
       obtain ⟨m, h4, h5, _⟩ := H_ 0 r.length r w t (Nat.le_refl _) e
       have hm : r.length = m.length + t.length := by rw [h4, List.length_append]
       have := ih t (p ++ c :: m) (acc ++ [w]) false (by omega) (by rw [h2, h4]; simp) (by simp; omega)
       have w2 : wrap64 ((p.length : Int) + ((r.length + 1 - t.length : Nat) : Int)) = ((p ++ c :: m).length : Int) := (bf (by omega) (by omega)).trans (by simp only [List.length_append, List.length_cons]; omega)
       simp only [TF, List.nil_append, w2]
       rw [List.map_append, List.map_singleton] at this
       refine vp trivial (vp (by omega) (vq this ?_))
       cases MJ n false t with
       | none => rfl
       | some ws => simp [Ip]
     ·
      rw [if_neg (fun hh => c2 (RV.mpr hh))]
      refine vn c2 ?_
      have hsw := Dy xA (c :: r)
      refine Iq l acc hl (by omega) p _ (c :: r) [] h2 rfl (fun hh => ?_) (fun hh => ?_) |> fun hq => by simpa using hq
      ·
       rw [List.nil_append] at hh; rw [if_pos hh]; rfl
      ·
       rw [List.nil_append] at hh ⊢
       rw [if_neg hh]
       have hne : 0 < ((c :: r).takeWhile xA).length := List.length_pos_iff.mpr hh
       have hlen : ((c :: r).takeWhile xA).length + ((c :: r).dropWhile xA).length = r.length + 1 := by
        have := congrArg List.length hsw
        rwa [List.length_append, List.length_cons] at this
       have := ih ((c :: r).dropWhile xA) (p ++ (c :: r).takeWhile xA) (acc ++ [(c :: r).takeWhile xA]) false (by omega) (by rw [List.append_assoc, hsw]; exact h2) (by simp only [List.length_append, List.length_cons, List.length_nil]; omega)
       refine vq this ?_
       cases MJ n false ((c :: r).dropWhile xA) with
       | none => rfl
       | some ws => simp [Ip]
theorem B_ (l : Str) (hl : l.length ≤ 1048576) (ht : lX l = true) : Ev (fun k => dS.f k (bD l)) (Ip [] (words l)) := by
 unfold dS.f
 refine vb (qQ l (by omega)) (vp ht ?_)
 exact GX l hl (l.length + 1) l [] [] true (by omega) rfl (by simp)
/-! The program's ParseKind. -/
def PS : Option (Str × Str × List (Str × Str)) → ByteArray × ByteArray × List gK × Bool
 | none => (bD [], bD [], [], false)
 | some x => (bD x.1, bD x.2.1, x.2.2.map uw, true)
theorem FI (l : Str) (hl : l.length ≤ 1048576) : lJ.f (bD l) ⟨#[32]⟩ = some (bD (trim l)) := by
 unfold lJ.f
 rw [if_pos rfl, if_pos (by rw [ay]; omega)]
 rfl
def GY (s : Str) : Option (Str × Str) → ByteArray × ByteArray × Bool
 | none => (bD s, bD [], false)
 | some x => (bD x.1, bD x.2, true)
theorem GZ (b : UInt8) (l : Str) (hl : l.length ≤ 1048576) : strings_Cut.f (bD l) ⟨#[b]⟩ = some (GY l (zx b l)) := by
 unfold strings_Cut.f
 rw [if_pos (by rw [ay]; omega)]
 have e : Lib.cut (bD l).data.toList (⟨#[b]⟩ : ByteArray).data.toList = Lib.cut l [b] := rfl
 rw [e, aw2]
 cases zx b l with
 | none => rfl
 | some x => rfl
theorem Yr {b : UInt8} {s x t : Str} (h : zx b s = some (x, t)) : s.length = x.length + t.length + 1 := by
 rw [WH b s x t h]; simp; omega
theorem R_ {s t : Str} (h : lX s = true) (hl : t.length ≤ s.length) (hm : ∀ c ∈ t, c ∈ s) : lX t = true := by
 unfold lX at *
 simp only [Bool.and_eq_true, List.all_eq_true, decide_eq_true_iff] at *
 exact ⟨fun c hc => h.1 c (hm c hc), by omega⟩
theorem ajl : ∀ (n : Nat) (a : Bool) (s : Str) (ws : List Str), MJ n a s = some ws → ∀ w ∈ ws, w.length ≤ s.length := by
 intro n
 induction n with
 | zero => intro a s ws h; cases h
 | succ n ih =>
  intro a s ws h
  cases s with
  | nil => simp only [MJ, Option.some.injEq] at h; subst h; simp
  | cons c r =>
   rw [MJ] at h
   split at h
   ·
    intro w hw; have := ih _ _ _ h w hw; simp only [List.length_cons]; omega
   ·
    split at h
    ·
     cases h
    ·
     split at h
     ·
      cases e : MI r with
      | none => rw [e] at h; cases h
      | some q =>
       obtain ⟨w1, t⟩ := q
       obtain ⟨m, h4, h5, _⟩ := H_ 0 r.length r w1 t (Nat.le_refl _) e
       have hm : r.length = m.length + t.length := by rw [h4, List.length_append]
       rw [e] at h
       simp only [Option.map_eq_some_iff] at h
       obtain ⟨v, e1, rfl⟩ := h
       intro w hw
       simp only [List.length_cons]
       rcases List.mem_cons.mp hw with rfl | hw
       ·
        omega
       ·
        have := ih _ _ _ e1 w hw; omega
     ·
      split at h
      ·
       cases h
      ·
       simp only [Option.map_eq_some_iff] at h
       obtain ⟨v, e1, rfl⟩ := h
       have hlen := congrArg List.length (Dy xA (c :: r))
       rw [List.length_append] at hlen
       intro w hw
       rcases List.mem_cons.mp hw with rfl | hw
       ·
        omega
       ·
        have := ih _ _ _ e1 w hw; omega
theorem Ux {s : Str} {ws : List Str} (h : words s = some ws) : ∀ w ∈ ws, w.length ≤ s.length := ajl _ _ _ _ h
/-- What is lacking: the kind is read out of the head and the parameters that are read. -/
def fin1 (ok : Bool) (m u : Str) (ps : List (Str × Str)) : Option (Str × Str × List (Str × Str)) := if ok = true ∧ wR m u ps = true then some (m, u, ps) else none
def PU (ok : Bool) (m u : Str) (q : List (Str × Str)) : Option (List (Str × Str)) → Option (Str × Str × List (Str × Str))
 | none => none
 | some ps => fin1 ok m u (q ++ ps)
theorem Uy (ok : Bool) (m u : Str) (q : List (Str × Str)) (x : Str × Str) (o : Option (List (Str × Str))) : PU ok m u q (o.map (x :: ·)) = PU ok m u (q ++ [x]) o := by
 cases o with
 | none => rfl
 | some ps => simp [PU]
theorem Ju (ok : Bool) (m u : Str) (ps : List (Str × Str)) (hm : m.length ≤ 1048576) (hu : u.length ≤ 1048576) (hz : BA ps ≤ 1048576) (hn : ps.length ≤ 1048576) :
  Ev (fun k => if ok = true then ((bV.f k (bD m) (bD u) (ps.map uw)).bind fun t => (if t = true then (some (bD m, bD u, ps.map uw, true)) else (some ((⟨#[]⟩ : ByteArray), (⟨#[]⟩ : ByteArray), ([] : List gK), false)))) else (some ((⟨#[]⟩ : ByteArray), (⟨#[]⟩ : ByteArray), ([] : List gK), false))) (PS (fin1 ok m u ps)) := by
 cases ok with
 | false => exact vn (by simp) (vq (vs _) (by unfold fin1; rw [if_neg (by simp)]; rfl))
 | true =>
  refine vp rfl (vb (Dw m u ps hm hu hz hn) ?_)
  cases e : wR m u ps with
  | true => exact vp rfl (vq (vs _) (by unfold fin1; rw [if_pos ⟨rfl, e⟩]; rfl))
  | false => exact vn (by simp) (vq (vs _) (by unfold fin1; rw [if_neg (by simp [e])]; rfl))
theorem AY (ok : Bool) (xs : List Str) (m u : Str) (hx : xs.length ≤ 1000) (ht : ∀ x ∈ xs, lX x = true) (hm : m.length ≤ 1048576) (hu : u.length ≤ 1048576) : ∀ (r p : List Str) (q : List (Str × Str)), xs = p ++ r → q.length ≤ p.length → BA q ≤ 400 * q.length →
  Ev (fun k => cZ.l0 k ok (xs.map bD) (xs.length : Int) (p.length : Int) (bD m) (bD u) (q.map uw)) (PS (PU ok m u q (RZ r))) := by
 intro r
 induction r with
 | nil =>
  intro p q h hq hz
  rw [List.append_nil] at h
  subst h
  refine vc ?_
  simp only [cZ.l0]
  refine vn (by omega) ?_
  have := Ju ok m u q hm hu (by omega) (by omega)
  simpa [RZ, PU] using this
 | cons c r ih =>
  intro p q h hq hz
  have hz2 := jc h
  have e1 := xQ h
  have htc := ht c (by rw [h]; simp)
  have hcl := Jq htc
  have w1 : wrap64 ((p.length : Int) + 1) = ((p ++ [c]).length : Int) := (bf (by omega) (by omega)).trans (by simp)
  have hcut := GZ 61 c (by omega)
  refine vc ?_
  simp only [cZ.l0, e1, hcut, List.length_map, Option.bind_some]
  clear e1 hcut
  have hbad : ∀ (x11 : ByteArray) (x14 : List ByteArray), Ev (fun k => cZ.j1 k ok x11 x14 (xs.map bD) (xs.length : Int) (p.length : Int) true (bD m) (bD u) (q.map uw)) (PS none) := by
   intro x11 x14
   refine vc ?_
   simp only [cZ.j1]
   exact vp trivial (vs _)
  refine vp (by omega) (vp (by omega) (vp (by omega) ?_))
  cases e : zx 61 c with
  | none =>
   simp only [GY]
   refine vb (B_ [] (by simp) (by decide)) (vn (by simp) (vq (hbad _ _) ?_))
   rw [RZ, Jt, e]; rfl
  | some x =>
   obtain ⟨n, v⟩ := x
   have hlen := Yr e
   have hvs : lX v = true := R_ htc (by omega) (fun d hd => by rw [WH 61 c n v e]; simp [hd])
   simp only [GY]
   refine vb (B_ v (by omega) hvs) (vp trivial ?_)
   cases e2 : words v with
   | none =>
    refine vn (by simp [Ip]) (vq (hbad _ _) ?_)
    rw [RZ, Jt, e]; simp only [e2]; rfl
   | some ws =>
    simp only [Ip, List.nil_append]
    refine vp trivial ?_
    by_cases h1 : ws.length = 1
    ·
     obtain ⟨w, rfl⟩ := List.length_eq_one_iff.mp h1
     have hwl := Ux e2 w (by simp)
     have hnl := Eo n
     have e3 : Jt c = some (low (trim n), w) := by rw [Jt, e]; simp only [e2]
     have := ih (p ++ [c]) (q ++ [(low (trim n), w)]) (by rw [h]; simp) (by simp; omega) (by rw [yt]; simp only [BA, List.length_append, List.length_cons, List.length_nil, Dv]; omega)
     have ht := FI n (by omega)
     have hl := nK (trim n) (by omega)
     refine vc ?_
     simp only [cZ.j1, List.map_cons, List.map_nil, List.length_cons, List.length_nil, ht, hl, w1, Option.bind_some, List.length_map]
     clear w1 ht hl
     refine vn (by simp) (vp (by omega) (vp (by omega) ?_))
     rw [RZ, e3]
     simp only
     rw [Uy]
     rw [List.map_append] at this
     exact this
    ·
     have e4 : ((((ws.map bD).length : Nat) : Int) != 1) = true := by
      rw [List.length_map]; simp only [bne_iff_ne, ne_eq]; omega
     rw [e4]
     refine vq (hbad _ _) ?_
     have e3 : Jt c = none := by
      rw [Jt, e]
      simp only [e2]
      match ws, h1 with
      | [], _ => rfl
      | [w], h1 => exact absurd rfl h1
      | _ :: _ :: _, _ => rfl
     rw [RZ, e3]; rfl
theorem acJ (o : Option (Str × Str)) (ps : Option (List (Str × Str))) (s : Str) : pkO o ps = PU (GY s o).2.2 (match o with
  | none => low s
  | some x => low x.1) (match o with
  | none => []
  | some x => low x.2) [] ps := by
 cases o with
 | none => cases ps with
  | none => rfl
  | some p => simp [pkO, PU, fin1, GY]
 | some x => cases ps with
  | none => rfl
  | some p => simp [pkO, PU, fin1, GY]
theorem ML (s : Str) (hs : s.length ≤ 1048576) : Ev (fun k => cZ.f k (bD s)) (PS (pk s)) := by
 unfold cZ.f pk
 refine vb (qQ s (by omega)) ?_
 cases et : lX s with
 | false => exact vn (by simp) (vq (vs _) rfl)
 | true =>
  refine vp rfl (vb (GV s hs) ?_)
  rw [if_pos rfl]
  have hpl := Uu 59 s 0
  have hpm := adC 59 s 0
  have hsl := Jq et
  generalize parts 59 0 s = xs at hpl hpm ⊢
  cases xs with
  | nil => simp at hpl
  | cons h0 r =>
   have hh := hpm h0 (by simp)
   have htl := Eo h0
   have e0 : qg ByteArray.empty (bD h0 :: r.map bD) 0 = bD h0 := rfl
   have et := FI h0 (by omega)
   have ec := GZ 47 (trim h0) (by omega)
   have hr : r.length ≤ 1000 := by simp only [List.length_cons] at hpl; omega
   simp only [e0, et, ec, List.length_map, List.length_cons, Option.bind_some, List.drop_one, List.map_cons, List.tail_cons, List.headD_cons]
   rw [acJ _ _ (trim h0)]
   have htv : ∀ x ∈ r, lX x = true := fun x hx => by
    have := hpm x (by simp [hx])
    exact R_ (by assumption) this.1 this.2
   cases e : zx 47 (trim h0) with
   | none =>
    simp only [GY]
    have l1 := nK (trim h0) (by omega)
    have l2 := nK [] (by simp)
    have := AY false r (low (trim h0)) (low []) hr htv (by rw [Dv]; omega) (by simp [low]) r [] [] rfl (by simp) (by simp [BA])
    simp only [l1, l2, Option.bind_some]
    refine vp (by omega) (vp (by omega) ?_)
    simpa [low] using this
   | some x =>
    obtain ⟨a, b⟩ := x
    have hlen := Yr e
    simp only [GY]
    have l1 := nK a (by omega)
    have l2 := nK b (by omega)
    have := AY true r (low a) (low b) hr htv (by rw [Dv]; omega) (by rw [Dv]; omega) r [] [] rfl (by simp) (by simp [BA])
    simp only [l1, l2, Option.bind_some]
    refine vp (by omega) (vp (by omega) ?_)
    simpa using this
/-! A valid kind is read back. -/
theorem ajm (c : UInt8) : WG c = true → c ≠ 34 ∧ c ≠ 59 ∧ c ≠ 47 ∧ c ≠ 61 ∧ c ≠ 32 ∧ okB c = true := by
 revert c
 exact RS (by decide +kernel)
theorem agU {l : Str} (h : Ik l = true) : ∀ c ∈ l, WG c = true := by
 unfold Ik at h
 simp only [Bool.and_eq_true, List.all_eq_true] at h
 exact h.2
theorem Z8 {l : Str} (h : isSmall l = true) : Ik l = true ∧ low l = l := by
 unfold isSmall at h
 simpa using h
def aBs (x : Str) (l : List Str) : List Str := x.foldr hd1 l
def Pass (b : UInt8) (x : Str) : Prop := ∀ t, parts b 0 (x ++ t) = aBs x (parts b 0 t)
def seg (p : Str × Str) : Str := 32 :: (p.1 ++ [61] ++ qw p.2)
theorem acK : ∀ (ps q : List (Str × Str)), kfl q ps = true → ∀ p ∈ ps, isSmall p.1 = true ∧ lX p.2 = true ∧ p.2.length ≤ 40 := by
 intro ps
 induction ps with
 | nil => intro q h p hp; cases hp
 | cons c r ih =>
  intro q h p hp
  rw [kfl] at h
  simp only [Bool.and_eq_true, decide_eq_true_iff] at h
  rcases List.mem_cons.mp hp with rfl | hp
  ·
   exact ⟨h.1.1.1, h.1.1.2.1, h.1.1.2.2⟩
  ·
   exact ih _ h.2 p hp
theorem MN {a b : Str} {ps : List (Str × Str)} (h : wR a b ps = true) : isSmall a = true ∧ isSmall b = true ∧ ps.length ≤ 4 ∧ kfl [] ps = true ∧ (MF a b ps).length ≤ 150 := by
 unfold wR at h
 simp only [Bool.and_eq_true, decide_eq_true_iff] at h
 obtain ⟨⟨⟨⟨h1, h2⟩, h3⟩, h4⟩, h5⟩ := h
 exact ⟨h1, h2, by omega, h4, h5⟩
/-- What is read is valid. -/
theorem agV {s a b : Str} {ps : List (Str × Str)} (h : pk s = some (a, b, ps)) : wR a b ps = true := by
 unfold pk at h
 split at h
 ·
  unfold pkO at h
  split at h
  ·
   split at h
   ·
    rename_i hk
    cases h; exact hk
   ·
    cases h
  ·
   cases h
 ·
  cases h
/-! The reference's ParseKind. -/
def TG (L : Nat) (acc : Str) : Option (Str × Str) → ByteArray × Int
 | none => (bD [], -1)
 | some q => (bD (acc ++ q.1), ((L - q.2.length : Nat) : Int))
theorem Uz {l p r : Str} {c : UInt8} (h : l = p ++ c :: r) : (l.drop p.length).take (p.length + 1 - p.length) = [c] := by
 rw [BZ h, show p.length + 1 - p.length = 1 by omega]; rfl
theorem Om (l : Str) (hl : l.length ≤ 1048576) : ∀ (n : Nat) (r p acc : Str), r.length ≤ n → l = p ++ r → acc.length ≤ p.length → Ev (fun k => gX.l0 k (bD l) (bD acc) (p.length : Int)) (TG l.length acc (MI r)) := by
 intro n
 induction n with
 | zero =>
  intro r p acc h h2 h3
  have : r = [] := List.length_eq_zero_iff.mp (by omega)
  subst this
  rw [List.append_nil] at h2
  subst h2
  refine vc ?_
  simp only [gX.l0, ay]
  exact vn (by omega) (vq (vs _) rfl)
 | succ n ih =>
  intro r p acc h h2 h3
  cases r with
  | nil =>
   rw [List.append_nil] at h2
   subst h2
   refine vc ?_
   simp only [gX.l0, ay]
   exact vn (by omega) (vq (vs _) rfl)
  | cons c r =>
   simp only [List.length_cons] at h
   have hz := jc h2
   have e1 := jL h2
   have w1 : wrap64 ((p.length : Int) + 1) = ((p.length + 1 : Nat) : Int) := (bf (by omega) (by omega)).trans (by omega)
   have RV : (c.toNat : Int) = 34 ↔ c = 34 := yM c 34 (by omega)
   have h92 : (c.toNat : Int) = 92 ↔ c = 92 := yM c 92 (by omega)
   have e4 := Uz h2
   refine vc ?_
   simp only [gX.l0, e1, w1, ay, Int.toNat_natCast, jV, e4, kY]
   clear e1 w1 e4
   rw [En]
   refine vp (by omega) (vp (by omega) ?_)
   by_cases c1 : (c.toNat : Int) = 34
   ·
    refine vp c1 (vq (vs _) ?_)
    rw [if_pos (RV.mp c1), TG, show l.length - r.length = p.length + 1 by omega]
    simp
   ·
    refine vn c1 ?_
    rw [if_neg (fun hh => c1 (RV.mpr hh))]
    by_cases c2 : (c.toNat : Int) = 92
    ·
     refine vp c2 ?_
     rw [if_pos (h92.mp c2)]
     cases r with
     | nil =>
      simp only [List.length_nil] at hz
      exact vp (by omega) (vq (vs _) rfl)
     | cons d r =>
      simp only [List.length_cons] at h hz
      have w2 : wrap64 (((p.length + 1 : Nat) : Int) + 1) = ((p.length + 2 : Nat) : Int) := (bf (by omega) (by omega)).trans (by omega)
      have hd : l = (p ++ [c]) ++ d :: r := by rw [h2]; simp
      have e5 : (l.drop (p.length + 1)).take (p.length + 2 - (p.length + 1)) = [d] := by
       have := Uz hd
       rwa [List.length_append] at this
      have := ih r (p ++ [c, d]) (acc ++ [d]) (by omega) (by rw [h2]; simp) (by simp; omega)
      rw [List.length_append] at this
      rw [w2, Int.toNat_natCast, e5]
      clear w2 e5
      refine vn (by omega) (vp (by omega) (vp (by omega) (vp (by omega) (vp (by simp only [List.length_cons, List.length_nil]; omega) (vq this ?_)))))
      show _ = TG l.length acc ((MI r).map fun q => (d :: q.1, q.2))
      cases MI r with
      | none => rfl
      | some q => simp [TG]
    ·
     refine vn c2 ?_
     rw [if_neg (fun hh => c2 (h92.mpr hh))]
     have := ih r (p ++ [c]) (acc ++ [c]) (by omega) (by rw [h2]; simp) (by simp; omega)
     rw [List.length_append] at this
     refine vp (by omega) (vp (by omega) (vp (by simp only [List.length_cons, List.length_nil]; omega) (vq this ?_)))
     cases MI r with
     | none => rfl
     | some q => simp [TG]
theorem G5 {l p r : Str} {c : UInt8} (h : l = p ++ c :: r) (hl : l.length ≤ 1048576) : Ev (fun k => gX.f k (bD l) (p.length : Int)) (TG l.length [] (MI r)) := by
 have hz := jc h
 have := Om l hl r.length r (p ++ [c]) [] (Nat.le_refl _) (by rw [h]; simp) (by simp)
 have w1 : wrap64 ((p.length : Int) + 1) = ((p ++ [c]).length : Int) := (bf (by omega) (by omega)).trans (by simp)
 unfold gX.f
 rw [w1]
 exact this
def acL (s p : Str) : Option (Str × Str) → ByteArray × ByteArray × Bool
 | none => (bD s, bD [], false)
 | some x => (bD (p ++ x.1), bD x.2, true)
theorem PV (l : Str) (b : UInt8) (hb : b ≠ 34) (hl : l.length ≤ 1048576) : ∀ (n : Nat) (r p : Str), r.length ≤ n → l = p ++ r → Ev (fun k => jC.l0 k (bD l) (b.toNat : Int) (p.length : Int)) (acL l p (uh b 0 r)) := by
 intro n
 induction n with
 | zero =>
  intro r p h h2
  have : r = [] := List.length_eq_zero_iff.mp (by omega)
  subst this
  rw [List.append_nil] at h2
  subst h2
  refine vc ?_
  simp only [jC.l0, ay]
  exact vn (by omega) (vq (vs _) rfl)
 | succ n ih =>
  intro r p h h2
  cases r with
  | nil =>
   rw [List.append_nil] at h2
   subst h2
   refine vc ?_
   simp only [jC.l0, ay]
   exact vn (by omega) (vq (vs _) rfl)
  | cons c r =>
   simp only [List.length_cons] at h
   have hz := jc h2
   have e1 := jL h2
   have w1 : wrap64 ((p.length : Int) + 1) = ((p.length + 1 : Nat) : Int) := (bf (by omega) (by omega)).trans (by omega)
   have RV : (c.toNat : Int) = 34 ↔ c = 34 := yM c 34 (by omega)
   have hbb := agT c b
   have x1 : (l.drop 0).take (p.length - 0) = p := by rw [List.drop_zero, Nat.sub_zero, h2, List.take_left]
   have x2 : (l.drop (p.length + 1)).take (l.length - (p.length + 1)) = r := by
    rw [List.take_of_length_le (by simp), h2, ← List.drop_drop, List.drop_left]; rfl
   refine vc ?_
   simp only [jC.l0, e1, w1, ay, Int.toNat_natCast, jV, x1, x2]
   clear e1 w1 x1 x2
   rw [uh]
   refine vp (by omega) (vp (by omega) ?_)
   by_cases c1 : (c.toNat : Int) = 34
   ·
    have hc := RV.mp c1
    refine vp c1 (vb (G5 h2 hl) ?_)
    rw [if_neg (show ¬ ((0 : Nat) = 0 ∧ c = b) from fun hh => hb (hh.2.symm.trans hc)), show nq 0 c = 1 by rw [hc]; rfl]
    cases e : MI r with
    | none => rw [Yo b r.length r (Nat.le_refl _) e]; exact vp (by simp [TG]) (vq (vs _) rfl)
    | some q =>
     obtain ⟨w, t⟩ := q
     obtain ⟨m, h3, h4, h5⟩ := H_ b r.length r w t (Nat.le_refl _) e
     have hm : r.length = m.length + t.length := by rw [h3, List.length_append]
     have := ih t (p ++ c :: m) (by omega) (by rw [h2, h3]; simp)
     have ei : l.length - t.length = (p ++ c :: m).length := by simp only [List.length_append, List.length_cons]; omega
     simp only [TG, ei]
     refine vn (by omega) ?_
     rw [h5]
     refine vq this ?_
     cases uh b 0 t with
     | none => rfl
     | some x => simp [acL]
   ·
    refine vn c1 ?_
    have hc : ¬ c = 34 := fun hh => c1 (RV.mpr hh)
    by_cases c2 : c = b
    ·
     rw [if_pos (show (0 : Nat) = 0 ∧ c = b from ⟨rfl, c2⟩)]
     exact vp (hbb.mpr c2) (vp (by omega) (vp (by omega) (vp (by omega) (vq (vs _) (by simp [acL])))))
    ·
     rw [if_neg (show ¬ ((0 : Nat) = 0 ∧ c = b) from fun hh => c2 hh.2), show nq 0 c = 0 by simp [nq, hc]]
     have := ih r (p ++ [c]) (by omega) (by rw [h2]; simp)
     rw [List.length_append] at this
     refine vn (fun hh => c2 (hbb.mp hh)) (vq this ?_)
     cases uh b 0 r with
     | none => rfl
     | some x => simp [acL]
theorem z_ (l : Str) (b : UInt8) (hb : b ≠ 34) (hl : l.length ≤ 1048576) : Ev (fun k => jC.f k (bD l) (b.toNat : Int)) (GY l (uh b 0 l)) := by
 refine vq (PV l b hb hl l.length l [] (Nat.le_refl _) rfl) ?_
 cases uh b 0 l <;> rfl
def UA (l : Str) : Str := (l.reverse.dropWhile (· == 32)).reverse
theorem Z9 (l : Str) (c : UInt8) : UA (l ++ [c]) = if c = 32 then UA l else l ++ [c] := by
 unfold UA
 rw [List.reverse_append, List.reverse_singleton, List.singleton_append, List.dropWhile]
 by_cases h : c = 32
 ·
  simp [h]
 ·
  rw [show (c == 32) = false by simp [h]]; simp [h]
theorem Dz : ∀ (n : Nat) (s : Str), s.length ≤ n → s.length ≤ 1048576 → Ev (fun k => bW.l1 k (bD s)) (bD (UA s)) := by
 intro n
 induction n with
 | zero =>
  intro s h _
  have : s = [] := List.length_eq_zero_iff.mp (by omega)
  subst this
  refine vc ?_
  simp only [bW.l1, ay]
  exact vn (by simp) (vq (vs _) rfl)
 | succ n ih =>
  intro s h hl
  rcases List.eq_nil_or_concat s with rfl | ⟨p, c, rfl⟩
  ·
   refine vc ?_
   simp only [bW.l1, ay]
   exact vn (by simp) (vq (vs _) rfl)
  ·
   rw [List.concat_eq_append] at *
   simp only [List.length_append, List.length_cons, List.length_nil] at h hl
   have hz : (p ++ [c]).length = p.length + 1 := by simp
   have e1 := jL (l := p ++ [c]) (p := p) (c := c) (r := []) rfl
   have w1 : wrap64 (((p ++ [c]).length : Int) - 1) = ((p.length : Nat) : Int) := (bf (by omega) (by omega)).trans (by omega)
   have h32 : (c.toNat : Int) = 32 ↔ c = 32 := yM c 32 (by omega)
   have x1 : ((p ++ [c]).drop 0).take (p.length - 0) = p := by rw [List.drop_zero, Nat.sub_zero, List.take_left]
   refine vc ?_
   simp only [bW.l1, ay, w1, e1, Int.toNat_natCast, jV, x1]
   clear e1 w1 x1
   rw [Z9]
   refine vp (by omega) (vp (by omega) (vp (by omega) ?_))
   by_cases c1 : (c.toNat : Int) = 32
   ·
    rw [if_pos (h32.mp c1)]
    exact vp c1 (vp (by omega) (ih p (by omega) (by omega)))
   ·
    rw [if_neg (fun hh => c1 (h32.mpr hh))]
    exact vn c1 (vs _)
theorem WI (c : UInt8) (r : Str) (h : c ≠ 32) : trim (c :: r) = UA (c :: r) := by
 unfold trim Lib.trimB Lib.trimLeftB Lib.trimRightB UA
 obtain ⟨m, h1, h2⟩ := DR (· == 32) (c :: r).reverse
 have h3 := congrArg List.reverse h1
 rw [List.reverse_reverse, List.reverse_append] at h3
 cases e : ((c :: r).reverse.dropWhile (· == 32)).reverse with
 | nil =>
  rw [e, List.nil_append] at h3
  have : c ∈ m := by
   have : c ∈ m.reverse := by rw [← h3]; simp
   exact List.mem_reverse.mp this
  exact absurd (by simpa using h2 c this) h
 | cons d u =>
  rw [e] at h3
  injection h3 with h4 h5
  subst h4
  rw [List.dropWhile, show (c == 32) = false by simp [h]]
theorem qK (s : Str) (hl : s.length ≤ 1048576) : Ev (fun k => bW.f k (bD s)) (bD (trim s)) := by
 unfold bW.f
 induction s with
 | nil =>
  refine vc ?_
  simp only [bW.l0, ay]
  refine vn (by simp) (vc ?_)
  simp only [bW.j1]
  exact Dz 0 [] (by simp) (by simp)
 | cons c r ih =>
  simp only [List.length_cons] at hl
  have hz : (c :: r).length = r.length + 1 := rfl
  have h32 : (c.toNat : Int) = 32 ↔ c = 32 := yM c 32 (by omega)
  have x1 : ((c :: r).drop 1).take ((c :: r).length - 1) = r := by rw [List.drop_one, List.tail_cons, hz, List.take_of_length_le (by omega)]
  refine vc ?_
  simp only [bW.l0, ay, acE, jV, x1]
  clear x1
  refine vp (by omega) (vp (by omega) ?_)
  by_cases c1 : (c.toNat : Int) = 32
  ·
   rw [h32.mp c1, Uw]
   exact vp (by decide) (vp (by simp; omega) (ih (by omega)))
  ·
   rw [WI c r (fun hh => c1 (h32.mpr hh))]
   refine vn c1 (vc ?_)
   simp only [bW.j1]
   exact Dz (r.length + 1) (c :: r) (by simp) (by simp; omega)
/-- Behind a word: a space or the end, else nothing. -/
theorem Oo (n : Nat) (s : Str) (h : s.length < n) : MJ n false s = if s = [] ∨ s.head? = some 32 then MJ n true s else none := by
 obtain ⟨n, rfl⟩ : ∃ m, n = m + 1 := ⟨n - 1, by omega⟩
 cases s with
 | nil => rw [if_pos (Or.inl rfl)]; rfl
 | cons c r =>
  by_cases c1 : c = 32
  ·
   rw [if_pos (Or.inr (by rw [c1]; rfl)), MJ, MJ, if_pos c1, if_pos c1]
  ·
   rw [if_neg (by simp [c1]), MJ, if_neg c1, if_pos rfl]
theorem Oq (l : Str) (acc : List Str) (hl : l.length ≤ 1048576) (ha : acc.length ≤ 1048576) (p : Str) (v : List ByteArray × Bool) : ∀ (r a : Str), l = p ++ (a ++ r) → a.all xA = true →
  (a ++ r.takeWhile xA = [] → v = ([], false)) →
  (a ++ r.takeWhile xA ≠ [] → ¬ (r.dropWhile xA = [] ∨ (r.dropWhile xA).head? = some 32) → v = ([], false)) →
  (a ++ r.takeWhile xA ≠ [] → (r.dropWhile xA = [] ∨ (r.dropWhile xA).head? = some 32) → Ev (fun k => fQ.l0 k (bD l) ((acc ++ [a ++ r.takeWhile xA]).map bD) (((p ++ (a ++ r.takeWhile xA)).length : Nat) : Int)) v) →
  Ev (fun k => fQ.l1 k (bD l) (acc.map bD) (((p ++ a).length : Nat) : Int) (p.length : Int)) v := by
 intro r
 induction r with
 | nil =>
  intro a h h2 h3 h4 h5
  have hz : l.length = p.length + a.length := by rw [h]; simp
  have hpa : (p ++ a).length = p.length + a.length := by simp
  simp only [List.takeWhile_nil, List.append_nil, List.dropWhile_nil] at h3 h4 h5
  refine vc ?_
  simp only [fQ.l1, ay, List.length_map]
  refine vn (by omega) (vp (by omega) (vp (by omega) (vp (by omega) ?_)))
  by_cases e : a = []
  ·
   rw [h3 e]; subst e; exact vp (by simp) (vs _)
  ·
   have hne : 0 < a.length := List.length_pos_iff.mpr e
   have ex : (bD l).extract (p.length : Int).toNat (((p ++ a).length : Nat) : Int).toNat = bD a := by
    rw [Int.toNat_natCast, Int.toNat_natCast, jV, BZ h, hpa, List.append_nil]
    rw [List.take_of_length_le (by omega)]
   rw [ex]
   have := h5 e (by simp)
   rw [List.map_append, List.map_singleton] at this
   exact vn (by omega) (vp (by omega) this)
 | cons c r ih =>
  intro a h h2 h3 h4 h5
  have hz : l.length = p.length + (a.length + (r.length + 1)) := by rw [h]; simp
  have hpa : (p ++ a).length = p.length + a.length := by simp
  have e1 : bt (bD l) (((p ++ a).length : Nat) : Int) = (c.toNat : Int) := jL (l := l) (p := p ++ a) (c := c) (r := r) (by rw [h]; simp)
  have w1 : wrap64 ((((p ++ a).length : Nat) : Int) + 1) = ((p ++ (a ++ [c])).length : Int) := (bf (by omega) (by omega)).trans (by simp only [List.length_append, List.length_cons, List.length_nil]; omega)
  have h32 : (c.toNat : Int) = 32 ↔ c = 32 := yM c 32 (by omega)
  refine vc ?_
  simp only [fQ.l1, ay, List.length_map, e1, w1]
  clear e1 w1
  refine vp (by omega) (vp (by omega) (vb (BO c) ?_))
  cases e : xA c with
  | true =>
   refine vp rfl ?_
   have ec : a ++ (c :: r).takeWhile xA = a ++ [c] ++ r.takeWhile xA := by simp [List.takeWhile, e]
   have ed : (c :: r).dropWhile xA = r.dropWhile xA := by simp [List.dropWhile, e]
   rw [ec] at h3
   rw [ec, ed] at h4
   rw [ec, ed] at h5
   exact ih (a ++ [c]) (by rw [h]; simp) (by simp [h2, e]) h3 h4 h5
  | false =>
   have et : (c :: r).takeWhile xA = [] := by simp [List.takeWhile, e]
   have ed : (c :: r).dropWhile xA = c :: r := by simp [List.dropWhile, e]
   rw [et, List.append_nil] at h3
   rw [et, ed, List.append_nil] at h4
   rw [et, ed, List.append_nil] at h5
   refine vn (by simp) (vp (by omega) (vp (by omega) (vp (by omega) ?_)))
   by_cases e : a = []
   ·
    rw [h3 e]; subst e; exact vp (by simp) (vs _)
   ·
    have hne : 0 < a.length := List.length_pos_iff.mpr e
    have ex : (bD l).extract (p.length : Int).toNat (((p ++ a).length : Nat) : Int).toNat = bD a := by
     rw [Int.toNat_natCast, Int.toNat_natCast, jV, BZ h, hpa, show p.length + a.length - p.length = a.length by omega, List.take_left]
    rw [ex]
    refine vn (by omega) ?_
    by_cases c1 : (c.toNat : Int) = 32
    ·
     have := h5 e (Or.inr (by rw [h32.mp c1]; rfl))
     rw [List.map_append, List.map_singleton] at this
     exact vp c1 (vp (by omega) this)
    ·
     rw [h4 e (by simp only [List.head?_cons, Option.some.injEq, reduceCtorEq, false_or]; exact fun hh => c1 (h32.mpr hh))]
     exact vn c1 (vs _)
theorem MO (l : Str) (hl : l.length ≤ 1048576) : ∀ (n : Nat) (r p : Str) (acc : List Str), r.length < n → l = p ++ r → acc.length ≤ p.length → Ev (fun k => fQ.l0 k (bD l) (acc.map bD) (p.length : Int)) (Ip acc (MJ n true r)) := by
 intro n
 induction n with
 | zero => intro r p acc h; omega
 | succ n ih =>
  intro r p acc h h2 h3
  refine vc ?_
  cases r with
  | nil =>
   rw [List.append_nil] at h2
   subst h2
   simp only [fQ.l0, ay]
   exact vn (by omega) (vq (vs _) (by simp [MJ, Ip]))
  | cons c r =>
   simp only [List.length_cons] at h
   have hz := jc h2
   have e1 := jL h2
   have w1 : wrap64 ((p.length : Int) + 1) = (((p ++ [c]).length : Nat) : Int) := (bf (by omega) (by omega)).trans (by simp)
   have h32 : (c.toNat : Int) = 32 ↔ c = 32 := yM c 32 (by omega)
   have RV : (c.toNat : Int) = 34 ↔ c = 34 := yM c 34 (by omega)
   simp only [fQ.l0, e1, w1, ay, List.length_map]
   clear e1 w1
   rw [MJ]
   refine vp (by omega) (vp (by omega) ?_)
   by_cases c1 : (c.toNat : Int) = 32
   ·
    rw [if_pos (h32.mp c1)]
    exact vp c1 (ih r (p ++ [c]) acc (by omega) (by rw [h2]; simp) (by simp; omega))
   ·
    rw [if_neg (fun hh => c1 (h32.mpr hh)), if_neg (by simp)]
    refine vn c1 ?_
    by_cases c2 : (c.toNat : Int) = 34
    ·
     rw [if_pos (RV.mp c2)]
     refine vp c2 (vb (G5 h2 hl) ?_)
     cases e : MI r with
     | none => exact vp (by simp [TG]) (vq (vs _) rfl)
     | some q =>
      obtain ⟨w, t⟩ := q
      obtain ⟨m, h4, h5, _⟩ := H_ 0 r.length r w t (Nat.le_refl _) e
      have hm : r.length = m.length + t.length := by rw [h4, List.length_append]
      have hpm : (p ++ c :: m).length = p.length + m.length + 1 := by simp only [List.length_append, List.length_cons]; omega
      have ei : l.length - t.length = (p ++ c :: m).length := by omega
      have := ih t (p ++ c :: m) (acc ++ [w]) (by omega) (by rw [h2, h4]; simp) (by simp; omega)
      rw [List.map_append, List.map_singleton] at this
      simp only [TG, ei, List.nil_append]
      rw [Oo n t (by omega)]
      refine vn (by omega) (vn (by omega) ?_)
      cases t with
      | nil =>
       rw [if_pos (Or.inl rfl)]
       simp only [List.length_nil] at hm ei
       refine vn (by omega) (vp (by omega) (vq this ?_))
       cases MJ n true [] with
       | none => rfl
       | some ws => simp [Ip]
      | cons d t =>
       have e2 : bt (bD l) ((p ++ c :: m).length : Int) = (d.toNat : Int) := jL (l := l) (p := p ++ c :: m) (c := d) (r := t) (by rw [h2, h4]; simp)
       have h32 : (d.toNat : Int) = 32 ↔ d = 32 := yM d 32 (by omega)
       simp only [List.length_cons] at hm
       rw [e2]
       clear e2
       refine vp (by omega) (vp (by omega) ?_)
       by_cases c3 : (d.toNat : Int) = 32
       ·
        rw [if_pos (Or.inr (by rw [h32.mp c3]; rfl))]
        refine vp c3 (vp (by omega) (vq this ?_))
        cases MJ n true (d :: t) with
        | none => rfl
        | some ws => simp [Ip]
       ·
        rw [if_neg (by simp only [List.head?_cons, Option.some.injEq, reduceCtorEq, false_or]; exact fun hh => c3 (h32.mpr hh))]
        exact vn c3 (vq (vs _) rfl)
    ·
     rw [if_neg (fun hh => c2 (RV.mpr hh))]
     refine vn c2 ?_
     have hsw := Dy xA (c :: r)
     have hlen := congrArg List.length hsw
     rw [List.length_append, List.length_cons] at hlen
     have key := Oq l acc hl (by omega) p (Ip acc (if (c :: r).takeWhile xA = [] then none else (MJ n false ((c :: r).dropWhile xA)).map ((c :: r).takeWhile xA :: ·))) (c :: r) [] h2 rfl (fun hh => by rw [List.nil_append] at hh; rw [if_pos hh]; rfl)
     refine (key (fun hh hn => ?_) (fun hh hn => ?_)) |> fun hq => by simpa using hq
     ·
      rw [List.nil_append] at hh
      have hne : 0 < ((c :: r).takeWhile xA).length := List.length_pos_iff.mpr hh
      rw [if_neg hh, Oo _ _ (by omega), if_neg hn]; rfl
     ·
      rw [List.nil_append] at hh ⊢
      have hne : 0 < ((c :: r).takeWhile xA).length := List.length_pos_iff.mpr hh
      rw [if_neg hh, Oo _ _ (by omega), if_pos hn]
      have := ih ((c :: r).dropWhile xA) (p ++ (c :: r).takeWhile xA) (acc ++ [(c :: r).takeWhile xA]) (by omega) (by rw [List.append_assoc, hsw]; exact h2) (by simp only [List.length_append, List.length_cons, List.length_nil]; omega)
      refine vq this ?_
      cases MJ n true ((c :: r).dropWhile xA) with
      | none => rfl
      | some ws => simp [Ip]
theorem FM (l : Str) (hl : l.length ≤ 1048576) : Ev (fun k => fQ.f k (bD l)) (Ip [] (words l)) := by
 unfold fQ.f
 exact MO l hl (l.length + 1) l [] [] (by omega) rfl (by simp)
/-! The reference's ParseKind answers as the program's. -/
theorem apd (s : Str) : ∀ n : Nat, s.length ≤ n → MI (s ++ [32]) = (MI s).map fun q => (q.1, q.2 ++ [32]) := by
 intro n
 induction n generalizing s with
 | zero =>
  intro h
  have : s = [] := List.length_eq_zero_iff.mp (by omega)
  subst this; rfl
 | succ n ih =>
  intro h
  cases s with
  | nil => rfl
  | cons c r =>
   simp only [List.length_cons] at h
   rw [List.cons_append, En, En]
   by_cases c1 : c = 34
   ·
    rw [if_pos c1, if_pos c1]; rfl
   ·
    rw [if_neg c1, if_neg c1]
    by_cases c2 : c = 92
    ·
     rw [if_pos c2, if_pos c2]
     cases r with
     | nil => rfl
     | cons d r =>
      simp only [List.length_cons] at h
      simp only [List.cons_append]
      rw [ih r (by omega)]
      cases MI r <;> rfl
    ·
     rw [if_neg c2, if_neg c2, ih r (by omega)]
     cases MI r <;> rfl
theorem agW (l : Str) : (l ++ [32]).takeWhile xA = l.takeWhile xA ∧ (l ++ [32]).dropWhile xA = l.dropWhile xA ++ [32] := by
 induction l with
 | nil => exact ⟨rfl, rfl⟩
 | cons c r ih =>
  rw [List.cons_append]
  cases e : xA c with
  | true => simp only [List.takeWhile, List.dropWhile, e]; exact ⟨congrArg _ ih.1, ih.2⟩
  | false => simp [List.takeWhile, List.dropWhile, e]
theorem ape : ∀ (n : Nat) (a : Bool) (s : Str), s.length < n → MJ (n + 1) a (s ++ [32]) = MJ n a s := by
 intro n
 induction n with
 | zero => intro a s h; omega
 | succ n ih =>
  intro a s h
  cases s with
  | nil => rfl
  | cons c r =>
   simp only [List.length_cons] at h
   rw [List.cons_append, MJ, MJ, ih true r (by omega)]
   by_cases c1 : c = 32
   ·
    rw [if_pos c1, if_pos c1]
   ·
    rw [if_neg c1, if_neg c1]
    by_cases c2 : a = false
    ·
     rw [if_pos c2, if_pos c2]
    ·
     rw [if_neg c2, if_neg c2]
     by_cases c3 : c = 34
     ·
      rw [if_pos c3, if_pos c3, apd r r.length (Nat.le_refl _)]
      cases e : MI r with
      | none => rfl
      | some q =>
       obtain ⟨w, t⟩ := q
       obtain ⟨m, h4, h5, _⟩ := H_ 0 r.length r w t (Nat.le_refl _) e
       have hm : r.length = m.length + t.length := by rw [h4, List.length_append]
       simp only [Option.map_some]
       rw [ih false t (by omega)]
     ·
      rw [if_neg c3, if_neg c3]
      have hw := agW (c :: r)
      rw [List.cons_append] at hw
      rw [hw.1, hw.2]
      by_cases c4 : (c :: r).takeWhile xA = []
      ·
       rw [if_pos c4, if_pos c4]
      ·
       have hne : 0 < ((c :: r).takeWhile xA).length := List.length_pos_iff.mpr c4
       have hlen := congrArg List.length (Dy xA (c :: r))
       rw [List.length_append, List.length_cons] at hlen
       rw [if_neg c4, if_neg c4, ih false _ (by omega)]
theorem Si (s : Str) : words (s ++ [32]) = words s := by
 unfold words
 rw [List.length_append]
 exact ape (s.length + 1) true s (by omega)
theorem TI (s : Str) : words (32 :: s) = words s := by
 unfold words
 rw [MJ, if_pos rfl]; rfl
/-- What does not mind a space ahead or behind does not mind being trimmed. -/
theorem Yt {α : Type} (f : Str → α) (h1 : ∀ s, f (32 :: s) = f s) (h2 : ∀ s, f (s ++ [32]) = f s) (s : Str) : f (trim s) = f s := by
 have r1 : ∀ (i : Nat) (t : Str), f (List.replicate i 32 ++ t) = f t := by
  intro i
  induction i with
  | zero => intro t; rfl
  | succ i ih => intro t; rw [List.replicate_succ, List.cons_append, h1, ih]
 have r2 : ∀ (j : Nat) (t : Str), f (t ++ List.replicate j 32) = f t := by
  intro j
  induction j with
  | zero => intro t; rw [List.replicate_zero, List.append_nil]
  | succ j ih => intro t; rw [List.replicate_succ', ← List.append_assoc, h2, ih]
 obtain ⟨i, j, e⟩ := Js s
 have : f s = f (List.replicate i 32 ++ trim s ++ List.replicate j 32) := congrArg f e
 rw [this, r2, r1]
theorem Z_ (s : Str) : words (trim s) = words s := Yt words TI Si s
theorem adD (b : UInt8) (hb : b ≠ 32) (s : Str) : zx b (s ++ [32]) = (zx b s).map fun x => (x.1, x.2 ++ [32]) := by
 induction s with
 | nil =>
  have h : ¬ (32 : UInt8) = b := fun h => hb h.symm
  simp [zx, h]
 | cons c r ih =>
  rw [List.cons_append, zx, zx]
  by_cases h : c = b
  ·
   rw [if_pos h, if_pos h]; rfl
  ·
   rw [if_neg h, if_neg h, ih]; cases zx b r <;> rfl
theorem adE (s : Str) : Jt (trim s) = Jt s := by
 refine Yt Jt (fun s => ?_) (fun s => ?_) s
 ·
  unfold Jt
  rw [zx, if_neg (by decide)]
  cases zx 61 s with
  | none => rfl
  | some x => simp only [Option.map_some, Uw]
 ·
  unfold Jt
  rw [adD 61 (by decide)]
  cases zx 61 s with
  | none => rfl
  | some x => simp only [Option.map_some, Si]
/-- Cut outside of quotes, or plainly: the same, or a quote stands in what is ahead. -/
theorem agX (b : UInt8) (s : Str) : uh b 0 s = zx b s ∨ ((∀ x, uh b 0 s = some x → 34 ∈ x.1) ∧ (∀ x, zx b s = some x → 34 ∈ x.1)) := by
 induction s with
 | nil => exact Or.inl rfl
 | cons c r ih =>
  rw [uh, zx]
  by_cases h : c = b
  ·
   rw [if_pos ⟨rfl, h⟩, if_pos h]; exact Or.inl rfl
  ·
   rw [if_neg (fun hh => h hh.2), if_neg h]
   by_cases c1 : c = 34
   ·
    right
    rw [c1]
    refine ⟨fun x hx => ?_, fun x hx => ?_⟩ <;>
    ·
     simp only [Option.map_eq_some_iff] at hx
     obtain ⟨y, _, rfl⟩ := hx
     simp
   ·
    rw [show nq 0 c = 0 by simp [nq, c1]]
    rcases ih with h2 | ⟨h2, h3⟩
    ·
     left; rw [h2]
    ·
     right
     refine ⟨fun x hx => ?_, fun x hx => ?_⟩
     ·
      simp only [Option.map_eq_some_iff] at hx
      obtain ⟨y, hy, rfl⟩ := hx
      simp [h2 y hy]
     ·
      simp only [Option.map_eq_some_iff] at hx
      obtain ⟨y, hy, rfl⟩ := hx
      simp [h3 y hy]
/-- The reference's parameter. -/
def TJ (s : Str) : Option (Str × Str) := match uh 61 0 (trim s) with
 | none => none
 | some x => match words x.2 with
  | some [w] => some (low (trim x.1), w)
  | _ => none
def Bad (o : Option (Str × Str)) : Prop := ∀ x, o = some x → 34 ∈ x.1
theorem WJ {l : Str} (h : (34 : UInt8) ∈ l) : (34 : UInt8) ∈ low l := List.mem_map.mpr ⟨34, h, by decide⟩
theorem apf (s : Str) : TJ s = Jt s ∨ (Bad (TJ s) ∧ Bad (Jt s)) := by
 rw [← adE s]
 unfold TJ Jt
 rcases agX 61 (trim s) with h | ⟨h1, h2⟩
 ·
  left; rw [h]
 ·
  right
  refine ⟨fun x hx => ?_, fun x hx => ?_⟩
  ·
   cases e : uh 61 0 (trim s) with
   | none => rw [e] at hx; cases hx
   | some y =>
    have h3 := h1 y e
    rw [e] at hx
    simp only at hx
    split at hx
    ·
     cases hx; exact WJ (Yp _ _ h3 (by decide))
    ·
     cases hx
  ·
   cases e : zx 61 (trim s) with
   | none => rw [e] at hx; cases hx
   | some y =>
    have h3 := h2 y e
    rw [e] at hx
    simp only at hx
    split at hx
    ·
     cases hx; exact WJ (Yp _ _ h3 (by decide))
    ·
     cases hx
def DC : List Str → Option (List (Str × Str))
 | [] => some []
 | s :: r => match TJ s with
  | none => none
  | some x => (DC r).map (x :: ·)
def adF (o : Option (List (Str × Str))) : Prop := ∀ l, o = some l → ∃ x ∈ l, (34 : UInt8) ∈ x.1
theorem ajn (r : List Str) : DC r = RZ r ∨ (adF (DC r) ∧ adF (RZ r)) := by
 induction r with
 | nil => exact Or.inl rfl
 | cons s r ih =>
  rw [DC, RZ]
  have acM : ∀ (o : Option (Str × Str)) (p : Option (List (Str × Str))), Bad o → adF (match o with
    | none => none
    | some x => p.map (x :: ·)) := by
   intro o p h l hl
   cases o with
   | none => cases hl
   | some x =>
    simp only [Option.map_eq_some_iff] at hl
    obtain ⟨y, _, rfl⟩ := hl
    exact ⟨x, by simp, h x rfl⟩
  have acN : ∀ (o : Option (Str × Str)) (p : Option (List (Str × Str))), adF p → adF (match o with
    | none => none
    | some x => p.map (x :: ·)) := by
   intro o p h l hl
   cases o with
   | none => cases hl
   | some x =>
    simp only [Option.map_eq_some_iff] at hl
    obtain ⟨y, hy, rfl⟩ := hl
    obtain ⟨z, hz, h3⟩ := h y hy
    exact ⟨z, by simp [hz], h3⟩
  rcases apf s with h | ⟨h1, h2⟩
  ·
   rcases ih with h2 | ⟨h2, h3⟩
   ·
    left; rw [h, h2]
   ·
    right; exact ⟨acN _ _ h2, acN _ _ h3⟩
  ·
   right; exact ⟨acM _ _ h1, acM _ _ h2⟩
theorem Sj {l : Str} (h : (34 : UInt8) ∈ l) : isSmall l = false := by
 cases e : isSmall l with
 | false => rfl
 | true => exact absurd rfl (ajm 34 (agU (Z8 e).1 34 h)).1
theorem Sl (a b : Str) (ps : List (Str × Str)) (h : (34 : UInt8) ∈ a ∨ ∃ x ∈ ps, (34 : UInt8) ∈ x.1) : wR a b ps = false := by
 cases e : wR a b ps with
 | false => rfl
 | true =>
  obtain ⟨h1, _, _, h4, _⟩ := MN e
  rcases h with h | ⟨x, hx, h⟩
  ·
   rw [Sj h] at h1; cases h1
  ·
   have := (acK ps [] h4 x hx).1
   rw [Sj h] at this; cases this
/-- The reference's kind. -/
def pkS (s : Str) : Option (Str × Str × List (Str × Str)) := if lX s = true then pkO (uh 47 0 (trim ((parts 59 0 s).headD []))) (DC ((parts 59 0 s).drop 1)) else none
theorem Yu (o : Option (Str × Str)) (p : Option (List (Str × Str))) (h : Bad o) : pkO o p = none := by
 unfold pkO
 split
 ·
  rename_i x ps
  rw [Sl _ _ _ (Or.inl (WJ (h x rfl)))]; rfl
 ·
  rfl
theorem Yv (o : Option (Str × Str)) (p : Option (List (Str × Str))) (h : adF p) : pkO o p = none := by
 unfold pkO
 split
 ·
  rename_i x ps
  rw [Sl _ _ _ (Or.inr (h ps rfl))]; rfl
 ·
  rfl
theorem apg (s : Str) : pkS s = pk s := by
 unfold pkS pk
 split
 ·
  rcases agX 47 (trim ((parts 59 0 s).headD [])) with h | ⟨h1, h2⟩
  ·
   rw [h]
   rcases ajn ((parts 59 0 s).drop 1) with h3 | ⟨h3, h4⟩
   ·
    rw [h3]
   ·
    rw [Yv _ _ h3, Yv _ _ h4]
  ·
   rw [Yu _ _ h1, Yu _ _ h2]
 ·
  rfl
theorem Cb (ok : Bool) (m u : Str) (ps : List (Str × Str)) (hm : m.length ≤ 1048576) (hu : u.length ≤ 1048576) (hz : BA ps ≤ 1048576) (hn : ps.length ≤ 1048576) :
  Ev (fun k => if ok = true then ((bC.f k (bD m) (bD u) (ps.map uw)).bind fun t => (if t = true then (some (bD m, bD u, ps.map uw, true)) else (some ((⟨#[]⟩ : ByteArray), (⟨#[]⟩ : ByteArray), ([] : List gK), false)))) else (some ((⟨#[]⟩ : ByteArray), (⟨#[]⟩ : ByteArray), ([] : List gK), false))) (PS (fin1 ok m u ps)) := by
 cases ok with
 | false => exact vn (by simp) (vq (vs _) (by unfold fin1; rw [if_neg (by simp)]; rfl))
 | true =>
  refine vp rfl (vb (Dx m u ps hm hu hz hn) ?_)
  cases e : wR m u ps with
  | true => exact vp rfl (vq (vs _) (by unfold fin1; rw [if_pos ⟨rfl, e⟩]; rfl))
  | false => exact vn (by simp) (vq (vs _) (by unfold fin1; rw [if_neg (by simp [e])]; rfl))
theorem MP {b : UInt8} {q : Nat} {s x t : Str} (h : uh b q s = some (x, t)) : s.length = x.length + t.length + 1 := by
 rw [acI b s q x t h]; simp; omega
/-- What is still to be read: nothing, or a rest. -/
def rest (more : Bool) (s : Str) : List Str := if more = true then parts 59 0 s else []
theorem AZ (ok : Bool) (m u : Str) (hm : m.length ≤ 1048576) (hu : u.length ≤ 1048576) : ∀ (n : Nat) (s : Str) (more : Bool) (q : List (Str × Str)), s.length + (if more = true then 1 else 0) ≤ n → s.length + q.length + (if more = true then 1 else 0) ≤ 500 → BA q ≤ 1000 * q.length →
  Ev (fun k => bJ.l0 k (bD s) more ok (bD m) (bD u) (q.map uw)) (PS (PU ok m u q (DC (rest more s)))) := by
 intro n
 induction n with
 | zero =>
  intro s more q h h2 h3
  cases more with
  | true => simp at h
  | false =>
   refine vc ?_
   simp only [bJ.l0]
   refine vn (by simp) ?_
   have := Cb ok m u q hm hu (by omega) (by omega)
   simpa [rest, DC, PU] using this
 | succ n ih =>
  intro s more q h h2 h3
  cases more with
  | false =>
   refine vc ?_
   simp only [bJ.l0]
   refine vn (by simp) ?_
   have := Cb ok m u q hm hu (by omega) (by omega)
   simpa [rest, DC, PU] using this
  | true =>
   simp only [if_true] at h h2
   have hbad : ∀ (x5 : ByteArray) (x6 : Bool) (x12 : ByteArray) (x15 : List ByteArray), Ev (fun k => bJ.j1 k x5 x6 ok x12 x15 true (bD m) (bD u) (q.map uw)) (PS none) := by
    intro x5 x6 x12 x15
    refine vc ?_
    simp only [bJ.j1]
    exact vp trivial (vs _)
   /- one part -/
   have one : ∀ (c t : Str) (more : Bool), c.length ≤ 500 → t.length + (if more = true then 1 else 0) ≤ n → t.length + (q.length + 1) + (if more = true then 1 else 0) ≤ 500 → 
     Ev (fun k => (bW.f k (bD c)).bind fun aBt => ((jC.f k aBt 61).bind fun Yw => ((bW.f k Yw.2.1).bind fun aBu => ((fQ.f k aBu).bind fun Yx => (if Yw.2.2 = true then (if Yx.2 = true then (bJ.j1 k (bD t) more ok Yw.1 Yx.1 ((Yx.1.length : Int) != 1) (bD m) (bD u) (q.map uw)) else (bJ.j1 k (bD t) more ok Yw.1 Yx.1 true (bD m) (bD u) (q.map uw))) else (bJ.j1 k (bD t) more ok Yw.1 Yx.1 true (bD m) (bD u) (q.map uw))))))) (PS (PU ok m u q (DC (c :: rest more t)))) := by
    intro c t more hc ht hq
    have htl := Eo c
    refine vb (qK c (by omega)) (vb (z_ (trim c) 61 (by decide) (by omega)) ?_)
    cases e : uh 61 0 (trim c) with
    | none =>
     simp only [GY]
     refine vb (qK [] (by simp)) (vb (FM _ (by decide)) (vn (by simp) (vq (hbad _ _ _ _) ?_)))
     rw [DC, TJ, e]; rfl
    | some x =>
     obtain ⟨a, v⟩ := x
     have hlen := MP e
     have hvl := Eo v
     have hal := Eo a
     simp only [GY]
     refine vb (qK v (by omega)) (vb (FM _ (by omega)) (vp trivial ?_))
     rw [Z_]
     cases e2 : words v with
     | none =>
      refine vn (by simp [Ip]) (vq (hbad _ _ _ _) ?_)
      rw [DC, TJ, e]; simp only [e2]; rfl
     | some ws =>
      simp only [Ip, List.nil_append]
      refine vp trivial ?_
      by_cases h1 : ws.length = 1
      ·
       obtain ⟨w, rfl⟩ := List.length_eq_one_iff.mp h1
       have hwl := Ux e2 w (by simp)
       have e3 : TJ c = some (low (trim a), w) := by rw [TJ, e]; simp only [e2]
       have := ih t more (q ++ [(low (trim a), w)]) ht (by simp only [List.length_append, List.length_cons, List.length_nil]; omega) (by rw [yt]; simp only [BA, List.length_append, List.length_cons, List.length_nil, Dv]; omega)
       have hl := nM (trim a) (by omega)
       refine vc ?_
       simp only [bJ.j1, List.map_cons, List.map_nil, List.length_cons, List.length_nil, List.length_map]
       refine vn (by simp) (vb (qK a (by omega)) ?_)
       simp only [hl, Option.bind_some]
       refine vp (by omega) (vp (by omega) ?_)
       rw [DC, e3]
       simp only
       rw [Uy]
       rw [List.map_append] at this
       exact this
      ·
       have e4 : ((((ws.map bD).length : Nat) : Int) != 1) = true := by
        rw [List.length_map]; simp only [bne_iff_ne, ne_eq]; omega
       rw [e4]
       refine vq (hbad _ _ _ _) ?_
       have e3 : TJ c = none := by
        rw [TJ, e]
        simp only [e2]
        match ws, h1 with
        | [], _ => rfl
        | [w], h1 => exact absurd rfl h1
        | _ :: _ :: _, _ => rfl
       rw [DC, e3]; rfl
   refine vc ?_
   simp only [bJ.l0]
   refine vp trivial (vb (z_ s 59 (by decide) (by omega)) ?_)
   rw [rest, if_pos rfl, Oj]
   cases e : uh 59 0 s with
   | none =>
    simp only [GY]
    have := one s [] false (by omega) (by simp) (by simp; omega)
    simpa [rest] using this
   | some x =>
    obtain ⟨c, t⟩ := x
    have hlen := MP e
    simp only [GY]
    have := one c t true (by omega) (by simp; omega) (by simp only [if_true]; omega)
    rw [rest, if_pos rfl] at this
    exact this
theorem MQ (s : Str) (hs : s.length ≤ 1048576) : Ev (fun k => bJ.f k (bD s)) (PS (pk s)) := by
 rw [← apg]
 unfold bJ.f pkS
 refine vb (lU s (by omega)) ?_
 cases et : lX s with
 | false => exact vn (by simp) (vq (vs _) rfl)
 | true =>
  have hsl := Jq et
  refine vp rfl ?_
  rw [if_pos rfl]
  /- the head, and what is behind it -/
  have key : ∀ (h0 t : Str) (more : Bool), h0.length ≤ 200 → t.length ≤ 200 → Ev (fun k => (bW.f k (bD h0)).bind fun ahI => ((jC.f k ahI 47).bind fun agY => ((iK.f agY.1).bind fun ahK => ((iK.f agY.2.1).bind fun ahL => (bJ.l0 k (bD t) more agY.2.2 ahK ahL ([] : List gK)))))) (PS (pkO (uh 47 0 (trim h0)) (DC (rest more t)))) := by
   intro h0 t more hh ht
   have htl := Eo h0
   refine vb (qK h0 (by omega)) (vb (z_ (trim h0) 47 (by decide) (by omega)) ?_)
   rw [acJ _ _ (trim h0)]
   cases e : uh 47 0 (trim h0) with
   | none =>
    have l1 := nM (trim h0) (by omega)
    have l2 := nM [] (by simp)
    have := AZ false (low (trim h0)) (low []) (by rw [Dv]; omega) (by simp [low]) (t.length + 1) t more [] (by split <;> omega) (by simp only [List.length_nil]; split <;> omega) (by simp [BA])
    simp only [GY, l1, l2, Option.bind_some]
    simpa [low] using this
   | some x =>
    obtain ⟨a, b⟩ := x
    have hlen := MP e
    have l1 := nM a (by omega)
    have l2 := nM b (by omega)
    have := AZ true (low a) (low b) (by rw [Dv]; omega) (by rw [Dv]; omega) (t.length + 1) t more [] (by split <;> omega) (by simp only [List.length_nil]; split <;> omega) (by simp [BA])
    simp only [GY, l1, l2, Option.bind_some]
    simpa using this
  refine vb (z_ s 59 (by decide) (by omega)) ?_
  rw [Oj]
  cases e : uh 59 0 s with
  | none =>
   simp only [GY]
   have := key s [] false (by omega) (by simp)
   simpa [rest] using this
  | some x =>
   obtain ⟨c, t⟩ := x
   have hlen := MP e
   simp only [GY]
   have := key c t true (by omega) (by omega)
   rw [rest, if_pos rfl] at this
   simpa using this
theorem PW (ls : List Str) (x : Str) (hn : ls.length ≤ 1000000000000000) : ∃ i : Int, Ev (fun k => dL.f k (ls.map bD) (bD x)) i ∧ (i = -1 ∨ 0 ≤ i) ∧ (0 ≤ i ↔ x ∈ ls) := by
 unfold dL.f
 rw [List.length_map]
 refine ⟨_, qh (xs := ls) (F := fun k (_ : Nat) i => dL.l0 k (ls.map bD) (bD x) (ls.length : Int) i) (st := fun n c => if x = c then .inl (n : Int) else .inr (n + 1)) (fin := fun _ => (-1 : Int)) (s := 0) (fun p n => n = p.length) rfl ?_ ?_, ?_, ?_⟩
 ·
  intro p c r n h hn
  subst hn
  have hz := jc h
  have e1 := xQ h
  have w1 : wrap64 ((p.length : Int) + 1) = (p.length : Int) + 1 := bf (by omega) (by omega)
  simp only [dL.l0, e1, w1, List.length_map, m_]
  clear w1 e1
  by_cases e : x = c
  ·
   simp only [if_pos e]
   refine ⟨(fun v hv => ?_), fun s' hs => by cases hs⟩
   cases hv
   exact vp (by omega) (vp (by omega) (vp (by omega) (vs _)))
  ·
   simp only [if_neg e]
   refine ⟨(fun v hv => by cases hv), fun s' hs => ⟨?_, fun v hv => ?_⟩⟩
   ·
    cases hs; simp
   ·
    exact vp (by omega) (vp (by omega) (vp (by omega) hv))
 ·
  intro s _
  simp only [dL.l0]
  exact vn (by omega) (vs _)
 ·
  have key : ∀ (r : List Str) (n : Nat), run (fun (n : Nat) c => if x = c then .inl (n : Int) else .inr (n + 1)) (fun _ => (-1 : Int)) r n = -1 ∨ 0 ≤ run (fun (n : Nat) c => if x = c then .inl (n : Int) else .inr (n + 1)) (fun _ => (-1 : Int)) r n := by
   intro r
   induction r with
   | nil => intro n; exact Or.inl rfl
   | cons c r ih =>
    intro n
    unfold run
    by_cases e : x = c
    ·
     simp only [if_pos e]; exact Or.inr (by omega)
    ·
     simp only [if_neg e]; exact ih (n + 1)
  exact key ls 0
 ·
  have key : ∀ (r : List Str) (n : Nat), 0 ≤ run (fun (n : Nat) c => if x = c then .inl (n : Int) else .inr (n + 1)) (fun _ => (-1 : Int)) r n ↔ x ∈ r := by
   intro r
   induction r with
   | nil => intro n; simp [run]
   | cons c r ih =>
    intro n
    unfold run
    by_cases e : x = c
    ·
     simp only [if_pos e]; simp [e]
    ·
     simp only [if_neg e]; rw [ih]; simp [e]
  exact key ls 0
theorem Cc (ls : List Str) (x : Str) (hn : ls.length ≤ 1000000000000000) : Ev (fun k => fU.f k (ls.map bD) (bD x)) (decide (x ∈ ls)) := by
 obtain ⟨i, hi, h1, h2⟩ := PW ls x hn
 unfold fU.f
 refine vb hi (vq (vs _) ?_)
 by_cases h : x ∈ ls
 ·
  rw [decide_eq_true h]; exact decide_eq_true (h2.mpr h)
 ·
  rw [decide_eq_false h]; exact decide_eq_false (fun hh => h (h2.mp hh))
/-! Lines that divide: the model. -/
def dash (b : Str) : Str := [45, 45] ++ b
def fin2 (b : Str) : Str := [45, 45] ++ b ++ [45, 45]
def dv (ls : List Str) (b : Str) : Bool := decide (dash b ∈ ls) || decide (fin2 b ∈ ls)
def lk (l b : Str) : Bool := decide (l = dash b) || decide (l = fin2 b)
theorem amI (ls : List Str) (b : Str) : dv ls b = ls.any (fun l => lk l b) := by
 unfold dv
 rw [Bool.eq_iff_iff]
 simp only [lk, Bool.or_eq_true, decide_eq_true_iff, List.any_eq_true]
 constructor
 ·
  rintro (h | h)
  ·
   exact ⟨_, h, Or.inl rfl⟩
  ·
   exact ⟨_, h, Or.inr rfl⟩
 ·
  rintro ⟨x, h, rfl | rfl⟩
  ·
   exact Or.inl h
  ·
   exact Or.inr h
theorem Ep (b : Str) : (⟨#[45, 45]⟩ : ByteArray) ++ bD b = bD (dash b) := by rw [agZ, Yy, kY]; rfl
theorem Qs (b : Str) : bD (dash b) ++ (⟨#[45, 45]⟩ : ByteArray) = bD (fin2 b) := by rw [agZ, Yy, kY]; rfl
theorem MR (b : Str) : (dash b).length = b.length + 2 := by unfold dash; simp
theorem acO (b : Str) : (fin2 b).length = b.length + 4 := by unfold fin2; simp
theorem PX (ls : List Str) (b : Str) (hb : b.length ≤ 1000000000000000) (hn : ls.length ≤ 1000000000000000) : Ev (fun k => uV.f k (ls.map bD) (bD b)) (dv ls b) := by
 unfold uV.f dv
 have hd := MR b
 simp only [Ep, Qs, ay]
 refine vp (by omega) (vb (Cc ls (dash b) hn) ?_)
 cases e : decide (dash b ∈ ls) with
 | true => exact vp rfl (vs _)
 | false => exact vn (by simp) (vp (by omega) (vb (Cc ls (fin2 b) hn) (vs _)))
theorem FN (l b : Str) (hb : b.length ≤ 1000000000000000) : oQ.f (bD l) (bD b) = some (lk l b) := by
 unfold oQ.f lk
 have hd := MR b
 simp only [Ep, Qs, ay, m_]
 rw [if_pos (by omega)]
 by_cases h : l = dash b
 ·
  rw [if_pos h, decide_eq_true h]; rfl
 ·
  rw [if_neg h, decide_eq_false h, if_pos (by omega)]
  simp only [Bool.false_or]
  congr 1
  rw [Bool.eq_iff_iff]; simp
/-! Parts joined: the model. -/
def jb (b : Str) : List (List Str) → List Str
 | [] => []
 | c :: r => dash b :: (c ++ jb b r)
def jR (b : Str) (ps : List (List Str)) : Option (List Str) := if GK b = true ∧ ps ≠ [] ∧ ps.any (fun c => dv c b) = false then some (jb b ps ++ [fin2 b]) else none
def Ot (o : Option (List Str)) : List ByteArray × Bool := match o with
 | none => ([], false)
 | some l => (l.map bD, true)
theorem Sm (b : Str) (ps : List (List Str)) : (jb b ps).length = tl ps := by
 induction ps with
 | nil => rfl
 | cons c r ih => simp only [jb, tl, List.length_cons, List.length_append, ih]; omega
theorem UC (b : Str) (a c : List (List Str)) : jb b (a ++ c) = jb b a ++ jb b c := by
 induction a with
 | nil => rfl
 | cons d a ih => simp [jb, ih]
theorem ajo {b : Str} (ps : List (List Str)) (h : GK b = false) : jR b ps = none := by
 unfold jR; rw [if_neg (by rw [h]; simp)]
theorem ajp (b : Str) : jR b [] = none := by
 unfold jR; rw [if_neg (by simp)]
theorem aph {b : Str} {ps : List (List Str)} (h1 : GK b = true) (h2 : ps ≠ []) : Ot (jR b ps) = if ps.any (fun c => dv c b) = true then ([], false) else ((jb b ps ++ [fin2 b]).map bD, true) := by
 unfold jR
 cases e : ps.any (fun c => dv c b) with
 | true => rw [if_neg (by simp), if_pos rfl]; rfl
 | false => rw [if_pos ⟨h1, h2, rfl⟩, if_neg (by simp)]; rfl
theorem Ir (ls : List Str) (b : Str) (hb : b.length ≤ 1000000000000) (hn : ls.length ≤ 1000000000000) : Ev (fun k => ou.f k (ls.map bD) (bD b)) (dv ls b) := by
 unfold ou.f
 exact vb (PX ls b (by omega) (by omega)) (vs _)
theorem FZ (ps : List (List Str)) (b : Str) (hb : b.length ≤ 1000000000000) (hn : tl ps ≤ 1000000000000) : Ev (fun k => eF.f k (ps.map (List.map bD)) (bD b)) (ps.any (fun c => dv c b)) := by
 unfold eF.f bg.f
 have hl := WE ps
 have key : ∀ (r : List (List Str)) (n : Nat), decide (run (fun (n : Nat) c => if dv c b = true then .inl (n : Int) else .inr (n + 1)) (fun _ => (-1 : Int)) r n ≥ 0) = r.any (fun c => dv c b) := by
  intro r
  induction r with
  | nil => intro n; rfl
  | cons c r ih =>
   intro n
   unfold run
   cases e : dv c b with
   | true => simp [e]
   | false => simp only [Bool.false_eq_true, if_false, ih, List.any_cons, e, Bool.false_or]
 rw [List.length_map]
 refine vb (qh (xs := ps) (F := fun k (_ : Nat) i => bg.l0 k (ps.map (List.map bD)) (ps.length : Int) i (bD b)) (st := fun n c => if dv c b = true then .inl (n : Int) else .inr (n + 1)) (fin := fun _ => (-1 : Int)) (s := 0) (fun p n => n = p.length) rfl ?_ ?_) (vq (vs _) (key ps 0))
 ·
  intro p c r n h hn'
  subst hn'
  have hz := jc h
  have hc : c.length ≤ tl ps := apc (by rw [h]; simp)
  have e1 := RJ h
  have w1 : wrap64 ((p.length : Int) + 1) = (p.length : Int) + 1 := bf (by omega) (by omega)
  simp only [bg.l0, e1, w1, List.length_map]
  clear w1 e1
  have hd := Ir c b hb (by omega)
  cases e : dv c b with
  | true =>
   simp only [if_true]
   rw [e] at hd
   refine ⟨(fun v hv => ?_), fun s' hs => by cases hs⟩
   cases hv
   exact vp (by omega) (vp (by omega) (vp (by omega) (vb hd (vp rfl (vs _)))))
  | false =>
   rw [e] at hd
   refine ⟨(fun v hv => by cases hv), fun s' hs => ⟨?_, fun v hv => ?_⟩⟩
   ·
    cases hs; simp
   ·
    exact vp (by omega) (vp (by omega) (vp (by omega) (vb hd (vn (by simp) hv))))
 ·
  intro s _
  simp only [bg.l0]
  exact vn (by omega) (vs _)
theorem MS (ps : List (List Str)) (b : Str) (hb : b.length ≤ 1000000000000) (hn : tl ps ≤ 1000000000000) : Ev (fun k => fP.f k (ps.map (List.map bD)) (bD b)) (Ot (jR b ps)) := by
 have hl := WE ps
 have hd := MR b
 have hbad : ∀ ps : List (List Str), Ev (fun k => fP.j0 k (ps.map (List.map bD)) true (bD b)) (Ot none) := by
  intro ps
  refine vc ?_
  simp only [fP.j0]
  exact vp trivial (vs _)
 unfold fP.f
 refine vb (BR b (by omega)) ?_
 unfold jR
 cases e1 : GK b with
 | false =>
  rw [if_neg (by simp)]
  exact vn (by simp) (hbad ps)
 | true =>
  refine vp rfl ?_
  rw [List.length_map]
  by_cases e2 : ps = []
  ·
   rw [if_neg (by simp [e2])]
   exact vp (by simp [e2]) (hbad ps)
  ·
   have h2 : ps.length ≠ 0 := by rw [ne_eq, List.length_eq_zero_iff]; exact e2
   refine vn (by omega) (vb (FZ ps b hb hn) ?_)
   cases e3 : ps.any (fun c => dv c b) with
   | true =>
    rw [if_neg (by simp)]
    exact hbad ps
   | false =>
    rw [if_pos ⟨rfl, e2, rfl⟩]
    refine vc ?_
    simp only [fP.j0, Bool.false_eq_true, if_false, List.length_map]
    refine vq (qh (xs := ps) (F := fun k (out : List Str) i => fP.l0 k (out.map bD) (ps.map (List.map bD)) (ps.length : Int) i (bD b)) (st := fun out c => .inr (out ++ (dash b :: c))) (fin := fun out => Ot (some (out ++ [fin2 b]))) (s := []) (fun p out => out = jb b p) rfl ?_ ?_) ?_
    ·
     intro p c r out h ho
     have hz := jc h
     have e1 := RJ h
     have hlen : out.length = tl p := by rw [ho, Sm]
     have htl : tl ps = tl p + (c.length + 1 + tl r) := by rw [h, Ef]; rfl
     have w1 : wrap64 ((p.length : Int) + 1) = (p.length : Int) + 1 := bf (by omega) (by omega)
     simp only [fP.l0, e1, w1, List.length_map, Ep, ay, Option.bind_some, List.length_append, List.length_cons, List.length_nil]
     clear w1 e1
     refine ⟨(fun v hv => by cases hv), fun s' hs => ⟨?_, fun v hv => ?_⟩⟩
     ·
      cases hs; rw [ho, UC]; simp [jb]
     ·
      cases hs
      refine vp (by omega) (vp (by omega) (vp (by omega) (vp (by omega) (vp (by omega) (vp (by omega) ?_)))))
      have e5 : out.map bD ++ [bD (dash b)] ++ c.map bD = (out ++ (dash b :: c)).map bD := by simp
      rw [e5]
      exact hv
    ·
     intro out ho
     have hlen : out.length = tl ps := by rw [ho, Sm]
     have hd4 := acO b
     simp only [fP.l0, Ep, Qs, ay, List.length_map]
     refine vn (by omega) (vp (by omega) (vp (by omega) (vp (by omega) (vq (vs _) ?_))))
     simp [Ot]
    ·
     have key : ∀ (r : List (List Str)) (out : List Str), run (fun out c => .inr (out ++ (dash b :: c))) (fun out => Ot (some (out ++ [fin2 b]))) r out = Ot (some (out ++ jb b r ++ [fin2 b])) := by
      intro r
      induction r with
      | nil => intro out; simp [run, jb]
      | cons c r ih => intro out; unfold run; simp only; rw [ih]; simp [jb]
     exact key ps []
theorem MV (ps : List (List Str)) (b : Str) (hb : b.length ≤ 1000000000000) (hn : tl ps ≤ 1000000000000) (p r : List (List Str)) (c : List Str) (h : ps = p ++ c :: r) (out : List Str) (ho : out.length ≤ tl p + 1) (V : List ByteArray × Bool)
  (hV : c.any (fun l => lk l b) = false → Ev (fun k => dD.l0 k (ps.map (List.map bD)) (bD b) ((out ++ c).map bD) ((p.length : Int) + 1)) V) :
  Ev (fun k => dD.l1 k (ps.map (List.map bD)) (bD b) (out.map bD) (p.length : Int) 0) (if c.any (fun l => lk l b) = true then ([], false) else V) := by
 have hz := jc h
 have hl := WE ps
 have e1 := RJ h
 have htl : tl ps = tl p + (c.length + 1 + tl r) := by rw [h, Ef]; rfl
 have w0 : wrap64 ((p.length : Int) + 1) = (p.length : Int) + 1 := bf (by omega) (by omega)
 refine vq (qh (xs := c) (F := fun k (o : List Str) i => dD.l1 k (ps.map (List.map bD)) (bD b) (o.map bD) (p.length : Int) i) (st := fun o l => if lk l b = true then .inl ([], false) else .inr (o ++ [l])) (fin := fun _ => V) (s := out) (fun q o => o = out ++ q ∧ q.any (fun l => lk l b) = false) ⟨by simp, rfl⟩ ?_ ?_) ?_
 ·
  rintro q l s o hc ⟨ho2, hq⟩
  have hzc := jc hc
  have e2 := xQ hc
  have hlo : o.length = out.length + q.length := by rw [ho2, List.length_append]
  have w1 : wrap64 ((q.length : Int) + 1) = (q.length : Int) + 1 := bf (by omega) (by omega)
  simp only [dD.l1, e1, e2, w1, List.length_map]
  clear w1 e2 w0
  have hk := FN l b (by omega)
  cases e : lk l b with
  | true =>
   rw [e] at hk
   simp only [if_true]
   refine ⟨(fun v hv => ?_), fun s' hs => by cases hs⟩
   cases hv
   exact vp (by omega) (vp (by omega) (vp (by omega) (vp (by omega) (jB hk (vp rfl (vs _))))))
  | false =>
   rw [e] at hk
   refine ⟨(fun v hv => by cases hv), fun s' hs => ⟨?_, fun v hv => ?_⟩⟩
   ·
    cases hs; exact ⟨by rw [ho2]; simp, by simp [List.any_append, hq, e]⟩
   ·
    cases hs
    refine vp (by omega) (vp (by omega) (vp (by omega) (vp (by omega) (jB hk (vn (by simp) (vp (by omega) ?_))))))
    have e5 : o.map bD ++ [bD l] = (o ++ [l]).map bD := by simp
    rw [e5]
    exact hv
 ·
  rintro o ⟨ho2, hq⟩
  simp only [dD.l1, e1, w0, List.length_map]
  clear w0
  rw [ho2]
  exact vp (by omega) (vp (by omega) (vn (by omega) (hV hq)))
 ·
  have key : ∀ (r : List Str) (o : List Str), run (fun o l => if lk l b = true then .inl ([], false) else .inr (o ++ [l])) (fun _ => V) r o = if r.any (fun l => lk l b) = true then ([], false) else V := by
   intro r
   induction r with
   | nil => intro o; rfl
   | cons c r ih =>
    intro o
    unfold run
    cases e : lk c b with
    | true => simp [e]
    | false => simp only [Bool.false_eq_true, if_false, ih, List.any_cons, e, Bool.false_or]
  exact key c out
theorem MW (ps : List (List Str)) (b : Str) (hb : b.length ≤ 1000000000000) (hn : tl ps ≤ 1000000000000) (r : List (List Str)) : ∀ (p : List (List Str)), ps = p ++ r → Ev (fun k => dD.l0 k (ps.map (List.map bD)) (bD b) ((jb b p).map bD) (p.length : Int)) (if r.any (fun c => dv c b) = true then ([], false) else ((jb b ps ++ [fin2 b]).map bD, true)) := by
 have hd := MR b
 have hd4 := acO b
 induction r with
 | nil =>
  intro p h
  rw [List.append_nil] at h
  subst h
  have hlen := Sm b ps
  refine vc ?_
  simp only [dD.l0, Ep, Qs, ay, List.length_map]
  refine vn (by omega) (vp (by omega) (vp (by omega) (vp (by omega) (vq (vs _) ?_))))
  simp
 | cons c r ih =>
  intro p h
  have hz := jc h
  have hl := WE ps
  have hlen := Sm b p
  have htl : tl ps = tl p + (c.length + 1 + tl r) := by rw [h, Ef]; rfl
  have h1 := ih (p ++ [c]) (by rw [h]; simp)
  rw [nY] at h1
  have e5 : jb b (p ++ [c]) = jb b p ++ [dash b] ++ c := by rw [UC]; simp [jb]
  rw [e5] at h1
  have h2 := MV ps b hb hn p r c h (jb b p ++ [dash b]) (by rw [List.length_append, hlen]; simp) _ (fun _ => h1)
  refine vc ?_
  simp only [dD.l0, Ep, ay, List.length_map]
  have e6 : (jb b p).map bD ++ [bD (dash b)] = (jb b p ++ [dash b]).map bD := by simp
  rw [e6]
  refine vp (by omega) (vp (by omega) (vp (by omega) (vq h2 ?_)))
  rw [← amI, List.any_cons]
  cases dv c b <;> simp
theorem MX (ps : List (List Str)) (b : Str) (hb : b.length ≤ 1000000000000) (hn : tl ps ≤ 1000000000000) : Ev (fun k => dD.f k (ps.map (List.map bD)) (bD b)) (Ot (jR b ps)) := by
 have hbad : Ev (fun k => dD.j0 k (ps.map (List.map bD)) (bD b) [] true) (Ot none) := by
  refine vc ?_
  simp only [dD.j0]
  exact vp trivial (vs _)
 unfold dD.f
 simp only [Option.bind_some, List.length_map]
 refine vb (BU b (by omega)) ?_
 cases e1 : GK b with
 | false =>
  rw [ajo ps e1]
  exact vn (by simp) hbad
 | true =>
  refine vp rfl ?_
  by_cases e2 : ps = []
  ·
   subst e2
   rw [ajp]
   exact hbad
  ·
   have h2 : ps.length ≠ 0 := by rw [ne_eq, List.length_eq_zero_iff]; exact e2
   have : ((ps.length : Int) == 0) = false := by rw [beq_eq_false_iff_ne]; omega
   rw [this, aph e1 e2]
   refine vc ?_
   simp only [dD.j0]
   exact vn (by simp) (MW ps b hb hn ps [] rfl)
/-! Fields folded to lines. -/
def xC (l : Str) (i : Nat) : Bool := decide (bt (bD l) (i : Int) = 32) && (!decide (bt (bD l) ((i : Int) - 1) = 32) && !decide (bt (bD l) ((i : Int) + 1) = 32))
def uF (l : Str) (i : Nat) (b : Int) : Int := if xC l i = true ∧ (b < 0 ∨ i ≤ 40) then (i : Int) else b
def brk (l : Str) : Nat → Nat → Int → Int
 | 0, _, b => b
 | n + 1, i, b => brk l n (i + 1) (uF l i b)
def Ou (l : Str) (i : Nat) : Int := brk l (l.length - 1 - i) i (-1)
theorem UD (l : Str) : ∀ (n i : Nat) (b : Int), brk l n i b = b ∨ ((i : Int) ≤ brk l n i b ∧ brk l n i b < i + n)
 | 0, _, _ => .inl rfl
 | n + 1, i, b => by
  rw [brk]
  rcases UD l n (i + 1) (uF l i b) with h | h
  ·
   rw [h]
   unfold uF
   by_cases c : xC l i = true ∧ (b < 0 ∨ i ≤ 40)
   ·
    rw [if_pos c]; exact .inr ⟨by omega, by omega⟩
   ·
    rw [if_neg c]; exact .inl rfl
  ·
   exact .inr ⟨by omega, by omega⟩
theorem Jv (l : Str) (i : Nat) : Ou l i < 0 ∨ ((i : Int) ≤ Ou l i ∧ Ou l i < l.length) := by
 unfold Ou
 rcases UD l (l.length - 1 - i) i (-1) with h | h
 ·
  exact .inl (by omega)
 ·
  exact .inr ⟨h.1, by omega⟩
def fl : Nat → Str → Nat → List Str
 | 0, l, _ => [l]
 | n + 1, l, i => if l.length > 40 then (if Ou l i < 0 then [l] else l.take (Ou l i).toNat :: fl n (l.drop (Ou l i).toNat) 2) else [l]
theorem ag0 : ∀ (n : Nat) (l : Str) (i : Nat), 1 ≤ i → (fl n l i).length ≤ l.length + 1
 | 0, l, i, _ => by simp [fl]
 | n + 1, l, i, hi => by
  rw [fl]
  by_cases c : l.length > 40
  ·
   rw [if_pos c]
   by_cases d : Ou l i < 0
   ·
    rw [if_pos d]; simp
   ·
    rw [if_neg d]
    have := Jv l i
    have h2 := ag0 n (l.drop (Ou l i).toNat) 2 (by omega)
    rw [List.length_drop] at h2
    rw [List.length_cons]
    omega
  ·
   rw [if_neg c]; simp
/-- The lines of a field. -/
def Yz (f : Str × Str) : Str := (f.1 ++ [58]) ++ (if f.2 = [] then [] else 32 :: f.2)
def FP (f : Str × Str) : List Str := fl (Yz f).length (Yz f) (f.1.length + 3)
theorem Ar (acc : List Str) (l : Str) : acc.map bD ++ [bD l] = (acc ++ [l]).map bD := by rw [List.map_append]; rfl
theorem WL (l : Str) (acc : List Str) (hl : l.length ≤ 1048576) (V : List ByteArray) : ∀ (n i : Nat) (b : Int), n = l.length - 1 - i → 1 ≤ i → i ≤ 1048579 →
  Ev (fun k => if brk l n i b < 0 then (if (acc.map bD).length < 8796093022208 then (some ((acc.map bD) ++ [bD l])) else (none)) else (if 0 ≤ brk l n i b then (if brk l n i b ≤ ((bD l).size : Int) then (if (acc.map bD).length < 8796093022208 then (aK.l0 k ((bD l).extract (brk l n i b : Int).toNat (bD l).size) 2 ((acc.map bD) ++ [(bD l).extract 0 (brk l n i b : Int).toNat])) else (none)) else (none)) else (none))) V →
  Ev (fun k => aK.l1 k (bD l) (acc.map bD) b (i : Int)) V := by
 intro n
 induction n with
 | zero =>
  intro i b hn hi hi2 hE
  have w1 : wrap64 ((i : Int) + 1) = (i : Int) + 1 := bf (by omega) (by omega)
  refine vc ?_
  simp only [aK.l1, w1]
  clear w1
  rw [brk] at hE
  exact vn (by rw [ay]; omega) hE
 | succ n ih =>
  intro i b hn hi hi2 hE
  have w1 : wrap64 ((i : Int) + 1) = (i : Int) + 1 := bf (by omega) (by omega)
  have w2 : wrap64 ((i : Int) - 1) = (i : Int) - 1 := bf (by omega) (by omega)
  have hs := ay l
  rw [brk] at hE
  have go := ih (i + 1) (uF l i b) (by omega) (by omega) (by omega) hE
  rw [show ((i + 1 : Nat) : Int) = (i : Int) + 1 by omega] at go
  clear hE ih
  refine vc ?_
  simp only [aK.l1, w1, w2]
  clear w1 w2
  refine vp (by omega) (vp (by omega) (vp (by omega) ?_))
  by_cases c1 : bt (bD l) (i : Int) = 32
  ·
   refine vp c1 (vp (by omega) (vp (by omega) ?_))
   by_cases c2 : bt (bD l) ((i : Int) - 1) = 32
   ·
    refine vp c2 ?_
    have e : uF l i b = b := by unfold uF xC; rw [if_neg (by simp [c2])]
    rw [e] at go
    exact go
   ·
    refine vn c2 (vp (by omega) ?_)
    by_cases c3 : bt (bD l) ((i : Int) + 1) = 32
    ·
     refine vp c3 ?_
     have e : uF l i b = b := by unfold uF xC; rw [if_neg (by simp [c3])]
     rw [e] at go
     exact go
    ·
     refine vn c3 ?_
     by_cases c4 : b < 0
     ·
      refine vp c4 ?_
      have e : uF l i b = (i : Int) := by unfold uF xC; rw [if_pos (by simp [c1, c2, c3, c4])]
      rw [e] at go
      exact go
     ·
      refine vn c4 ?_
      by_cases c5 : (i : Int) ≤ 40
      ·
       refine vp c5 ?_
       have e : uF l i b = (i : Int) := by unfold uF xC; rw [if_pos (by simp [c1, c2, c3]; omega)]
       rw [e] at go
       exact go
      ·
       refine vn c5 ?_
       have e : uF l i b = b := by unfold uF; rw [if_neg (fun h => by have := h.2; omega)]
       rw [e] at go
       exact go
  ·
   refine vn c1 ?_
   have e : uF l i b = b := by unfold uF xC; rw [if_neg (by simp [c1])]
   rw [e] at go
   exact go
theorem WM : ∀ (n : Nat) (l : Str) (i : Nat) (acc : List Str), l.length ≤ n → l.length ≤ 1048576 → 1 ≤ i → i ≤ 1048579 → acc.length + l.length ≤ 2000000 → Ev (fun k => aK.l0 k (bD l) (i : Int) (acc.map bD)) ((acc ++ fl n l i).map bD) := by
 intro n
 induction n with
 | zero =>
  intro l i acc hn hl hi hi2 ha
  refine vc ?_
  simp only [aK.l0, ay, List.length_map, fl]
  exact vn (by omega) (vp (by omega) (vq (vs _) (Ar acc l)))
 | succ n ih =>
  intro l i acc hn hl hi hi2 ha
  refine vc ?_
  simp only [aK.l0, fl]
  by_cases c : l.length > 40
  ·
   refine vp (by rw [ay]; omega) ?_
   rw [if_pos c]
   have hr := Jv l i
   refine WL l acc hl _ (l.length - 1 - i) i (-1) rfl hi hi2 ?_
   rw [show brk l (l.length - 1 - i) i (-1) = Ou l i from rfl]
   generalize Ou l i = t at hr
   by_cases d : t < 0
   ·
    rw [if_pos d]
    exact vp d (vp (by rw [List.length_map]; omega) (vq (vs _) (Ar acc l)))
   ·
    rw [if_neg d]
    obtain ⟨m, rfl⟩ := Int.eq_ofNat_of_zero_le (a := t) (by omega)
    have h2 := ih (l.drop m) 2 (acc ++ [l.take m]) (by rw [List.length_drop]; omega) (by rw [List.length_drop]; omega) (by omega) (by omega) (by rw [List.length_append, List.length_drop]; simp; omega)
    refine vn d (vp (by omega) (vp (by rw [ay]; omega) (vp (by rw [List.length_map]; omega) ?_)))
    rw [← Ar] at h2
    simp only [jV, ay, Int.toNat_natCast, List.drop_zero, Nat.sub_zero] at h2 ⊢
    rw [List.take_of_length_le (l := l.drop m) (by rw [List.length_drop]; omega)]
    refine vq h2 ?_
    simp
  ·
   refine vn (by rw [ay]; omega) ?_
   rw [if_neg c]
   exact vp (by rw [List.length_map]; omega) (vq (vs _) (Ar acc l))
theorem UE : (⟨#[58]⟩ : ByteArray) = bD [58] := rfl
theorem UF : (⟨#[32]⟩ : ByteArray) = bD [32] := rfl
theorem MZ (f : Str × Str) (h1 : f.1.length ≤ 1000) (h2 : f.2.length ≤ 1000) : Ev (fun k => aK.f k (bD f.1) (bD f.2)) ((FP f).map bD) := by
 obtain ⟨a, b⟩ := f
 simp only at h1 h2
 unfold aK.f FP Yz
 have w : wrap64 ((a.length : Int) + 3) = ((a.length + 3 : Nat) : Int) := by rw [bf (by omega) (by omega)]; omega
 simp only [UE, UF, kY, ay, m_, w, List.length_append, List.length_cons, List.length_nil]
 clear w
 have key : ∀ l : Str, l.length ≤ 3000 → Ev (fun k => aK.j0 k (bD l) ((a.length + 3 : Nat) : Int)) ((fl l.length l (a.length + 3)).map bD) := by
  intro l hl
  refine vc ?_
  simp only [aK.j0]
  have := WM l.length l (a.length + 3) [] (Nat.le_refl _) (by omega) (by omega) (by omega) (by simp; omega)
  exact this
 refine vp (by omega) ?_
 by_cases c : b = []
 ·
  subst c
  refine vp rfl ?_
  have := key (a ++ [58]) (by simp; omega)
  simpa using this
 ·
  refine vn c (vp (by omega) (vp (by omega) ?_))
  have := key ((a ++ [58]) ++ ([32] ++ b)) (by simp; omega)
  rw [if_neg c]
  simpa [Nat.add_assoc, Nat.add_comm, Nat.add_left_comm] using this
theorem aac (l : Str) (hl : l.length ≤ 1048576) : ∀ (n i : Nat) (b : Int), n = l.length - 1 - i → 1 ≤ i → i ≤ 1048579 → Ev (fun k => fD.l0 k (bD l) b (i : Int)) (brk l n i b) := by
 intro n
 induction n with
 | zero =>
  intro i b hn hi hi2
  have w1 : wrap64 ((i : Int) + 1) = (i : Int) + 1 := bf (by omega) (by omega)
  refine vc ?_
  simp only [fD.l0, w1, brk]
  clear w1
  exact vn (by rw [ay]; omega) (vs _)
 | succ n ih =>
  intro i b hn hi hi2
  have w1 : wrap64 ((i : Int) + 1) = (i : Int) + 1 := bf (by omega) (by omega)
  have w2 : wrap64 ((i : Int) - 1) = (i : Int) - 1 := bf (by omega) (by omega)
  have hs := ay l
  have go := ih (i + 1) (uF l i b) (by omega) (by omega) (by omega)
  rw [show ((i + 1 : Nat) : Int) = (i : Int) + 1 by omega] at go
  rw [brk]
  clear ih
  have jt : uF l i b = b → Ev (fun k => fD.j1 k (bD l) b (i : Int) true) (brk l n (i + 1) (uF l i b)) := fun e => by
   refine vc ?_
   simp only [fD.j1, w1]
   rw [e] at go ⊢
   exact vp (by simp) go
  refine vc ?_
  simp only [fD.l0, w1, w2]
  refine vp (by omega) (vp (by omega) (vp (by omega) ?_))
  by_cases c1 : bt (bD l) (i : Int) = 32
  ·
   refine vp c1 (vp (by omega) (vp (by omega) ?_))
   by_cases c2 : bt (bD l) ((i : Int) - 1) = 32
   ·
    exact vp c2 (jt (by unfold uF xC; rw [if_neg (by simp [c2])]))
   ·
    refine vn c2 (vp (by omega) ?_)
    by_cases c3 : bt (bD l) ((i : Int) + 1) = 32
    ·
     rw [show (bt (bD l) ((i : Int) + 1) == 32) = true by simp [c3]]
     exact jt (by unfold uF xC; rw [if_neg (by simp [c3])])
    ·
     rw [show (bt (bD l) ((i : Int) + 1) == 32) = false by simp [c3]]
     refine vc ?_
     simp only [fD.j1, w1]
     clear w1 w2
     refine vn (by simp) ?_
     by_cases c5 : (i : Int) ≤ 40
     ·
      refine vp c5 ?_
      have e : uF l i b = (i : Int) := by unfold uF xC; rw [if_pos (by simp [c1, c2, c3]; omega)]
      rw [e] at go ⊢
      exact go
     ·
      refine vn c5 ?_
      by_cases c4 : b < 0
      ·
       refine vp c4 ?_
       have e : uF l i b = (i : Int) := by unfold uF xC; rw [if_pos (by simp [c1, c2, c3, c4])]
       rw [e] at go ⊢
       exact go
      ·
       refine vn c4 ?_
       have e : uF l i b = b := by unfold uF; rw [if_neg (fun h => by have := h.2; omega)]
       rw [e] at go ⊢
       exact go
  ·
   exact vn c1 (jt (by unfold uF xC; rw [if_neg (by simp [c1])]))
theorem M_ : ∀ (n : Nat) (l : Str) (i : Nat) (acc : List Str), l.length ≤ n → l.length ≤ 1048576 → 1 ≤ i → i ≤ 1048578 → acc.length + l.length ≤ 2000000 → Ev (fun k => gI.l0 k (acc.map bD) (bD l) (i : Int)) ((acc ++ fl n l (i + 1)).map bD) := by
 intro n
 induction n with
 | zero =>
  intro l i acc hn hl hi hi2 ha
  refine vc ?_
  simp only [gI.l0, ay, List.length_map, fl]
  exact vn (by omega) (vp (by omega) (vq (vs _) (Ar acc l)))
 | succ n ih =>
  intro l i acc hn hl hi hi2 ha
  refine vc ?_
  simp only [gI.l0, fl]
  by_cases c : l.length > 40
  ·
   refine vp (by rw [ay]; omega) ?_
   rw [if_pos c]
   have hr := Jv l (i + 1)
   have hb : Ev (fun k => fD.f k (bD l) (i : Int)) (Ou l (i + 1)) := by
    unfold fD.f
    rw [show wrap64 ((i : Int) + 1) = ((i + 1 : Nat) : Int) by rw [bf (by omega) (by omega)]; omega]
    exact aac l hl (l.length - 1 - (i + 1)) (i + 1) (-1) rfl (by omega) (by omega)
   refine vb hb ?_
   generalize Ou l (i + 1) = t at hr
   by_cases d : t < 0
   ·
    rw [if_pos d]
    exact vp d (vp (by rw [List.length_map]; omega) (vq (vs _) (Ar acc l)))
   ·
    rw [if_neg d]
    obtain ⟨m, rfl⟩ := Int.eq_ofNat_of_zero_le (a := t) (by omega)
    have h2 := ih (l.drop m) 1 (acc ++ [l.take m]) (by rw [List.length_drop]; omega) (by rw [List.length_drop]; omega) (by omega) (by omega) (by rw [List.length_append, List.length_drop]; simp; omega)
    refine vn d (vp (by omega) (vp (by rw [ay]; omega) (vp (by rw [List.length_map]; omega) ?_)))
    rw [← Ar] at h2
    simp only [jV, ay, Int.toNat_natCast, List.drop_zero, Nat.sub_zero] at h2 ⊢
    rw [List.take_of_length_le (l := l.drop m) (by rw [List.length_drop]; omega)]
    refine vq h2 ?_
    simp
  ·
   refine vn (by rw [ay]; omega) ?_
   rw [if_neg c]
   exact vp (by rw [List.length_map]; omega) (vq (vs _) (Ar acc l))
/-! Fields that are valid. -/
def fv (f : Str × Str) : Bool := Ik f.1 && (lX f.2 && (decide (f.2.length ≤ 150) && decide (trim f.2 = f.2)))
def fvs (fs : List (Str × Str)) : Bool := decide (fs.length ≤ 20) && fs.all fv
theorem aad {f : Str × Str} (h : fv f = true) : f.1.length ≤ 30 ∧ f.2.length ≤ 150 := by
 unfold fv at h
 simp only [Bool.and_eq_true, decide_eq_true_iff] at h
 exact ⟨Ym h.1, h.2.2.1⟩
theorem Ov {f : Str × Str} (h : fv f = true) : (FP f).length ≤ 183 := by
 have := aad h
 have h2 := ag0 (Yz f).length (Yz f) (f.1.length + 3) (by omega)
 have h3 : (Yz f).length ≤ f.1.length + 2 + f.2.length := by
  unfold Yz
  by_cases c : f.2 = []
  ·
   rw [if_pos c]; simp; omega
  ·
   rw [if_neg c]; simp; omega
 unfold FP
 omega
theorem WO (l : Str) (hl : l.length ≤ 1000000000) : lJ.f (bD l) (⟨#[32]⟩ : ByteArray) = some (bD (trim l)) := by
 unfold lJ.f
 rw [if_pos rfl, if_pos (by rw [ay]; omega)]
 rfl
theorem Jw (f : Str × Str) (h1 : f.1.length ≤ 1048576) (h2 : f.2.length ≤ 1048576) : Ev (fun k => qV.f k (bD f.1) (bD f.2)) (fv f) := by
 unfold qV.f fv
 refine vb (GL f.1 (by omega)) ?_
 cases Ik f.1 with
 | false => exact vn (by simp) (vs _)
 | true =>
  refine vp rfl (vb (qQ f.2 (by omega)) ?_)
  cases lX f.2 with
  | false => exact vn (by simp) (vs _)
  | true =>
   refine vp rfl ?_
   rw [ay]
   by_cases c : f.2.length ≤ 150
   ·
    refine vp (by omega) (jB (WO f.2 (by omega)) (vq (vs _) ?_))
    rw [m_, m_, H8, decide_eq_true c]
    simp
   ·
    refine vn (by omega) (vq (vs _) ?_)
    rw [decide_eq_false c]
    simp
theorem yu (f : Str × Str) (h1 : f.1.length ≤ 1048576) (h2 : f.2.length ≤ 1048576) : Ev (fun k => jv.f k (bD f.1) (bD f.2)) (fv f) := by
 unfold jv.f fv
 refine vb (GN f.1 (by omega)) ?_
 cases Ik f.1 with
 | false => exact vn (by simp) (vs _)
 | true =>
  refine vp rfl (vb (lU f.2 (by omega)) ?_)
  cases lX f.2 with
  | false => exact vn (by simp) (vs _)
  | true =>
   refine vp rfl ?_
   rw [ay]
   by_cases c : f.2.length ≤ 150
   ·
    refine vp (by omega) (vb (qK f.2 (by omega)) (vq (vs _) ?_))
    rw [m_, m_, H8, decide_eq_true c]
    simp
   ·
    refine vn (by omega) (vq (vs _) ?_)
    rw [decide_eq_false c]
    simp
theorem F5 (ls : List (Str × Str)) (hs : small ls) (hn : ls.length ≤ 1048576) (r : List (Str × Str)) : ∀ p, ls = p ++ r → ∃ v : Int, Ev (fun k => dw.l0 k (ls.map uw) (ls.length : Int) (p.length : Int)) v ∧ decide (v ≥ 0) = !(r.all fv) := by
 induction r with
 | nil =>
  intro p h
  have hz : ls.length = p.length := by rw [h, List.append_nil]
  refine ⟨-1, vc ?_, rfl⟩
  simp only [dw.l0]
  exact vn (by omega) (vs _)
 | cons c r ih =>
  intro p h
  have hz := jc h
  have e1 := wQ h
  have hc := hs c (by rw [h]; simp)
  have w1 : wrap64 ((p.length : Int) + 1) = (p.length : Int) + 1 := bf (by omega) (by omega)
  obtain ⟨v, hv, hv2⟩ := ih (p ++ [c]) (by rw [h]; simp)
  rw [nY] at hv
  have h1 : Ev (fun k => oh.f k (bD c.1) (bD c.2)) (!fv c) := vb (Jw c hc.1 hc.2) (vs _)
  cases e : fv c with
  | true =>
   rw [e] at h1
   refine ⟨v, vc ?_, by rw [hv2, List.all_cons, e]; rfl⟩
   simp only [dw.l0, e1, w1, List.length_map]
   clear w1
   exact vp (by omega) (vp (by omega) (vp (by omega) (vb h1 (vn (by simp) hv))))
  | false =>
   rw [e] at h1
   refine ⟨p.length, vc ?_, by rw [List.all_cons, e]; simp⟩
   simp only [dw.l0, e1, w1, List.length_map]
   clear w1
   exact vp (by omega) (vp (by omega) (vp (by omega) (vb h1 (vp (by simp) (vs _)))))
theorem Iu (ls : List (Str × Str)) (hs : small ls) (hn : ls.length ≤ 1048576) : Ev (fun k => oG.f k (ls.map uw)) (fvs ls) := by
 unfold oG.f kD.f dw.f fvs
 rw [List.length_map]
 by_cases c : ls.length ≤ 20
 ·
  obtain ⟨v, hv, hv2⟩ := F5 ls hs hn ls [] rfl
  refine vp (by omega) (vb (vb hv (vs _)) (vq (vs _) ?_))
  rw [hv2, decide_eq_true c]
  simp
 ·
  refine vn (by omega) (vq (vs _) ?_)
  rw [decide_eq_false c]; rfl
theorem Na (ls : List (Str × Str)) (hs : small ls) (hn : ls.length ≤ 1048576) (r : List (Str × Str)) : ∀ p, ls = p ++ r → Ev (fun k => gW.l0 k (ls.map uw) (p.length : Int)) (decide (ls.length ≤ 20) && r.all fv) := by
 have out : ∀ i : Int, Ev (fun k => gW.j1 k (ls.map uw) i false) (decide (ls.length ≤ 20)) := fun i => by
  refine vc ?_
  simp only [gW.j1, List.length_map]
  refine vn (by simp) (vq (vs _) ?_)
  exact decide_eq_decide.mpr (by omega)
 induction r with
 | nil =>
  intro p h
  have hz : ls.length = p.length := by rw [h, List.append_nil]
  refine vc ?_
  simp only [gW.l0, List.length_map]
  refine vn (by omega) (vq (out _) (by simp))
 | cons c r ih =>
  intro p h
  have hz := jc h
  have e1 := wQ h
  have hc := hs c (by rw [h]; simp)
  have w1 : wrap64 ((p.length : Int) + 1) = (p.length : Int) + 1 := bf (by omega) (by omega)
  have hv := ih (p ++ [c]) (by rw [h]; simp)
  rw [nY] at hv
  have h1 := yu c hc.1 hc.2
  refine vc ?_
  simp only [gW.l0, List.length_map]
  refine vp (by omega) ?_
  by_cases c2 : p.length ≤ 20
  ·
   rw [show decide ((p.length : Int) ≤ 20) = true from decide_eq_true (by omega)]
   refine vc ?_
   simp only [gW.j1, List.length_map, e1, w1]
   clear w1
   refine vp trivial (vp (by omega) (vp (by omega) (vb h1 ?_)))
   cases e : fv c with
   | true => exact vp rfl (vq hv (by rw [List.all_cons, e, Bool.true_and]))
   | false => exact vn (by simp) (vq (vs _) (by rw [List.all_cons, e]; simp))
  ·
   rw [show decide ((p.length : Int) ≤ 20) = false from decide_eq_false (by omega)]
   exact vq (out _) (by rw [decide_eq_false (by omega)]; rfl)
theorem AB (ls : List (Str × Str)) (hs : small ls) (hn : ls.length ≤ 1048576) : Ev (fun k => gW.f k (ls.map uw)) (fvs ls) := Na ls hs hn ls [] rfl
theorem G6 (ls : List (Str × Str)) (hv : ls.all fv = true) (hn : ls.length ≤ 20) (r : List (Str × Str)) : ∀ (p : List (Str × Str)) (acc : List Str), ls = p ++ r → acc.length ≤ 183 * p.length → Ev (fun k => jr.l0 k (acc.map bD) (ls.map uw) (ls.length : Int) (p.length : Int)) ((acc ++ r.flatMap FP).map bD, true) := by
 induction r with
 | nil =>
  intro p acc h ha
  have hz : ls.length = p.length := by rw [h, List.append_nil]
  refine vc ?_
  simp only [jr.l0]
  exact vn (by omega) (vq (vs _) (by simp))
 | cons c r ih =>
  intro p acc h ha
  have hz := jc h
  have e1 := wQ h
  have hc : fv c = true := List.all_eq_true.mp hv c (by rw [h]; simp)
  have hl := aad hc
  have hf := Ov hc
  have w1 : wrap64 ((p.length : Int) + 1) = (p.length : Int) + 1 := bf (by omega) (by omega)
  have hv := ih (p ++ [c]) (acc ++ FP c) (by rw [h]; simp) (by simp only [List.length_append, List.length_singleton]; omega)
  rw [nY, List.map_append] at hv
  refine vc ?_
  simp only [jr.l0, List.length_map, e1, w1]
  clear w1
  exact vp (by omega) (vp (by omega) (vp (by omega) (vb (MZ c (by omega) (by omega)) (vp (by simp only [List.length_map]; omega) (vq hv (by simp))))))
def folds (ls : List (Str × Str)) : List Str := ls.flatMap FP
theorem Ox (ls : List (Str × Str)) (h : fvs ls = true) : (folds ls).length ≤ 3660 := by
 unfold fvs at h
 simp only [Bool.and_eq_true, decide_eq_true_iff] at h
 have key : ∀ r : List (Str × Str), r.all fv = true → (r.flatMap FP).length ≤ 183 * r.length := by
  intro r
  induction r with
  | nil => intro _; simp
  | cons c r ih =>
   intro h
   rw [List.all_cons, Bool.and_eq_true] at h
   have := ih h.2
   have := Ov h.1
   rw [List.flatMap_cons, List.length_append, List.length_cons]
   omega
 have := key ls h.2
 unfold folds
 omega
theorem yw (ls : List (Str × Str)) (hs : small ls) (hn : ls.length ≤ 1048576) : Ev (fun k => jr.f k (ls.map uw)) (if fvs ls = true then ((folds ls).map bD, true) else ([], false)) := by
 unfold jr.f
 refine vb (Iu ls hs hn) ?_
 cases e : fvs ls with
 | false => exact vn (by simp) (vs _)
 | true =>
  rw [List.length_map]
  unfold fvs at e
  simp only [Bool.and_eq_true, decide_eq_true_iff] at e
  exact vp rfl (G6 ls e.2 e.1 ls [] [] rfl (by simp))
theorem Nb (f : Str × Str) (hf : fv f = true) : Ev (fun k => gI.f k (bD f.1) (bD f.2)) ((FP f).map bD) := by
 have hl := aad hf
 have hx := yu f (by omega) (by omega)
 rw [hf] at hx
 obtain ⟨a, b⟩ := f
 simp only at hl
 unfold gI.f FP Yz
 have key : ∀ l : Str, l.length ≤ 3000 → Ev (fun k => gI.j0 k [] (bD l) ((a.length + 2 : Nat) : Int)) ((fl l.length l (a.length + 3)).map bD) := by
  intro l hl
  refine vc ?_
  simp only [gI.j0]
  have := M_ l.length l (a.length + 2) [] (Nat.le_refl _) (by omega) (by omega) (by omega) (by simp; omega)
  exact this
 refine vb (vs _) (vb hx (vp rfl ?_))
 have w : wrap64 (((a.length + 1 : Nat) : Int) + 1) = ((a.length + 2 : Nat) : Int) := by rw [bf (by omega) (by omega)]; omega
 simp only [UE, UF, kY, ay, m_, List.length_append, List.length_cons, List.length_nil]
 refine vp (by omega) ?_
 by_cases c : b = []
 ·
  subst c
  refine vp rfl ?_
  refine vc ?_
  simp only [gI.j0]
  have := M_ (a ++ [58]).length (a ++ [58]) (a.length + 1) [] (Nat.le_refl _) (by simp; omega) (by omega) (by omega) (by simp; omega)
  have e : fl (a ++ [58]).length (a ++ [58]) (a.length + 1 + 1) = fl (a ++ [58]).length (a ++ [58]) (a.length + 3) := by
   have g : ∀ (n i j : Nat), fl n (a ++ [58]) i = fl n (a ++ [58]) j := fun n i j => by
    cases n with
    | zero => rfl
    | succ n => rw [fl, fl, if_neg (by simp; omega), if_neg (by simp; omega)]
   exact g _ _ _
  rw [e] at this
  simpa using this
 ·
  refine vn c (vp (by omega) (vp (by omega) ?_))
  have := key ((a ++ [58]) ++ [32] ++ b) (by simp; omega)
  rw [if_neg c, w]
  simpa [Nat.add_assoc, Nat.add_comm, Nat.add_left_comm] using this
theorem G7 (ls : List (Str × Str)) (hv : ls.all fv = true) (hn : ls.length ≤ 20) (r : List (Str × Str)) : ∀ (p : List (Str × Str)) (acc : List Str), ls = p ++ r → acc.length ≤ 183 * p.length → Ev (fun k => jd.l0 k (ls.map uw) (acc.map bD) (p.length : Int)) ((acc ++ r.flatMap FP).map bD, true) := by
 induction r with
 | nil =>
  intro p acc h ha
  have hz : ls.length = p.length := by rw [h, List.append_nil]
  refine vc ?_
  simp only [jd.l0, List.length_map]
  exact vn (by omega) (vq (vs _) (by simp))
 | cons c r ih =>
  intro p acc h ha
  have hz := jc h
  have e1 := wQ h
  have hc : fv c = true := List.all_eq_true.mp hv c (by rw [h]; simp)
  have hf := Ov hc
  have w1 : wrap64 ((p.length : Int) + 1) = (p.length : Int) + 1 := bf (by omega) (by omega)
  have hv := ih (p ++ [c]) (acc ++ FP c) (by rw [h]; simp) (by simp only [List.length_append, List.length_singleton]; omega)
  rw [nY, List.map_append] at hv
  refine vc ?_
  simp only [jd.l0, List.length_map, e1, w1]
  clear w1
  exact vp (by omega) (vp (by omega) (vb (Nb c hc) (vp (by simp only [List.length_map]; omega) (vq hv (by simp)))))
theorem Jy (ls : List (Str × Str)) (hs : small ls) (hn : ls.length ≤ 1048576) : Ev (fun k => jd.f k (ls.map uw)) (if fvs ls = true then ((folds ls).map bD, true) else ([], false)) := by
 unfold jd.f
 refine vb (vs _) (vb (AB ls hs hn) ?_)
 cases e : fvs ls with
 | false => exact vn (by simp) (vs _)
 | true =>
  unfold fvs at e
  simp only [Bool.and_eq_true, decide_eq_true_iff] at e
  exact vp rfl (G7 ls e.2 e.1 ls [] [] rfl (by simp))
/-! The boundary of a part. -/
def ctype : Str := [67, 111, 110, 116, 101, 110, 116, 45, 84, 121, 112, 101]
def bF (fs : List (Str × Str)) : Str × Bool := match pk (yR fs ctype).1 with
 | none => ([], false)
 | some x => PO x.1 x.2.1 x.2.2
theorem UG : (⟨#[67, 111, 110, 116, 101, 110, 116, 45, 84, 121, 112, 101]⟩ : ByteArray) = bD ctype := rfl
theorem WQ {fs : List (Str × Str)} (h : (bF fs).2 = true) : GK (bF fs).1 = true := by
 unfold bF at h ⊢
 cases e : pk (yR fs ctype).1 with
 | none => rw [e] at h; cases h
 | some x =>
  rw [e] at h
  simp only at h ⊢
  unfold PO at h ⊢
  by_cases c : wR x.1 x.2.1 x.2.2 = true ∧ x.1 = multi ∧ GK (yR x.2.2 bnd).1 = true
  ·
   rw [if_pos c]; exact c.2.2
  ·
   rw [if_neg c] at h; cases h
theorem apj : pk [] = none := by decide
theorem G8 {l : Str} (h : isSmall l = true) : l.length ≤ 30 := by
 unfold isSmall at h
 rw [Bool.and_eq_true] at h
 exact Ym h.1
theorem YA {s : Str} {x : Str × Str × List (Str × Str)} (h : pk s = some x) : x.1.length ≤ 1048576 ∧ x.2.1.length ≤ 1048576 ∧ BA x.2.2 ≤ 1048576 ∧ x.2.2.length ≤ 1048576 := by
 obtain ⟨a, b, ps⟩ := x
 have hv := agV h
 have h1 := MN hv
 have h2 := acK ps [] h1.2.2.2.1
 have key : ∀ q : List (Str × Str), (∀ p ∈ q, isSmall p.1 = true ∧ lX p.2 = true ∧ p.2.length ≤ 40) → BA q ≤ 70 * q.length := by
  intro q
  induction q with
  | nil => intro _; simp [BA]
  | cons c q ih =>
   intro h
   have h3 := h c (by simp)
   have h4 := ih fun p hp => h p (by simp [hp])
   have h5 := G8 h3.1
   rw [BA, List.length_cons]
   omega
 have h3 := key ps h2
 have h4 := G8 h1.1
 have h5 := G8 h1.2.1
 refine ⟨?_, ?_, ?_, ?_⟩ <;> (simp only; omega)
theorem F6 (fs : List (Str × Str)) (hs : small fs) (hn : fs.length ≤ 1048576) (bb : List ByteArray) (kk : List mV) : Ev (fun k => lI.f k (fs.map uw) bb kk) (bD (bF fs).1, (bF fs).2) := by
 unfold lI.f bF
 rw [UG]
 refine vb (Ej fs ctype hs (by decide) hn) (vb (ML _ (E5 fs ctype hs)) ?_)
 cases e : pk (yR fs ctype).1 with
 | none => exact vn (by simp [PS]) (vs _)
 | some x =>
  have hx := YA e
  exact vp rfl (vb (Jr x.1 x.2.1 x.2.2 hx.1 hx.2.1 hx.2.2.1 hx.2.2.2) (vs _))
theorem Ce (fs : List (Str × Str)) (hs : small fs) (hn : fs.length ≤ 1048576) : Ev (fun k => kV.f k (fs.map uw)) (bD (bF fs).1, (bF fs).2) := by
 unfold kV.f
 rw [UG]
 refine vb (Em fs ctype hs (by decide) hn) (vb (MQ _ (E5 fs ctype hs)) ?_)
 unfold bF
 cases e : pk (yR fs ctype).1 with
 | none =>
  refine vb (BX [] [] [] (by simp) (by simp) (by simp [BA]) (by simp)) ?_
  cases (yR fs ctype).2 with
  | true => exact vp rfl (vn (by simp [PS]) (vs _))
  | false => exact vn (by simp) (vs _)
 | some x =>
  have hx := YA e
  refine vb (BX x.1 x.2.1 x.2.2 hx.1 hx.2.1 hx.2.2.1 hx.2.2.2) ?_
  cases g : (yR fs ctype).2 with
  | true => exact vp rfl (vp rfl (vs _))
  | false => rw [Ut fs ctype g, apj] at e; cases e
/-! The lines of a part. -/
def kl (g : Pt → Option (List Str)) : List Pt → Option (List (List Str))
 | [] => some []
 | p :: r => match g p with
  | none => none
  | some a => (kl g r).map (a :: ·)
def tbs (b : List Str) : Bool := decide (b.length ≤ 30) && b.all lX
def head (f : List (Str × Str)) : List Str := folds f ++ [[]]
def lines : Nat → Pt → Option (List Str)
 | 0, _ => none
 | d + 1, .mk f b k => if fvs f = true then (if (bF f).2 = true then (if b = [] ∧ 1 ≤ k.length ∧ k.length ≤ 4 then (match kl (lines d) k with
   | none => none
   | some ls => (jR (bF f).1 ls).map (head f ++ ·)) else none) else (if k = [] ∧ tbs b = true then some (head f ++ b) else none)) else none
theorem aae {g : Pt → Option (List Str)} {N : Nat} : ∀ {k : List Pt} {ls : List (List Str)}, kl g k = some ls → (∀ p ∈ k, ∀ a, g p = some a → a.length ≤ N) → ls.length = k.length ∧ tl ls ≤ (N + 1) * k.length
 | [], ls, h, _ => by
  rw [kl] at h
  cases h
  simp [tl]
 | p :: r, ls, h, hN => by
  rw [kl] at h
  cases e : g p with
  | none => rw [e] at h; cases h
  | some a =>
   rw [e] at h
   cases e2 : kl g r with
   | none => rw [e2] at h; cases h
   | some l =>
    rw [e2] at h
    cases h
    have h1 := aae e2 fun q hq => hN q (by simp [hq])
    have h2 := hN p (by simp) a e
    rw [List.length_cons, List.length_cons, tl, Nat.mul_succ]
    omega
def lN : Nat → Nat
 | 0 => 4000
 | d + 1 => 4 * lN d + 4000
theorem ag1 {d : Nat} (h : d ≤ 3) : lN d ≤ 500000 := by
 rcases d with _ | _ | _ | _ | d
 ·
  decide
 ·
  decide
 ·
  decide
 ·
  decide
 ·
  omega
theorem aaf {b : Str} {ps : List (List Str)} {s : List Str} (h : jR b ps = some s) : s.length = tl ps + 1 := by
 unfold jR at h
 split at h
 ·
  cases h
  rw [List.length_append, Sm]
  rfl
 ·
  cases h
theorem Sr {f : List (Str × Str)} (h : fvs f = true) : (head f).length ≤ 3661 := by
 have := Ox f h
 unfold head
 rw [List.length_append, List.length_singleton]
 omega
theorem Es : ∀ (d : Nat) (p : Pt) (ls : List Str), lines d p = some ls → ls.length ≤ lN d
 | 0, p, ls, h => by rw [lines] at h; cases h
 | d + 1, .mk f b k, ls, h => by
  rw [lines] at h
  by_cases c : fvs f = true
  ·
   rw [if_pos c] at h
   have h1 := Sr c
   by_cases c1 : (bF f).2 = true
   ·
    rw [if_pos c1] at h
    by_cases c2 : b = [] ∧ 1 ≤ k.length ∧ k.length ≤ 4
    ·
     rw [if_pos c2] at h
     cases e : kl (lines d) k with
     | none => rw [e] at h; cases h
     | some l =>
      rw [e] at h
      simp only at h
      have h2 := aae e (N := lN d) fun p _ a h => Es d p a h
      cases e2 : jR (bF f).1 l with
      | none => rw [e2] at h; cases h
      | some s =>
       rw [e2] at h
       cases h
       have h3 := aaf e2
       have h4 : (lN d + 1) * k.length ≤ (lN d + 1) * 4 := Nat.mul_le_mul_left _ c2.2.2
       rw [List.length_append, lN]
       omega
    ·
     rw [if_neg c2] at h; cases h
   ·
    rw [if_neg c1] at h
    by_cases c2 : k = [] ∧ tbs b = true
    ·
     rw [if_pos c2] at h
     cases h
     have h2 := c2.2
     unfold tbs at h2
     simp only [Bool.and_eq_true, decide_eq_true_iff] at h2
     rw [List.length_append, lN]
     omega
    ·
     rw [if_neg c2] at h; cases h
  ·
   rw [if_neg c] at h; cases h
theorem Jz (ls : List Str) (hs : ∀ x ∈ ls, x.length ≤ 1048576) (hn : ls.length ≤ 1048576) (r : List Str) : ∀ p, ls = p ++ r → ∃ v : Int, Ev (fun k => aZ.l0 k (ls.map bD) (ls.length : Int) (p.length : Int)) v ∧ decide (v ≥ 0) = !(r.all lX) := by
 induction r with
 | nil =>
  intro p h
  have hz : ls.length = p.length := by rw [h, List.append_nil]
  refine ⟨-1, vc ?_, rfl⟩
  simp only [aZ.l0]
  exact vn (by omega) (vs _)
 | cons c r ih =>
  intro p h
  have hz := jc h
  have e1 := xQ h
  have hc := hs c (by rw [h]; simp)
  have w1 : wrap64 ((p.length : Int) + 1) = (p.length : Int) + 1 := bf (by omega) (by omega)
  obtain ⟨v, hv, hv2⟩ := ih (p ++ [c]) (by rw [h]; simp)
  rw [nY] at hv
  have h1 : Ev (fun k => qU.f k (bD c)) (!lX c) := vb (qQ c (by omega)) (vs _)
  cases e : lX c with
  | true =>
   rw [e] at h1
   refine ⟨v, vc ?_, by rw [hv2, List.all_cons, e]; rfl⟩
   simp only [aZ.l0, e1, w1, List.length_map]
   clear w1
   exact vp (by omega) (vp (by omega) (vp (by omega) (vb h1 (vn (by simp) hv))))
  | false =>
   rw [e] at h1
   refine ⟨p.length, vc ?_, by rw [List.all_cons, e]; simp⟩
   simp only [aZ.l0, e1, w1, List.length_map]
   clear w1
   exact vp (by omega) (vp (by omega) (vp (by omega) (vb h1 (vp (by simp) (vs _)))))
theorem Oy (ls : List Str) (hs : ∀ x ∈ ls, x.length ≤ 1048576) (hn : ls.length ≤ 1048576) : Ev (fun k => rM.f k (ls.map bD) 30) (tbs ls) := by
 unfold rM.f fZ.f aZ.f tbs
 rw [List.length_map]
 by_cases c : ls.length ≤ 30
 ·
  obtain ⟨v, hv, hv2⟩ := Jz ls hs hn ls [] rfl
  refine vp (by omega) (vb (vb hv (vs _)) (vq (vs _) ?_))
  rw [hv2, decide_eq_true c]
  simp
 ·
  refine vn (by omega) (vq (vs _) ?_)
  rw [decide_eq_false c]; rfl
def lr (o : Option (List Str)) (v : List ByteArray × Bool) : Prop := match o with
 | some ls => v = (ls.map bD, true)
 | none => v.2 = false
theorem zQ {f : List (Str × Str)} {b : List Str} {k : List Pt} (h : IW (.mk f b k) ≤ 1048576) : small f ∧ f.length ≤ 1048576 ∧ (∀ x ∈ b, x.length ≤ 1048576) ∧ b.length ≤ 1048576 ∧ k.length ≤ 1048576 ∧ ∀ p ∈ k, IW p ≤ 1048576 := by
 rw [IW] at h
 exact ⟨Ei (by omega), by omega, fun x hx => by have := WB hx; omega, by omega, by omega, fun p hp => by have := L_ hp; omega⟩
theorem YB (f : List (Str × Str)) : (folds f).map bD ++ [(⟨#[]⟩ : ByteArray)] = (head f).map bD := by
 unfold head
 rw [List.map_append]
 rfl
theorem YC (acc : List (List Str)) (l : List Str) : acc.map (List.map bD) ++ [l.map bD] = (acc ++ [l]).map (List.map bD) := by rw [List.map_append]; rfl
theorem PY : ∀ (d : Nat) (p : Pt), d ≤ 3 → IW p ≤ 1048576 → ∃ v, Ev (fun k => aH.f k (e32 p).f0 (e32 p).f1 (e32 p).f2 (d : Int)) v ∧ lr (lines d p) v := by
 have bad : ∀ (d : Int) (X : List ByteArray) (F : List gK) (B : List ByteArray) (K : List mV), Ev (fun k => aH.j0 k d X true F B K) ([], false) := fun d X F B K => by
  refine vc ?_
  simp only [aH.j0]
  exact vp trivial (vs _)
 intro d
 induction d with
 | zero =>
  intro p hd hp
  obtain ⟨f, b, k⟩ := p
  obtain ⟨hf, hfn, -⟩ := zQ hp
  simp only [vU]
  refine ⟨([], false), vc ?_, rfl⟩
  simp only [aH.f]
  refine vb (yw f hf hfn) ?_
  by_cases c : fvs f = true
  ·
   rw [if_pos c]
   exact vp rfl (bad _ _ _ _ _)
  ·
   rw [if_neg c]
   exact vn (by simp) (bad _ _ _ _ _)
 | succ d ih =>
  intro p hd hp
  obtain ⟨f, b, k⟩ := p
  obtain ⟨hf, hfn, hb, hbn, hkn, hk⟩ := zQ hp
  simp only [vU]
  rw [lines]
  by_cases c : fvs f = true
  case neg =>
   rw [if_neg c]
   refine ⟨([], false), vc ?_, rfl⟩
   simp only [aH.f]
   refine vb (yw f hf hfn) ?_
   rw [if_neg c]
   exact vn (by simp) (bad _ _ _ _ _)
  rw [if_pos c]
  have hh := Sr c
  have hfo := Ox f c
  have go : ∀ v, Ev (fun n => if (bF f).2 = true then (if (b.length : Int) > 0 then aH.j1 n ((d + 1 : Nat) : Int) ((head f).map bD) (bD (bF f).1) true (f.map uw) (b.map bD) (k.map e32) else (if (k.length : Int) < 1 then aH.j1 n ((d + 1 : Nat) : Int) ((head f).map bD) (bD (bF f).1) true (f.map uw) (b.map bD) (k.map e32) else aH.j1 n ((d + 1 : Nat) : Int) ((head f).map bD) (bD (bF f).1) (decide ((k.length : Int) > 4)) (f.map uw) (b.map bD) (k.map e32))) else (if ((head f).map bD).length + (b.map bD).length < 8796093022208 then (some ((head f).map bD ++ b.map bD : List ByteArray)).bind fun y => (if (k.length : Int) = 0 then ((rM.f n (b.map bD) 30).bind fun t => some (y, t)) else some (y, false)) else none)) v → Ev (fun n => aH.f n (f.map uw) (b.map bD) (k.map e32) ((d + 1 : Nat) : Int)) v := by
   intro v hv
   refine vc ?_
   simp only [aH.f]
   refine vb (yw f hf hfn) ?_
   rw [if_pos c]
   refine vp rfl ?_
   rw [show (((d + 1 : Nat) : Int) == 0) = false by simp; omega]
   refine vc ?_
   simp only [aH.j0]
   refine vn (by simp) (vp (by rw [List.length_map]; omega) (vb (vs _) (vb (F6 f hf hfn _ _) ?_)))
   rw [YB]
   simp only [List.length_map] at hv ⊢
   exact hv
  have aag : ∀ (X : List ByteArray) (B : ByteArray), Ev (fun n => aH.j1 n ((d + 1 : Nat) : Int) X B true (f.map uw) (b.map bD) (k.map e32)) ([], false) := fun X B => by
   refine vc ?_
   simp only [aH.j1]
   exact vp trivial (vs _)
  by_cases c1 : (bF f).2 = true
  ·
   rw [if_pos c1]
   by_cases c2 : b = [] ∧ 1 ≤ k.length ∧ k.length ≤ 4
   ·
    rw [if_pos c2]
    obtain ⟨rfl, hk1, hk4⟩ := c2
    have hbd := RN (WQ c1)
    have hN := ag1 (d := d) (by omega)
    have key : ∀ (r p : List Pt) (acc : List (List Str)), k = p ++ r → acc.length = p.length → tl acc ≤ (lN d + 1) * p.length → ∃ v, Ev (fun n => aH.l0 n ((d + 1 : Nat) : Int) ((head f).map bD) (bD (bF f).1) (acc.map (List.map bD)) (k.map e32) (k.length : Int) (p.length : Int)) v ∧ lr (match kl (lines d) r with
      | none => none
      | some ls => (jR (bF f).1 (acc ++ ls)).map (head f ++ ·)) v := by
     intro r
     induction r with
     | nil =>
      intro p acc h ha ht
      have hz : k.length = p.length := by rw [h, List.append_nil]
      have ht2 : (lN d + 1) * p.length ≤ (lN d + 1) * 4 := Nat.mul_le_mul_left _ (by omega)
      have hj := MS acc (bF f).1 (by omega) (by omega)
      rw [kl]
      simp only [List.append_nil]
      cases e : jR (bF f).1 acc with
      | none =>
       rw [e] at hj
       refine ⟨((head f).map bD ++ [], false), vc ?_, rfl⟩
       simp only [aH.l0]
       exact vn (by omega) (vb hj (vp (by rw [List.length_map]; simp only [Ot, List.length_nil]; omega) (vs _)))
      | some s =>
       rw [e] at hj
       have hs := aaf e
       refine ⟨((head f).map bD ++ s.map bD, true), vc ?_, by simp [lr]⟩
       simp only [aH.l0]
       exact vn (by omega) (vb hj (vp (by rw [List.length_map]; simp only [Ot, List.length_map]; omega) (vs _)))
     | cons q r ihr =>
      intro p acc h ha ht
      have hz := jc h
      have e1 := Am h
      have w1 : wrap64 ((p.length : Int) + 1) = (p.length : Int) + 1 := bf (by omega) (by omega)
      have w2 : wrap64 (((d + 1 : Nat) : Int) - 1) = (d : Int) := by rw [bf (by omega) (by omega)]; omega
      obtain ⟨u, hu, hr⟩ := ih q (by omega) (hk q (by rw [h]; simp))
      rw [kl]
      cases e : lines d q with
      | none =>
       rw [e] at hr
       refine ⟨([], false), vc ?_, rfl⟩
       simp only [aH.l0, List.length_map, e1, w1, w2]
       clear w1 w2
       exact vp (by omega) (vp (by omega) (vp (by omega) (vb hu (vn (by rw [show u.2 = false from hr]; simp) (vs _)))))
      | some a =>
       rw [e] at hr
       have hr : u = (a.map bD, true) := hr
       subst hr
       have hla := Es d q a e
       obtain ⟨v, hv, hv2⟩ := ihr (p ++ [q]) (acc ++ [a]) (by rw [h]; simp) (by simp [ha]) (by rw [Ef, List.length_append, List.length_singleton, Nat.mul_add]; simp only [tl]; omega)
       rw [nY, ← YC] at hv
       refine ⟨v, vc ?_, ?_⟩
       ·
        simp only [aH.l0, List.length_map, e1, w1, w2]
        clear w1 w2
        exact vp (by omega) (vp (by omega) (vp (by omega) (vb hu (vp rfl (vp (by omega) hv)))))
       ·
        simp only
        cases e2 : kl (lines d) r with
        | none => rw [e2] at hv2; exact hv2
        | some l =>
         rw [e2] at hv2
         simpa using hv2
    obtain ⟨v, hv, hv2⟩ := key k [] [] rfl rfl (by simp [tl])
    refine ⟨v, go v (vp c1 (vn (by simp) (vn (by omega) ?_))), hv2⟩
    rw [show decide ((k.length : Int) > 4) = false from decide_eq_false (by omega)]
    refine vc ?_
    simp only [aH.j1, List.length_map]
    exact vn (by simp) hv
   ·
    rw [if_neg c2]
    refine ⟨([], false), go _ (vp c1 ?_), rfl⟩
    by_cases c3 : (b.length : Int) > 0
    ·
     exact vp c3 (aag _ _)
    ·
     refine vn c3 ?_
     have hb0 : b = [] := List.length_eq_zero_iff.mp (by omega)
     by_cases c4 : (k.length : Int) < 1
     ·
      exact vp c4 (aag _ _)
     ·
      refine vn c4 ?_
      rw [show decide ((k.length : Int) > 4) = true from decide_eq_true (by
       apply Classical.byContradiction
       intro h
       exact c2 ⟨hb0, by omega, by omega⟩)]
      exact aag _ _
  ·
   rw [if_neg c1]
   have hlen : ((head f).map bD).length + (b.map bD).length < 8796093022208 := by simp only [List.length_map]; omega
   by_cases c3 : k = []
   ·
    subst c3
    refine ⟨((head f).map bD ++ b.map bD, tbs b), go _ (vn c1 (vp hlen (vb (vs _) (vp rfl (vb (Oy b hb hbn) (vs _)))))), ?_⟩
    cases e : tbs b with
    | true => simp [lr]
    | false => simp [lr]
   ·
    have hk0 : ¬ (k.length : Int) = 0 := fun h => c3 (List.length_eq_zero_iff.mp (by omega))
    refine ⟨((head f).map bD ++ b.map bD, false), go _ (vn c1 (vp hlen (vb (vs _) (vn hk0 (vs _))))), ?_⟩
    rw [if_neg (fun h => c3 h.1)]
    rfl
theorem zo (p : Pt) (hp : IW p ≤ 1048576) : Ev (fun k => kF.f k (e32 p).f0 (e32 p).f1 (e32 p).f2) (lines 3 p).isSome := by
 unfold kF.f
 obtain ⟨v, hv, hr⟩ := PY 3 p (by omega) hp
 refine vb hv (vq (vs _) ?_)
 cases e : lines 3 p with
 | none => rw [e] at hr; exact hr
 | some ls =>
  rw [e] at hr
  rw [show v = _ from hr]
  rfl
/-! The reference's lines of a part, and whether it is valid. -/
theorem Oz : ∀ (d : Nat) (p : Pt) (ls : List Str), d ≤ 3 → IW p ≤ 1048576 → lines d p = some ls → Ev (fun k => jF.f k (e32 p).f0 (e32 p).f1 (e32 p).f2) (ls.map bD) := by
 intro d
 induction d with
 | zero => intro p ls hd hp h; rw [lines] at h; cases h
 | succ d ih =>
  intro p ls hd hp h
  obtain ⟨f, b, k⟩ := p
  obtain ⟨hf, hfn, hb, hbn, hkn, hk⟩ := zQ hp
  simp only [vU]
  rw [lines] at h
  by_cases c : fvs f = true
  case neg => rw [if_neg c] at h; cases h
  rw [if_pos c] at h
  have hh := Sr c
  have hfo := Ox f c
  refine vc ?_
  simp only [jF.f]
  refine vb (Jy f hf hfn) ?_
  rw [if_pos c]
  refine vp (by rw [List.length_map]; omega) (vb (vs _) (vb (Ce f hf hfn) ?_))
  simp only [YB]
  by_cases c1 : (bF f).2 = true
  ·
   rw [if_pos c1] at h
   by_cases c2 : b = [] ∧ 1 ≤ k.length ∧ k.length ≤ 4
   case neg => rw [if_neg c2] at h; cases h
   rw [if_pos c2] at h
   obtain ⟨rfl, hk1, hk4⟩ := c2
   have hbd := RN (WQ c1)
   have hN := ag1 (d := d) (by omega)
   cases e : kl (lines d) k with
   | none => rw [e] at h; cases h
   | some l =>
   rw [e] at h
   simp only at h
   cases e2 : jR (bF f).1 l with
   | none => rw [e2] at h; cases h
   | some s =>
   rw [e2] at h
   cases h
   have key : ∀ (r p : List Pt) (acc m : List (List Str)), k = p ++ r → acc.length = p.length → tl acc ≤ (lN d + 1) * p.length → kl (lines d) r = some m → l = acc ++ m → Ev (fun n => jF.l0 n ((head f).map bD) (bD (bF f).1) (acc.map (List.map bD)) (p.length : Int) (f.map uw) (([] : List Str).map bD) (k.map e32)) ((head f ++ s).map bD) := by
    intro r
    induction r with
    | nil =>
     intro p acc m h ha ht hm hl
     have hz : k.length = p.length := by rw [h, List.append_nil]
     have ht2 : (lN d + 1) * p.length ≤ (lN d + 1) * 4 := Nat.mul_le_mul_left _ (by omega)
     rw [kl] at hm
     cases hm
     rw [List.append_nil] at hl
     subst hl
     have hj := MX l (bF f).1 (by omega) (by omega)
     rw [e2] at hj
     have hs := aaf e2
     refine vc ?_
     simp only [jF.l0, List.length_map]
     exact vn (by omega) (vb hj (vp (by simp only [Ot, List.length_map]; omega) (vq (vs _) (by simp [Ot]))))
    | cons q r ihr =>
     intro p acc m h ha ht hm hl
     have hz := jc h
     have e1 := Am h
     have w1 : wrap64 ((p.length : Int) + 1) = (p.length : Int) + 1 := bf (by omega) (by omega)
     rw [kl] at hm
     cases e3 : lines d q with
     | none => rw [e3] at hm; cases hm
     | some a =>
     rw [e3] at hm
     cases e4 : kl (lines d) r with
     | none => rw [e4] at hm; cases hm
     | some m2 =>
     rw [e4] at hm
     cases hm
     have hu := ih q a (by omega) (hk q (by rw [h]; simp)) e3
     have hla := Es d q a e3
     have hv := ihr (p ++ [q]) (acc ++ [a]) m2 (by rw [h]; simp) (by simp [ha]) (by rw [Ef, List.length_append, List.length_singleton, Nat.mul_add]; simp only [tl]; omega) e4 (by rw [hl]; simp)
     rw [nY, ← YC] at hv
     refine vc ?_
     simp only [jF.l0, List.length_map, e1, w1]
     clear w1
     exact vp (by omega) (vp (by omega) (vb hu (vp (by omega) hv)))
   exact vp c1 (key k [] [] l rfl rfl (by simp [tl]) e rfl)
  ·
   rw [if_neg c1] at h
   by_cases c2 : k = [] ∧ tbs b = true
   case neg => rw [if_neg c2] at h; cases h
   rw [if_pos c2] at h
   cases h
   refine vn c1 (vp (by simp only [List.length_map]; omega) (vq (vs _) ?_))
   rw [List.map_append]
theorem OA (ls : List Str) (hs : ∀ x ∈ ls, x.length ≤ 1048576) (hn : ls.length ≤ 1048576) (r : List Str) : ∀ p, ls = p ++ r → Ev (fun k => iR.l0 k (ls.map bD) (p.length : Int)) (decide (ls.length ≤ 30) && r.all lX) := by
 have out : ∀ i : Int, Ev (fun k => iR.j1 k (ls.map bD) i false) (decide (ls.length ≤ 30)) := fun i => by
  refine vc ?_
  simp only [iR.j1, List.length_map]
  refine vn (by simp) (vq (vs _) ?_)
  exact decide_eq_decide.mpr (by omega)
 induction r with
 | nil =>
  intro p h
  have hz : ls.length = p.length := by rw [h, List.append_nil]
  refine vc ?_
  simp only [iR.l0, List.length_map]
  refine vn (by omega) (vq (out _) (by simp))
 | cons c r ih =>
  intro p h
  have hz := jc h
  have e1 := xQ h
  have hc := hs c (by rw [h]; simp)
  have w1 : wrap64 ((p.length : Int) + 1) = (p.length : Int) + 1 := bf (by omega) (by omega)
  have hv := ih (p ++ [c]) (by rw [h]; simp)
  rw [nY] at hv
  have h1 := lU c (by omega)
  refine vc ?_
  simp only [iR.l0, List.length_map]
  refine vp (by omega) ?_
  by_cases c2 : p.length ≤ 30
  ·
   rw [show decide ((p.length : Int) ≤ 30) = true from decide_eq_true (by omega)]
   refine vc ?_
   simp only [iR.j1, List.length_map, e1, w1]
   clear w1
   refine vp trivial (vp (by omega) (vp (by omega) (vb h1 ?_)))
   cases e : lX c with
   | true => exact vp rfl (vq hv (by rw [List.all_cons, e, Bool.true_and]))
   | false => exact vn (by simp) (vq (vs _) (by rw [List.all_cons, e]; simp))
  ·
   rw [show decide ((p.length : Int) ≤ 30) = false from decide_eq_false (by omega)]
   exact vq (out _) (by rw [decide_eq_false (by omega)]; rfl)
theorem G9 (ls : List Str) (hs : ∀ x ∈ ls, x.length ≤ 1048576) (hn : ls.length ≤ 1048576) : Ev (fun k => iR.f k (ls.map bD)) (tbs ls) := OA ls hs hn ls [] rfl
theorem aah (b : Str) (hb : b.length ≤ 100) (d x7 : Int) (F : List gK) (B : List ByteArray) (K : List mV) (ls : List Str) (hn : ls.length ≤ 1048576) (V : Bool) (h1 : dv ls b = true → V = false) (h2 : dv ls b = false → Ev (fun n => bQ.l0 n d (bD b) (wrap64 (x7 + 1)) F B K) V) : Ev (fun n => bQ.l1 n d (bD b) x7 (ls.map bD) 0 F B K) V := by
 rw [amI] at h1 h2
 have key : ∀ (r p : List Str), ls = p ++ r → (r.any (fun l => lk l b) = true → V = false) → (r.any (fun l => lk l b) = false → Ev (fun n => bQ.l0 n d (bD b) (wrap64 (x7 + 1)) F B K) V) → Ev (fun n => bQ.l1 n d (bD b) x7 (ls.map bD) (p.length : Int) F B K) V := by
  intro r
  induction r with
  | nil =>
   intro p h g1 g2
   have hz : ls.length = p.length := by rw [h, List.append_nil]
   refine vc ?_
   simp only [bQ.l1, List.length_map]
   exact vn (by omega) (g2 rfl)
  | cons c r ih =>
   intro p h g1 g2
   have hz := jc h
   have e1 := xQ h
   have w1 : wrap64 ((p.length : Int) + 1) = (p.length : Int) + 1 := bf (by omega) (by omega)
   refine vc ?_
   simp only [bQ.l1, List.length_map, e1, w1]
   clear w1
   refine vp (by omega) (vp (by omega) (jB (FN c b (by omega)) ?_))
   cases e : lk c b with
   | true =>
    refine vp rfl (vq (vs _) (g1 ?_).symm)
    rw [List.any_cons, e]; rfl
   | false =>
    have := ih (p ++ [c]) (by rw [h]; simp) (fun g => g1 (by rw [List.any_cons, e]; exact g)) (fun g => g2 (by rw [List.any_cons, e]; exact g))
    rw [nY] at this
    exact vn (by simp) this
 exact key ls [] rfl h1 h2
theorem PZ : ∀ (d : Nat) (p : Pt), d ≤ 3 → IW p ≤ 1048576 → Ev (fun k => bQ.f k (e32 p).f0 (e32 p).f1 (e32 p).f2 (d : Int)) (lines d p).isSome := by
 have bad : ∀ (d : Int) (F : List gK) (B : List ByteArray) (K : List mV), Ev (fun k => bQ.j0 k d true F B K) false := fun d F B K => by
  refine vc ?_
  simp only [bQ.j0]
  exact vp trivial (vs _)
 intro d
 induction d with
 | zero =>
  intro p hd hp
  obtain ⟨f, b, k⟩ := p
  obtain ⟨hf, hfn, -⟩ := zQ hp
  simp only [vU]
  refine vc ?_
  simp only [bQ.f]
  refine vb (AB f hf hfn) ?_
  by_cases c : fvs f = true
  ·
   exact vp c (bad _ _ _ _)
  ·
   exact vn c (bad _ _ _ _)
 | succ d ih =>
  intro p hd hp
  obtain ⟨f, b, k⟩ := p
  obtain ⟨hf, hfn, hb, hbn, hkn, hk⟩ := zQ hp
  simp only [vU]
  rw [lines]
  refine vc ?_
  simp only [bQ.f]
  refine vb (AB f hf hfn) ?_
  by_cases c : fvs f = true
  case neg =>
   rw [if_neg c]
   exact vn c (bad _ _ _ _)
  rw [if_pos c]
  refine vp c ?_
  rw [show decide (((d + 1 : Nat) : Int) < 1) = false from decide_eq_false (by omega)]
  refine vc ?_
  simp only [bQ.j0, List.length_map]
  refine vn (by simp) (vb (Ce f hf hfn) ?_)
  have aag : ∀ (B : ByteArray), Ev (fun n => bQ.j1 n ((d + 1 : Nat) : Int) B true (f.map uw) (b.map bD) (k.map e32)) false := fun B => by
   refine vc ?_
   simp only [bQ.j1]
   exact vp trivial (vs _)
  by_cases c1 : (bF f).2 = true
  ·
   rw [if_pos c1]
   refine vp c1 ?_
   by_cases c2 : b = [] ∧ 1 ≤ k.length ∧ k.length ≤ 4
   ·
    rw [if_pos c2]
    obtain ⟨rfl, hk1, hk4⟩ := c2
    have hbs := WQ c1
    have hbd := RN hbs
    have hN := ag1 (d := d) (by omega)
    have key : ∀ (r p : List Pt), k = p ++ r → Ev (fun n => bQ.l0 n ((d + 1 : Nat) : Int) (bD (bF f).1) (p.length : Int) (f.map uw) (([] : List Str).map bD) (k.map e32)) (match kl (lines d) r with
      | none => false
      | some ls => !ls.any (fun c => dv c (bF f).1)) := by
     intro r
     induction r with
     | nil =>
      intro p h
      have hz : k.length = p.length := by rw [h, List.append_nil]
      refine vc ?_
      simp only [bQ.l0, List.length_map]
      exact vn (by omega) (vs _)
     | cons q r ihr =>
      intro p h
      have hz := jc h
      have e1 := Am h
      have w1 : wrap64 ((p.length : Int) + 1) = (p.length : Int) + 1 := bf (by omega) (by omega)
      have w2 : wrap64 (((d + 1 : Nat) : Int) - 1) = (d : Int) := by rw [bf (by omega) (by omega)]; omega
      have hu := ih q (by omega) (hk q (by rw [h]; simp))
      have hv := ihr (p ++ [q]) (by rw [h]; simp)
      rw [nY, ← w1] at hv
      refine vc ?_
      simp only [bQ.l0, List.length_map, e1, w2]
      clear w1 w2
      refine vp (by omega) (vp (by omega) (vb hu ?_))
      rw [kl]
      cases e : lines d q with
      | none => exact vn (by simp) (vs _)
      | some a =>
       have hg := Oz d q a (by omega) (hk q (by rw [h]; simp)) e
       have hla := Es d q a e
       refine vp rfl (vb hg (aah _ (by omega) _ _ _ _ _ a (by omega) _ (fun g => ?_) (fun g => vq hv ?_)))
       ·
        cases kl (lines d) r with
        | none => rfl
        | some m => simp [g]
       ·
        cases kl (lines d) r with
        | none => rfl
        | some m => simp [g]
    refine vn (by simp) (vn (by omega) ?_)
    rw [show decide ((k.length : Int) > 4) = false from decide_eq_false (by omega)]
    refine vc ?_
    simp only [bQ.j1]
    refine vn (by simp) (vq (key k [] rfl) ?_)
    cases e : kl (lines d) k with
    | none => rfl
    | some ls =>
     have hl := (aae e (N := lN d) fun p _ a h => Es d p a h).1
     have h0 : ls ≠ [] := fun h => by rw [h] at hl; simp at hl; omega
     show (!ls.any (fun c => dv c (bF f).1)) = ((jR (bF f).1 ls).map (head f ++ ·)).isSome
     unfold jR
     cases ls.any (fun c => dv c (bF f).1) with
     | true => rw [if_neg (fun h => by have := h.2.2; cases this)]; rfl
     | false => rw [if_pos ⟨hbs, h0, rfl⟩]; rfl
   ·
    rw [if_neg c2]
    by_cases c3 : (b.length : Int) > 0
    ·
     exact vp c3 (aag _)
    ·
     refine vn c3 ?_
     have hb0 : b = [] := List.length_eq_zero_iff.mp (by omega)
     by_cases c4 : (k.length : Int) < 1
     ·
      exact vp c4 (aag _)
     ·
      refine vn c4 ?_
      rw [show decide ((k.length : Int) > 4) = true from decide_eq_true (by
       apply Classical.byContradiction
       intro h
       exact c2 ⟨hb0, by omega, by omega⟩)]
      exact aag _
  ·
   rw [if_neg c1]
   refine vn c1 ?_
   by_cases c3 : k = []
   ·
    subst c3
    refine vp rfl (vb (G9 b hb hbn) (vq (vs _) ?_))
    cases e : tbs b with
    | true => simp
    | false => simp
   ·
    have hk0 : ¬ (k.length : Int) = 0 := fun h => c3 (List.length_eq_zero_iff.mp (by omega))
    refine vn hk0 ?_
    rw [if_neg (fun h => c3 h.1)]
    exact vs _
theorem Nc (p : Pt) (hp : IW p ≤ 1048576) : Ev (fun k => l9.f k (e32 p).f0 (e32 p).f1 (e32 p).f2) (lines 3 p).isSome := by
 unfold l9.f
 exact vb (PZ 3 p (by omega) hp) (vs _)
/-! Coded words: the model. -/
def hx (n : UInt8) : UInt8 := if n < 10 then 48 + n else 55 + n
def cdB (c : UInt8) : Str := if c = 32 then [95] else if (CU c || decide (c = 45) || decide (c = 46)) = true then [c] else [61, hx (c / 16), hx (c % 16)]
def cd : Str → Str
 | [] => []
 | c :: r => cdB c ++ cd r
def cb : Str := [61, 63, 117, 116, 102, 45, 56, 63, 113, 63]
def ce : Str := [63, 61]
def cw (b : Str) : Str := cb ++ cd b ++ ce
def cwO (b : Str) : Option Str := if b = [] ∨ b.length > 40 ∨ (cw b).length > 40 then none else some (cw b)
theorem adG (a b : Str) : cd (a ++ b) = cd a ++ cd b := by
 induction a with
 | nil => rfl
 | cons c a ih => simp only [List.cons_append, cd, ih, List.append_assoc]
theorem acP (c : UInt8) : 1 ≤ (cdB c).length ∧ (cdB c).length ≤ 3 := by
 unfold cdB
 split
 ·
  exact ⟨by simp, by simp⟩
 ·
  split <;> exact ⟨by simp, by simp⟩
theorem ag2 (b : Str) : b.length ≤ (cd b).length ∧ (cd b).length ≤ 3 * b.length := by
 induction b with
 | nil => exact ⟨Nat.le_refl _, Nat.le_refl _⟩
 | cons c r ih => have := acP c; simp only [cd, List.length_append, List.length_cons]; omega
theorem apk (b : Str) : (cw b).length = (cd b).length + 12 := by
 unfold cw cb ce; simp
/-- Hexadecimal digits. -/
def vl (c : UInt8) : Int := if 48 ≤ c ∧ c ≤ 57 then ((c - 48).toNat : Int) else if 65 ≤ c ∧ c ≤ 70 then ((c - 55).toNat : Int) else -1
theorem ag3 {b s : Str} (h : cwO b = some s) : s = cw b ∧ b ≠ [] ∧ b.length ≤ 40 ∧ s.length ≤ 40 := by
 unfold cwO at h
 split at h
 ·
  cases h
 ·
  rename_i hn
  cases h
  refine ⟨rfl, fun e => hn (Or.inl e), ?_, ?_⟩ <;> omega
open Classical in
noncomputable def rcw (s : Str) : Option Str := if h : ∃ b, cwO b = some s then some (Classical.choose h) else none
def ag4 : Option Str → ByteArray × Bool
 | none => (bD [], false)
 | some s => (bD s, true)
/-! Parts at spaces. -/
def spl : Str → List Str
 | [] => [[]]
 | c :: r => if c = 32 then [] :: spl r else hd1 c (spl r)
/-! A name read. -/
noncomputable def dgo : List Str → Bool → Bool → Str → Str
 | [], _, _, out => out
 | x :: r, later, coded, out => dgo r true (rcw x).isSome (out ++ (if later = true ∧ ¬ (coded = true ∧ (rcw x).isSome = true) then [32] else []) ++ (rcw x).getD x)
noncomputable def dn (s : Str) : Option Str := if s.length > 600 then none else (let o := dgo (spl s) false false []; if o.length > 120 then none else some o)
/-! Coded words: the program and the reference. -/
theorem Sv (c : UInt8) : yE.f (c.toNat : Int) = some (bD (cdB c)) := by
 revert c
 exact RS (by decide +kernel)
theorem G_ (b : Str) (hb : b.length ≤ 1048576) : Ev (fun k => jT.f k (bD b)) (bD (cd b)) := by
 have key : ∀ (r p : Str), b = p ++ r → Ev (fun k => jT.l0 k (bD b) (bD (cd p)) (p.length : Int)) (bD (cd b)) := by
  intro r
  induction r with
  | nil =>
   intro p h
   rw [List.append_nil] at h
   subst h
   refine vc ?_
   simp only [jT.l0, ay]
   exact vn (by omega) (vs _)
  | cons c r ih =>
   intro p h
   have hz := jc h
   have e1 := jL h
   have w1 : wrap64 ((p.length : Int) + 1) = ((p ++ [c]).length : Int) := (bf (by omega) (by omega)).trans (by simp)
   have := ih (p ++ [c]) (by rw [h]; simp)
   rw [adG] at this
   have l1 := ag2 p
   have l2 := acP c
   refine vc ?_
   simp only [jT.l0, e1, w1, ay, Sv, Option.bind_some, kY]
   clear e1 w1
   refine vp (by omega) (vp (by omega) (vp (by omega) ?_))
   simpa [cd] using this
 unfold jT.f
 exact key b [] rfl
theorem OB (b : Str) (hb : b.length ≤ 1048576) : Ev (fun k => iV.f k (bD b)) (ag4 (cwO b)) := by
 have h := G_ b hb
 have bad : Ev (fun k => iV.j0 k (bD b) true) (ag4 none) := by
  refine vc ?_
  simp only [iV.j0]
  exact vp trivial (vq (vs _) rfl)
 unfold iV.f cwO
 rw [ay]
 by_cases h1 : b = []
 ·
  rw [if_pos (show b = [] ∨ b.length > 40 ∨ (cw b).length > 40 from Or.inl h1)]
  exact vp (by rw [h1]; decide) bad
 ·
  have hn : 0 < b.length := List.length_pos_iff.mpr h1
  refine vn (by omega) ?_
  by_cases h2 : b.length > 40
  ·
   rw [if_pos (show b = [] ∨ b.length > 40 ∨ (cw b).length > 40 from Or.inr (Or.inl h2)), decide_eq_true (by omega : (b.length : Int) > 40)]
   exact bad
  ·
   rw [decide_eq_false (by omega : ¬ (b.length : Int) > 40)]
   have l1 := ag2 b
   have e61 : (⟨#[61, 63, 117, 116, 102, 45, 56, 63, 113, 63]⟩ : ByteArray) = bD cb := rfl
   have e63 : (⟨#[63, 61]⟩ : ByteArray) = bD ce := rfl
   have e4 : cb ++ cd b ++ ce = cw b := rfl
   have l2 := apk b
   refine vc ?_
   simp only [iV.j0, e61, e63]
   refine vn (by simp) (vb h ?_)
   simp only [ay, kY, e4]
   refine vp (by omega) (vp (by rw [List.length_append, show cb.length = 10 from rfl]; omega) ?_)
   by_cases h3 : (cw b).length > 40
   ·
    rw [if_pos (show b = [] ∨ b.length > 40 ∨ (cw b).length > 40 from Or.inr (Or.inr h3))]
    exact vp (by omega) (vq (vs _) rfl)
   ·
    rw [if_neg (show ¬ (b = [] ∨ b.length > 40 ∨ (cw b).length > 40) from fun hh => hh.elim h1 (fun hh => hh.elim h2 h3))]
    exact vn (by omega) (vq (vs _) rfl)
/-! Coded words read. -/
/-! Names read. -/
def fit (o : Str) : Option Str := if o.length > 120 then none else some o
/-! Spaces trimmed by the reference. -/
/-! Names that are drawn. -/
theorem Nh (s : Str) (hs : s.length ≤ 1048576) : ∃ nc : Bool, Ev (fun k => iw.f k (bD s)) nc := by
 have key : ∀ (d i : Nat), s.length - i = d → i ≤ s.length → ∃ nc : Bool, Ev (fun k => iw.l0 k (bD s) (i : Int)) nc := by
  have fin : ∃ nc : Bool, Ev (fun k => (aQ.f k (bD s)).bind fun aBv => (if aBv = true then ((bW.f k (bD s)).bind fun t105 => (if t105.toList = (bD s).toList then (some (decide (((bD s).size : Int) > 120))) else (some true))) else (some true))) nc := by
   cases h1 : lX s with
   | false => exact ⟨true, vb (lU s (by omega)) (vn (by simp [h1]) (vs _))⟩
   | true =>
    by_cases h2 : (bD (trim s)).toList = (bD s).toList
    ·
     exact ⟨_, vb (lU s (by omega)) (vp h1 (vb (qK s hs) (vp h2 (vs _))))⟩
    ·
     exact ⟨true, vb (lU s (by omega)) (vp h1 (vb (qK s hs) (vn h2 (vs _))))⟩
  intro d
  induction d with
  | zero =>
   intro i hd hi
   obtain ⟨nc, hn⟩ := fin
   refine ⟨nc, vc ?_⟩
   simp only [iw.l0]
   have w1 : wrap64 ((i : Int) + 1) = (i : Int) + 1 := bf (by omega) (by omega)
   rw [w1]
   exact vn (by rw [ay]; omega) hn
  | succ d ih =>
   intro i hd hi
   have w1 : wrap64 ((i : Int) + 1) = ((i + 1 : Nat) : Int) := (bf (by omega) (by omega)).trans (by omega)
   by_cases h1 : i + 1 < s.length
   ·
    obtain ⟨nc, hn⟩ := ih (i + 1) (by omega) (by omega)
    by_cases h2 : (bt (bD s) (i : Int)) = 61
    ·
     by_cases h3 : (bt (bD s) ((i + 1 : Nat) : Int)) = 63
     ·
      refine ⟨true, vc ?_⟩
      simp only [iw.l0, w1, ay]
      exact vp (by omega) (vp (by omega) (vp (by omega) (vp h2 (vp (by omega) (vp h3 (vs _))))))
     ·
      refine ⟨nc, vc ?_⟩
      simp only [iw.l0, w1, ay]
      exact vp (by omega) (vp (by omega) (vp (by omega) (vp h2 (vp (by omega) (vn h3 hn)))))
    ·
     refine ⟨nc, vc ?_⟩
     simp only [iw.l0, w1, ay]
     exact vp (by omega) (vp (by omega) (vp (by omega) (vn h2 hn)))
   ·
    obtain ⟨nc, hn⟩ := fin
    refine ⟨nc, vc ?_⟩
    simp only [iw.l0, w1]
    exact vn (by rw [ay]; omega) hn
 unfold iw.f
 exact key s.length 0 rfl (by omega)
theorem adH (b : Str) : ∃ u : Str, (ag4 (cwO b)).1 = bD u ∧ u.length ≤ 40 := by
 cases e : cwO b with
 | none => exact ⟨[], rfl, by simp⟩
 | some s => exact ⟨s, rfl, (ag3 e).2.2.2⟩
theorem JA (b : Str) (hb : b.length ≤ 1048576) : ∃ (s : Str) (ok : Bool), Ev (fun k => bT.f k (bD b)) (bD s, ok) ∧ s.length ≤ 10000 := by
 unfold bT.f
 rw [ay]
 by_cases h : b.length > 120
 ·
  exact ⟨[], false, vp (by omega) (vq (vs _) rfl), by simp⟩
 ·
  obtain ⟨nc, hn⟩ := Nh b hb
  cases nc with
  | false => exact ⟨b, true, vn (by omega) (vb hn (vn (by simp) (vs _))), by omega⟩
  | true =>
   have ext : ∀ i j : Nat, (bD b).extract i j = bD ((b.drop i).take (j - i)) := fun i j => jV b i j
   have key : ∀ (m i : Nat) (out : Str), b.length - i ≤ m → i ≤ b.length → out.length ≤ 50 * i → ∃ s : Str, Ev (fun k => bT.l0 k (bD b) (bD out) (i : Int)) (bD s, true) ∧ s.length ≤ 10000 := by
    intro m
    induction m with
    | zero =>
     intro i out hm hi ho
     refine ⟨out, vc ?_, by omega⟩
     simp only [bT.l0, ay]
     exact vn (by omega) (vs _)
    | succ m ih =>
     intro i out hm hi ho
     by_cases hlt : i < b.length
     ·
      have inner : ∀ (d j : Nat), b.length - j = d → i < j → j ≤ b.length → ∃ s : Str, Ev (fun k => bT.l1 k (bD b) (bD out) (i : Int) (j : Int)) (bD s, true) ∧ s.length ≤ 10000 := by
       have e32 : (⟨#[32]⟩ : ByteArray) = bD [32] := rfl
       have put : ∀ j : Nat, i < j → j ≤ b.length → ∃ s : Str, Ev (fun k => (iV.f k (bD ((b.drop i).take (j - i)))).bind fun bt => (if (i : Int) > 0 then (if (bD out).size + 1 ≤ 9223372036854775807 then (if ((bD out) ++ (⟨#[32]⟩ : ByteArray)).size + bt.1.size ≤ 9223372036854775807 then (bT.l0 k (bD b) (((bD out) ++ (⟨#[32]⟩ : ByteArray)) ++ bt.1) (j : Int)) else (none)) else (none)) else (if (bD out).size + bt.1.size ≤ 9223372036854775807 then (bT.l0 k (bD b) ((bD out) ++ bt.1) (j : Int)) else (none)))) (bD s, true) ∧ s.length ≤ 10000 := by
        intro j h1 h2
        have hcw := OB ((b.drop i).take (j - i)) (by rw [List.length_take, List.length_drop]; omega)
        obtain ⟨u, hu, hul⟩ := adH ((b.drop i).take (j - i))
        by_cases h0 : 0 < i
        ·
         obtain ⟨s, hs, hsl⟩ := ih j (out ++ [32] ++ u) (by omega) h2 (by simp only [List.length_append, List.length_cons, List.length_nil]; omega)
         refine ⟨s, vb hcw (vp (by omega) ?_), hsl⟩
         simp only [hu, e32, ay, kY]
         exact vp (by omega) (vp (by simp only [List.length_append, List.length_cons, List.length_nil]; omega) hs)
        ·
         obtain ⟨s, hs, hsl⟩ := ih j (out ++ u) (by omega) h2 (by simp only [List.length_append]; omega)
         refine ⟨s, vb hcw (vn (by omega) ?_), hsl⟩
         simp only [hu, ay, kY]
         exact vp (by omega) hs
       intro d
       induction d with
       | zero =>
        intro j hd h1 h2
        obtain ⟨s, hs, hsl⟩ := put j h1 h2
        refine ⟨s, vc ?_, hsl⟩
        simp only [bT.l1, Int.toNat_natCast, ext]
        exact vn (by rw [ay]; omega) (vp (by omega) (vp (by omega) (vp (by rw [ay]; omega) hs)))
       | succ d ihd =>
        intro j hd h1 h2
        have w1 : wrap64 ((j : Int) + 1) = ((j + 1 : Nat) : Int) := (bf (by omega) (by omega)).trans (by omega)
        have hcd := G_ ((b.drop i).take (j + 1 - i)) (by rw [List.length_take, List.length_drop]; omega)
        by_cases h4 : (cd ((b.drop i).take (j + 1 - i))).length ≤ 28
        ·
         obtain ⟨s, hs, hsl⟩ := ihd (j + 1) (by omega) (by omega) (by omega)
         refine ⟨s, vc ?_, hsl⟩
         simp only [bT.l1, Int.toNat_natCast, ext, w1]
         clear w1
         exact vp (by rw [ay]; omega) (vp (by omega) (vp (by omega) (vp (by rw [ay]; omega) (vb hcd (vp (by rw [ay]; omega) hs)))))
        ·
         obtain ⟨s, hs, hsl⟩ := put j h1 h2
         refine ⟨s, vc ?_, hsl⟩
         simp only [bT.l1, Int.toNat_natCast, ext, w1]
         clear w1
         exact vp (by rw [ay]; omega) (vp (by omega) (vp (by omega) (vp (by rw [ay]; omega) (vb hcd (vn (by rw [ay]; omega) (vp (by omega) (vp (by rw [ay]; omega) hs)))))))
      have w1 : wrap64 ((i : Int) + 1) = ((i + 1 : Nat) : Int) := (bf (by omega) (by omega)).trans (by omega)
      obtain ⟨s, hs, hsl⟩ := inner _ (i + 1) rfl (by omega) (by omega)
      refine ⟨s, vc ?_, hsl⟩
      simp only [bT.l0, ay, w1]
      clear w1
      exact vp (by omega) hs
     ·
      refine ⟨out, vc ?_, by omega⟩
      simp only [bT.l0, ay]
      exact vn (by omega) (vs _)
   obtain ⟨s, hs, hsl⟩ := key b.length 0 [] (by omega) (by omega) (by simp)
   exact ⟨s, true, vn (by omega) (vb hn (vp rfl hs)), hsl⟩
/-! Codes of bytes: what they give is bounded. -/
theorem wS (a : List Str) (c : Str) : CS (a ++ [c]) = CS a + c.length := by rw [RI]; simp [CS]
theorem aw3 (s : Str) (hs : s.length ≤ 1000000) : ∃ ls : List Str, Ev (fun k => kH.f k (bD s) 10) (ls.map bD) ∧ ls.length ≤ s.length + 1 ∧ CS ls ≤ s.length := by
 have key : ∀ (r p : Str) (acc : List Str) (m : Nat), s = p ++ r → m ≤ p.length → CS acc ≤ m → acc.length ≤ p.length → ∃ ls : List Str, Ev (fun k => kH.l0 k (bD s) 10 (acc.map bD) (m : Int) (p.length : Int)) (ls.map bD) ∧ ls.length ≤ s.length + 1 ∧ CS ls ≤ s.length := by
  intro r
  induction r with
  | nil =>
   intro p acc m h h1 h2 h3
   have hz : s.length = p.length := by rw [h]; simp
   refine ⟨acc ++ [(s.drop m).take (s.length - m)], vc ?_, by simp; omega, by rw [wS]; simp; omega⟩
   simp only [kH.l0, ay, List.length_map, Int.toNat_natCast, jV]
   exact vn (by omega) (vp (by omega) (vp (by omega) (vp (by omega) (vq (vs _) (by simp)))))
  | cons c r ih =>
   intro p acc m h h1 h2 h3
   have hz : s.length = p.length + (r.length + 1) := by rw [h]; simp
   have e1 : bt (bD s) (p.length : Int) = (c.toNat : Int) := jL (l := s) (p := p) h
   have w1 : Unit → wrap64 ((p.length : Int) + 1) = (((p ++ [c]).length : Nat) : Int) := fun _ => by rw [bf (by omega) (by omega)]; simp
   by_cases c1 : (c.toNat : Int) = 10
   ·
    obtain ⟨ls, g1, g2⟩ := ih (p ++ [c]) (acc ++ [(s.drop m).take (p.length - m)]) (p ++ [c]).length (by rw [h]; simp) (Nat.le_refl _) (by rw [wS]; simp; omega) (by simp; omega)
    refine ⟨ls, vc ?_, g2⟩
    simp only [kH.l0, ay, List.length_map, e1, w1 (), Int.toNat_natCast, jV]
    clear e1 w1
    rw [List.map_append, List.map_singleton] at g1
    exact vp (by omega) (vp (by omega) (vp c1 (vp (by omega) (vp (by omega) (vp (by omega) (vp (by omega) g1))))))
   ·
    obtain ⟨ls, g1, g2⟩ := ih (p ++ [c]) acc m (by rw [h]; simp) (by simp; omega) h2 (by simp; omega)
    refine ⟨ls, vc ?_, g2⟩
    simp only [kH.l0, ay, List.length_map, e1, w1 ()]
    clear e1 w1
    exact vp (by omega) (vp (by omega) (vn c1 g1))
 unfold kH.f
 exact key s [] [] 0 rfl (Nat.le_refl _) (Nat.le_refl _) (Nat.le_refl _)
theorem Sz (s : Str) (hs : s.length ≤ 1000) : ∃ (ls : List Str) (ok : Bool), Ev (fun k => iW.f k (bD s)) (ls.map bD, ok) ∧ ls.length + CS ls ≤ 2001 := by
 obtain ⟨xs, g1, g2, g3⟩ := aw3 s (by omega)
 have key : ∀ (r p : List Str), xs = p ++ r → ∃ (ls : List Str) (ok : Bool), Ev (fun k => iW.l0 k (bD s) (xs.map bD) (p.length : Int)) (ls.map bD, ok) ∧ ls.length + CS ls ≤ 2001 := by
  intro r
  induction r with
  | nil =>
   intro p h
   have hz : xs.length = p.length := by rw [h]; simp
   refine ⟨xs, decide (((bD s).size : Int) ≤ 300), vc ?_, by omega⟩
   simp only [iW.l0, List.length_map]
   exact vn (by omega) (vs _)
  | cons c r ih =>
   intro p h
   have hz : xs.length = p.length + (r.length + 1) := by rw [h]; simp
   have e1 := xQ h
   have hc : c.length ≤ CS xs := WB (by rw [h]; simp)
   have w1 : Unit → wrap64 ((p.length : Int) + 1) = (((p ++ [c]).length : Nat) : Int) := fun _ => by rw [bf (by omega) (by omega)]; simp
   obtain ⟨ls, ok, g4, g5⟩ := ih (p ++ [c]) (by rw [h]; simp)
   have tv := lU c (by omega)
   by_cases c1 : (c.length : Int) > 40
   ·
    refine ⟨[], false, vc ?_, by simp [CS]⟩
    simp only [iW.l0, List.length_map, e1, ay]
    exact vp (by omega) (vp (by omega) (vp c1 (vs _)))
   by_cases c2 : lX c = true
   ·
    refine ⟨ls, ok, vc ?_, g5⟩
    simp only [iW.l0, List.length_map, e1, ay, w1 ()]
    exact vp (by omega) (vp (by omega) (vn c1 (vb tv (vp c2 g4))))
   ·
    refine ⟨[], false, vc ?_, by simp [CS]⟩
    simp only [iW.l0, List.length_map, e1, ay]
    exact vp (by omega) (vp (by omega) (vn c1 (vb tv (vn c2 (vs _)))))
 obtain ⟨ls, ok, g4, g5⟩ := key xs [] rfl
 refine ⟨ls, ok, ?_, g5⟩
 unfold iW.f
 exact vb g1 g4
theorem adI (c : UInt8) (b : Bool) : ∃ t : Str, nI.f (c.toNat : Int) b = some (bD t) ∧ t.length ≤ 3 := by
 have key : ∀ n : Nat, n < 256 → (match nI.f ((UInt8.ofNat n).toNat : Int) b with | some s => decide (s.size ≤ 3) | none => false) = true := by
  cases b <;> decide +kernel
 have := key c.toNat c.toNat_lt
 rw [UInt8.ofNat_toNat] at this
 cases e : nI.f (c.toNat : Int) b with
 | none => rw [e] at this; cases this
 | some s =>
  rw [e] at this
  exact ⟨L s, by rw [ag5], by rw [← JB]; exact of_decide_eq_true this⟩
theorem FQ (s : Str) (hs : s.length ≤ 1000) : ∃ (ls : List Str) (ok : Bool), Ev (fun k => bG.f k (bD s)) (ls.map bD, ok) ∧ ls.length + CS ls ≤ 5002 := by
 have key : ∀ (r p : Str) (acc : List Str) (cur : Str), s = p ++ r → acc.length ≤ p.length → cur.length ≤ 39 → CS acc + cur.length ≤ 4 * p.length → ∃ (ls : List Str) (ok : Bool), Ev (fun k => bG.l0 k (bD s) (acc.map bD) (bD cur) (p.length : Int)) (ls.map bD, ok) ∧ ls.length + CS ls ≤ 5002 := by
  intro r
  induction r with
  | nil =>
   intro p acc cur h h1 h2 h3
   have hz : s.length = p.length := by rw [h]; simp
   refine ⟨acc ++ [cur], true, vc ?_, by rw [wS]; simp; omega⟩
   simp only [bG.l0, ay, List.length_map]
   exact vn (by omega) (vp (by omega) (vq (vs _) (by simp)))
  | cons c r ih =>
   intro p acc cur h h1 h2 h3
   have hz : s.length = p.length + (r.length + 1) := by rw [h]; simp
   have hp : (p ++ [c]).length = p.length + 1 := by simp
   have e1 : bt (bD s) (p.length : Int) = (c.toNat : Int) := jL (l := s) (p := p) h
   have w1 : Unit → wrap64 ((p.length : Int) + 1) = (((p ++ [c]).length : Nat) : Int) := fun _ => by rw [bf (by omega) (by omega)]; simp
   by_cases c1 : (c.toNat : Int) = 10
   ·
    obtain ⟨ls, ok, g1, g2⟩ := ih (p ++ [c]) (acc ++ [cur]) [] (by rw [h]; simp) (by simp; omega) (by simp) (by rw [wS, hp]; simp; omega)
    refine ⟨ls, ok, vc ?_, g2⟩
    simp only [bG.l0, ay, List.length_map, e1, w1 ()]
    clear e1 w1
    rw [List.map_append, List.map_singleton] at g1
    exact vp (by omega) (vp (by omega) (vp c1 (vp (by omega) g1)))
   ·
    have fin : ∀ b : Bool, ∃ (ls : List Str) (ok : Bool) (t : Str), nI.f (c.toNat : Int) b = some (bD t) ∧ ls.length + CS ls ≤ 5002 ∧ Ev (fun k => if (wrap64 (((bD cur).size : Int) + ((bD t).size : Int))) > 39 then (if (bD cur).size + 1 ≤ 9223372036854775807 then (if (acc.map bD).length < 8796093022208 then (if 0 + (bD t).size ≤ 9223372036854775807 then (bG.l0 k (bD s) (acc.map bD ++ [bD cur ++ (⟨#[61]⟩ : ByteArray)]) ((⟨#[]⟩ : ByteArray) ++ bD t) (((p ++ [c]).length : Nat) : Int)) else none) else none) else none) else (if (bD cur).size + (bD t).size ≤ 9223372036854775807 then (bG.l0 k (bD s) (acc.map bD) (bD cur ++ bD t) (((p ++ [c]).length : Nat) : Int)) else none)) (ls.map bD, ok) := by
     intro b
     obtain ⟨t, ht, hl⟩ := adI c b
     have w2 : Unit → wrap64 ((cur.length : Int) + (t.length : Int)) = (cur.length : Int) + (t.length : Int) := fun _ => bf (by omega) (by omega)
     by_cases c2 : (cur.length : Int) + (t.length : Int) > 39
     ·
      obtain ⟨ls, ok, g1, g2⟩ := ih (p ++ [c]) (acc ++ [cur ++ [61]]) t (by rw [h]; simp) (by simp; omega) (by omega) (by rw [wS, hp]; simp; omega)
      refine ⟨ls, ok, t, ht, g2, ?_⟩
      simp only [ay, List.length_map, w2 ()]
      clear w2 w1
      refine vp c2 (vp (by omega) (vp (by omega) (vp (by omega) ?_)))
      rw [List.map_append, List.map_singleton, ← kY] at g1
      exact g1
     ·
      obtain ⟨ls, ok, g1, g2⟩ := ih (p ++ [c]) acc (cur ++ t) (by rw [h]; simp) (by simp; omega) (by simp; omega) (by rw [hp]; simp; omega)
      refine ⟨ls, ok, t, ht, g2, ?_⟩
      simp only [ay, List.length_map, w2 ()]
      clear w2 w1
      refine vn c2 (vp (by omega) ?_)
      rw [← kY] at g1
      exact g1
    by_cases c3 : (((p ++ [c]).length : Nat) : Int) = (s.length : Int)
    ·
     obtain ⟨ls, ok, t, ht, g2, g1⟩ := fin true
     refine ⟨ls, ok, vc ?_, g2⟩
     simp only [bG.l0, ay s, e1, w1 ()]
     clear e1 w1
     exact vp (by omega) (vp (by omega) (vn c1 (vp c3 (jB ht g1))))
    ·
     obtain ⟨ls, ok, t, ht, g2, g1⟩ := fin ((bt (bD s) (((p ++ [c]).length : Nat) : Int)) == 10)
     refine ⟨ls, ok, vc ?_, g2⟩
     simp only [bG.l0, ay s, e1, w1 ()]
     clear e1 w1
     exact vp (by omega) (vp (by omega) (vn c1 (vn c3 (vp (by omega) (vp (by omega) (jB ht g1))))))
 unfold bG.f
 rw [ay]
 by_cases c0 : (s.length : Int) > 300
 ·
  exact ⟨[], false, vp c0 (vs _), by simp [CS]⟩
 ·
  obtain ⟨ls, ok, g1, g2⟩ := key s [] [] [] rfl (Nat.le_refl _) (by simp) (by simp [CS])
  exact ⟨ls, ok, vn c0 g1, g2⟩
theorem aai (s : Str) (hs : s.length ≤ 100000) : ∃ ls : List Str, Ev (fun k => kS.f k (bD s) 40) (ls.map bD) ∧ ls.length ≤ s.length + 1 ∧ CS ls ≤ s.length := by
 have key : ∀ (n : Nat) (x : Str) (acc : List Str), x.length ≤ n → acc.length + x.length ≤ s.length → CS acc + x.length ≤ s.length → ∃ ls : List Str, Ev (fun k => kS.l0 k (bD x) 40 (acc.map bD)) (ls.map bD) ∧ ls.length ≤ s.length + 1 ∧ CS ls ≤ s.length := by
  intro n
  induction n with
  | zero =>
   intro x acc h h1 h2
   refine ⟨acc ++ [x], vc ?_, by simp; omega, by rw [wS]; omega⟩
   simp only [kS.l0, ay, List.length_map]
   exact vn (by omega) (vp (by omega) (vq (vs _) (by simp)))
  | succ n ih =>
   intro x acc h h1 h2
   by_cases c : (x.length : Int) > 40
   ·
    obtain ⟨ls, g1, g2⟩ := ih (x.drop 40) (acc ++ [x.take 40]) (by simp; omega) (by simp; omega) (by rw [wS]; simp; omega)
    refine ⟨ls, vc ?_, g2⟩
    have e1 : (bD x).extract (40 : Int).toNat x.length = bD (x.drop 40) := by
     rw [jV]
     exact congrArg bD (List.take_of_length_le (by simp))
    have e2 : (bD x).extract 0 (40 : Int).toNat = bD (x.take 40) := by rw [jV]; rfl
    simp only [kS.l0, ay, List.length_map, e1, e2]
    rw [List.map_append, List.map_singleton] at g1
    exact vp c (vp (by omega) (vp (by omega) (vp (by omega) g1)))
   ·
    refine ⟨acc ++ [x], vc ?_, by simp; omega, by rw [wS]; omega⟩
    simp only [kS.l0, ay, List.length_map]
    exact vn c (vp (by omega) (vq (vs _) (by simp)))
 unfold kS.f
 exact key s.length s [] (Nat.le_refl _) (by simp) (by simp [CS])
/-! Base 64: what it gives is bounded. -/
theorem aw4 (x : Int) (h0 : 0 ≤ x) (h1 : x ≤ 1000000000000) : 0 ≤ Go.bits .and .i64 x 63 ∧ Go.bits .and .i64 x 63 ≤ 63 := by
 obtain ⟨a, rfl⟩ := Int.eq_ofNat_of_zero_le h0
 have h2 : (BitVec.ofInt 64 (a : Int)).toNat = a := by
  rw [BitVec.ofInt_natCast, BitVec.toNat_ofNat]; exact Nat.mod_eq_of_lt (by omega)
 have e : Go.bits .and .i64 (a : Int) 63 = ((a &&& 63 : Nat) : Int) := by
  show IntKind.i64.wrap ((BitVec.ofInt 64 (a : Int) &&& BitVec.ofInt 64 (63 : Int)).toNat : Int) = _
  have h3 : (BitVec.ofInt 64 (63 : Int)).toNat = 63 := by decide
  rw [BitVec.toNat_and, h2, h3, eu]
  have : a &&& 63 ≤ 63 := Nat.and_le_right
  exact bf (by omega) (by omega)
 rw [e]
 have : a &&& 63 ≤ 63 := Nat.and_le_right
 omega
theorem apl (x y : Int) (h0 : 0 ≤ x) : 0 ≤ shr .i64 x y ∧ shr .i64 x y ≤ x := by
 unfold shr
 have hp : (0 : Int) < 2 ^ min y.toNat (IntKind.i64).bits := Int.pow_pos (by omega)
 exact ⟨Int.ediv_nonneg h0 (by omega), Int.ediv_le_self _ h0⟩
theorem adJ (s : Str) (hs : s.length ≤ 1000) (i : Nat) (hi : i ≤ 1000) (x5 : Int) (h5 : 0 ≤ x5) (h6 : x5 ≤ 1000000000) : ∀ (j : Nat), j ≤ 4 → ∀ acc : Str, acc.length + j ≤ 1000000 →
  ∃ out : Str, out.length ≤ acc.length + j ∧ ∀ V, Ev (fun k => bZ.l0 k (bD s) (bD out) (wrap64 ((i : Int) + 3))) V → Ev (fun k => bZ.l1 k (bD s) (bD acc) (i : Int) x5 ((4 - j : Nat) : Int)) V := by
 intro j
 induction j with
 | zero =>
  intro _ acc ha
  refine ⟨acc, by omega, fun V hV => vc ?_⟩
  simp only [bZ.l1]
  exact vn (by omega) hV
 | succ j ih =>
  intro hj acc ha
  have w1 : Unit → wrap64 (((4 - (j + 1) : Nat) : Int) + 1) = ((4 - j : Nat) : Int) := fun _ => by rw [bf (by omega) (by omega)]; omega
  have w2 : Unit → wrap64 ((i : Int) + ((4 - (j + 1) : Nat) : Int)) = (i : Int) + ((4 - (j + 1) : Nat) : Int) := fun _ => bf (by omega) (by omega)
  by_cases c : (i : Int) + ((4 - (j + 1) : Nat) : Int) > (s.length : Int)
  ·
   obtain ⟨out, ho, hV⟩ := ih (by omega) (acc ++ [61]) (by simp; omega)
   simp only [List.length_append, List.length_cons, List.length_nil] at ho
   refine ⟨out, by omega, fun V h => vc ?_⟩
   have := hV V h
   rw [← kY] at this
   simp only [bZ.l1, ay, w1 (), w2 ()]
   clear w1 w2
   exact vp (by omega) (vp c (vp (by omega) this))
  ·
   have hsh := apl x5 (wrap64 (18 - wrap64 (6 * ((4 - (j + 1) : Nat) : Int)))) h5
   have hq := aw4 _ hsh.1 (by omega)
   have hw : Unit → wrap64 (18 - wrap64 (6 * ((4 - (j + 1) : Nat) : Int))) = 18 - 6 * ((4 - (j + 1) : Nat) : Int) := fun _ => by
    rw [bf (x := 6 * _) (by omega) (by omega), bf (by omega) (by omega)]
   generalize hX : Go.bits .and .i64 (shr .i64 x5 (wrap64 (18 - wrap64 (6 * ((4 - (j + 1) : Nat) : Int))))) 63 = X at hq
   have w3 : Unit → wrap64 (X + 1) = X + 1 := fun _ => bf (by omega) (by omega)
   obtain ⟨T, hT, hTs⟩ : ∃ T : Str, qH.f = some (bD T) ∧ T.length = 64 := ⟨_, rfl, by decide⟩
   obtain ⟨out, ho, hV⟩ := ih (by omega) (acc ++ (T.drop X.toNat).take ((X + 1).toNat - X.toNat)) (by simp; omega)
   simp only [List.length_append, List.length_take] at ho
   refine ⟨out, by omega, fun V h => vc ?_⟩
   have := hV V h
   rw [← kY] at this
   simp only [bZ.l1, hX, ay, w1 (), w2 (), w3 ()]
   refine vp (by omega) (vn c (vp (by rw [hw ()]; omega) (jB hT ?_)))
   simp only [ay, jV]
   exact vp (by omega) (vp (by omega) (vp (by omega) (vp (by simp; omega) this)))
theorem ag6 (s : Str) (i : Nat) : 0 ≤ bt (bD s) (i : Int) ∧ bt (bD s) (i : Int) ≤ 255 := by
 unfold bt
 split
 ·
  rename_i h
  have := ((bD s)[(i : Int).toNat]).toNat_lt
  omega
 ·
  omega
theorem adK (s : Str) (hs : s.length ≤ 1000) : ∃ out : Str, Ev (fun k => bZ.f k (bD s)) (bD out) ∧ out.length ≤ 4 * s.length := by
 have key : ∀ (n i : Nat) (acc : Str), s.length ≤ i + n → i ≤ s.length + 3 → acc.length + 4 * n ≤ 4 * s.length → ∃ out : Str, Ev (fun k => bZ.l0 k (bD s) (bD acc) (i : Int)) (bD out) ∧ out.length ≤ 4 * s.length := by
  intro n
  induction n with
  | zero =>
   intro i acc h h1 h2
   refine ⟨acc, vc ?_, by omega⟩
   simp only [bZ.l0, ay]
   exact vn (by omega) (vs _)
  | succ n ih =>
   intro i acc h h1 h2
   by_cases c : (i : Int) < (s.length : Int)
   ·
    have w1 : Unit → wrap64 ((i : Int) + 1) = ((i + 1 : Nat) : Int) := fun _ => by rw [bf (by omega) (by omega)]; omega
    have w2 : Unit → wrap64 ((i : Int) + 2) = ((i + 2 : Nat) : Int) := fun _ => by rw [bf (by omega) (by omega)]; omega
    have w3 : Unit → wrap64 ((i : Int) + 3) = ((i + 3 : Nat) : Int) := fun _ => by rw [bf (by omega) (by omega)]; omega
    have b0 := ag6 s i
    have b1 := ag6 s (i + 1)
    have b2 := ag6 s (i + 2)
    generalize hb0 : bt (bD s) (i : Int) = B0 at b0
    generalize hb1 : bt (bD s) ((i + 1 : Nat) : Int) = B1 at b1
    generalize hb2 : bt (bD s) ((i + 2 : Nat) : Int) = B2 at b2
    have v0 : Unit → wrap64 (wrap64 B0 * 65536) = B0 * 65536 := fun _ => by rw [bf (x := B0) (by omega) (by omega), bf (by omega) (by omega)]
    have v1 : Unit → wrap64 (B0 * 65536 + wrap64 (wrap64 B1 * 256)) = B0 * 65536 + B1 * 256 := fun _ => by rw [bf (x := B1) (by omega) (by omega), bf (x := B1 * 256) (by omega) (by omega), bf (by omega) (by omega)]
    have v2 : ∀ x : Int, 0 ≤ x → x ≤ 100000000 → wrap64 (x + wrap64 B2) = x + B2 := fun x _ _ => by rw [bf (x := B2) (by omega) (by omega), bf (by omega) (by omega)]
    have step : ∀ x : Int, 0 ≤ x → x ≤ 1000000000 → ∃ out : Str, Ev (fun k => bZ.j2 k (bD s) (bD acc) (i : Int) x) (bD out) ∧ out.length ≤ 4 * s.length := by
     intro x x0 x1
     obtain ⟨o1, g1, g2⟩ := adJ s hs i (by omega) x x0 x1 4 (Nat.le_refl _) acc (by omega)
     obtain ⟨out, g3, g4⟩ := ih (i + 3) o1 (by omega) (by omega) (by omega)
     refine ⟨out, vc ?_, g4⟩
     simp only [bZ.j2]
     rw [w3 ()] at g2
     exact g2 _ g3
    have step1 : ∀ x : Int, 0 ≤ x → x ≤ 100000000 → ∃ out : Str, Ev (fun k => bZ.j1 k (bD s) (bD acc) (i : Int) x) (bD out) ∧ out.length ≤ 4 * s.length := by
     intro x x0 x1
     by_cases c2 : ((i + 2 : Nat) : Int) < (s.length : Int)
     ·
      obtain ⟨out, g3, g4⟩ := step (x + B2) (by omega) (by omega)
      refine ⟨out, vc ?_, g4⟩
      simp only [bZ.j1, ay, w2 (), hb2, v2 x x0 x1]
      clear w1 w2 w3 v0 v1 v2
      exact vp c2 (vp (by omega) g3)
     ·
      obtain ⟨out, g3, g4⟩ := step x (by omega) (by omega)
      refine ⟨out, vc ?_, g4⟩
      simp only [bZ.j1, ay, w2 ()]
      exact vn c2 g3
    by_cases c1 : ((i + 1 : Nat) : Int) < (s.length : Int)
    ·
     obtain ⟨out, g3, g4⟩ := step1 (B0 * 65536 + B1 * 256) (by omega) (by omega)
     refine ⟨out, vc ?_, g4⟩
     simp only [bZ.l0, ay, w1 (), hb0, hb1, v0 (), v1 ()]
     clear w1 w2 w3 v0 v1 v2
     exact vp c (vp (by omega) (vp c1 (vp (by omega) g3)))
    ·
     obtain ⟨out, g3, g4⟩ := step1 (B0 * 65536) (by omega) (by omega)
     refine ⟨out, vc ?_, g4⟩
     simp only [bZ.l0, ay, w1 (), hb0, v0 ()]
     clear w1 w2 w3 v0 v1 v2
     exact vp c (vp (by omega) (vn c1 g3))
   ·
    refine ⟨acc, vc ?_, by omega⟩
    simp only [bZ.l0, ay]
    exact vn c (vs _)
 unfold bZ.f
 exact key s.length 0 [] (by omega) (by omega) (by simp)
theorem IX (s : Str) (hs : s.length ≤ 1000) : ∃ (ls : List Str) (ok : Bool), Ev (fun k => mG.f k (bD s)) (ls.map bD, ok) ∧ ls.length + CS ls ≤ 8001 := by
 unfold mG.f
 rw [ay]
 by_cases c : (s.length : Int) > 300
 ·
  exact ⟨[], false, vp c (vs _), by simp [CS]⟩
 ·
  obtain ⟨o, g1, g2⟩ := adK s hs
  obtain ⟨ls, g3, g4, g5⟩ := aai o (by omega)
  exact ⟨ls, true, vn c (vb g1 (vb g3 (vs _))), by omega⟩
theorem UH (ls : List Str) (h : ls.length + CS ls ≤ 100000) : ∃ n : Int, Ev (fun k => kJ.f k (ls.map bD)) n := by
 have key : ∀ (r p : List Str) (acc : Nat), ls = p ++ r → acc = CS p + p.length → ∃ n : Int, Ev (fun k => kJ.l0 k (ls.map bD) (acc : Int) (p.length : Int)) n := by
  intro r
  induction r with
  | nil =>
   intro p acc h1 _
   have hz : ls.length = p.length := by rw [h1]; simp
   refine ⟨acc, vc ?_⟩
   simp only [kJ.l0, List.length_map]
   exact vn (by omega) (vs _)
  | cons c r ih =>
   intro p acc h1 h2
   have hz : ls.length = p.length + (r.length + 1) := by rw [h1]; simp
   have hsz : CS ls = CS p + (c.length + CS r) := by rw [h1, RI]; rfl
   have e1 := xQ h1
   have w1 : Unit → wrap64 ((p.length : Int) + 1) = (((p ++ [c]).length : Nat) : Int) := fun _ => by rw [bf (by omega) (by omega)]; simp
   have w2 : Unit → wrap64 (wrap64 ((acc : Int) + (c.length : Int)) + 1) = ((acc + c.length + 1 : Nat) : Int) := fun _ => by rw [bf (x := (acc : Int) + _) (by omega) (by omega), bf (by omega) (by omega)]; omega
   obtain ⟨n, g⟩ := ih (p ++ [c]) (acc + c.length + 1) (by rw [h1]; simp) (by rw [wS]; simp; omega)
   refine ⟨n, vc ?_⟩
   simp only [kJ.l0, List.length_map, e1, ay, w1 (), w2 ()]
   clear w1 w2
   exact vp (by omega) (vp (by omega) g)
 unfold kJ.f
 exact key ls [] 0 rfl rfl
theorem YD (s : Str) (hs : s.length ≤ 1000) : ∃ (n : Int) (ok : Bool), Ev (fun k => mJ.f k (bD s)) (n, ok) ∧ 0 ≤ n ∧ n ≤ 2 := by
 unfold mJ.f
 rw [ay]
 by_cases c : (s.length : Int) > 300
 ·
  exact ⟨0, false, vp c (vs _), by omega, by omega⟩
 obtain ⟨l1, b1, g1, h1⟩ := Sz s hs
 by_cases c1 : b1 = true
 ·
  exact ⟨0, true, vn c (vb g1 (vp c1 (vs _))), by omega, by omega⟩
 obtain ⟨l2, b2, g2, h2⟩ := FQ s hs
 obtain ⟨l3, b3, g3, h3⟩ := IX s hs
 obtain ⟨n, g4⟩ := UH l2 (by omega)
 obtain ⟨m, g5⟩ := UH l3 (by omega)
 by_cases c2 : n ≤ m
 ·
  exact ⟨1, true, vn c (vb g1 (vn c1 (vb g2 (vb g3 (vb g4 (vb g5 (vp c2 (vs _)))))))), by omega, by omega⟩
 ·
  exact ⟨2, true, vn c (vb g1 (vn c1 (vb g2 (vb g3 (vb g4 (vb g5 (vn c2 (vs _)))))))), by omega, by omega⟩
theorem SA (s : Str) (hs : s.length ≤ 1000) (n : Int) : ∃ (ls : List Str) (ok : Bool), Ev (fun k => kC.f k (bD s) n) (ls.map bD, ok) ∧ ls.length + CS ls ≤ 8001 := by
 obtain ⟨l1, b1, g1, h1⟩ := Sz s hs
 obtain ⟨l2, b2, g2, h2⟩ := FQ s hs
 obtain ⟨l3, b3, g3, h3⟩ := IX s hs
 unfold kC.f
 by_cases c0 : n = 0
 ·
  by_cases c1 : b1 = true
  ·
   exact ⟨l1, true, vp c0 (vb g1 (vp c1 (vs _))), by omega⟩
  ·
   exact ⟨[], false, vp c0 (vb g1 (vn c1 (vs _))), by simp [CS]⟩
 by_cases c1 : n = 1
 ·
  exact ⟨l2, b2, vn c0 (vp c1 (vb g2 (vs _))), by omega⟩
 by_cases c2 : n = 2
 ·
  exact ⟨l3, b3, vn c0 (vn c1 (vp c2 (vb g3 (vs _)))), by omega⟩
 ·
  exact ⟨[], false, vn c0 (vn c1 (vn c2 (vs _))), by simp [CS]⟩
/-! Parts that are drawn: each is some part of a bounded size. -/
def UJ (f : List (Str × Str)) (b : List Str) (k : List Pt) : Nat := f.length + BA f + b.length + CS b + k.length + EZ k
theorem amJ (x : mV) : (⟨x.f0, x.f1, x.f2⟩ : mV) = x := by cases x; rfl
theorem Pm (a b : List Pt) : EZ (a ++ b) = EZ a + EZ b := by
 induction a with
 | nil => simp [EZ]
 | cons c a ih => simp only [List.cons_append, EZ, ih]; omega
def szR : List gK → Nat
 | [] => 0
 | x :: r => x.f0.size + x.f1.size + szR r
theorem fields_of (R : List gK) : ∃ f : List (Str × Str), R = f.map uw ∧ BA f = szR R ∧ f.length = R.length := by
 induction R with
 | nil => exact ⟨[], rfl, rfl, rfl⟩
 | cons x r ih =>
  obtain ⟨f, h1, h2, h3⟩ := ih
  refine ⟨(L x.f0, L x.f1) :: f, by rw [List.map_cons, ← h1]; rfl, by simp only [BA, szR, h2, JB], by simp [h3]⟩
theorem WR (l : List Int) (p : Int) (ws : List ByteArray) (M : Nat) (hl : IsB l) (h0 : 0 ≤ p) (h1 : p ≤ 1000000000) (hn : 1 ≤ ws.length) (hn2 : ws.length ≤ 1000000) (hM : ∀ x ∈ ws, x.size ≤ M) :
  ∃ s : Str, Ev (fun k => fV.f k l p ws) (bD s, p + 1) ∧ s.length ≤ M := by
 obtain ⟨v, h, hm⟩ := awZ l p ws hl h0 h1 hn hn2
 exact ⟨L v, h, by rw [← JB]; exact hM v hm⟩
theorem aaj (p : Pt) : IW p ≤ 1000000000 → Ev (fun n => iO.f n (e32 p).f0 (e32 p).f1 (e32 p).f2) ((e32 p).f0, (e32 p).f1, (e32 p).f2) := by
 refine Ob (P := fun p => IW p ≤ 1000000000 → Ev (fun n => iO.f n (e32 p).f0 (e32 p).f1 (e32 p).f2) ((e32 p).f0, (e32 p).f1, (e32 p).f2)) ?_ p
 intro f b k ih hs
 rw [IW] at hs
 simp only [vU]
 have key : ∀ (r q : List Pt), k = q ++ r → Ev (fun n => gy.l0 n (q.map e32) (k.map e32) (k.length : Int) (q.length : Int)) (k.map e32) := by
  intro r
  induction r with
  | nil =>
   intro q h
   have hz : k.length = q.length := by rw [h]; simp
   refine vc ?_
   simp only [gy.l0]
   exact vn (by omega) (vq (vs _) (by rw [h, List.append_nil]))
  | cons c r ihr =>
   intro q h
   have hz : k.length = q.length + (r.length + 1) := by rw [h]; simp
   have e1 := Am h
   have hm : c ∈ k := by rw [h]; simp
   have hc := L_ hm
   have g := ih c hm (by omega)
   have w1 : Unit → wrap64 ((q.length : Int) + 1) = (((q ++ [c]).length : Nat) : Int) := fun _ => by rw [bf (by omega) (by omega)]; simp
   have g2 := ihr (q ++ [c]) (by rw [h]; simp)
   rw [List.map_append, List.map_singleton] at g2
   refine vc ?_
   simp only [gy.l0, List.length_map, e1, w1 ()]
   refine vp (by omega) (vp (by omega) (vp (by omega) (vb g ?_)))
   simp only [amJ]
   exact vp (by omega) g2
 have k0 := key k [] rfl
 refine vc ?_
 simp only [iO.f, List.length_map]
 refine jB rfl (vp (by simp; omega) (jB rfl (vp (by simp; omega) (vb k0 (vq (vs _) (by simp))))))
theorem adL (p : Pt) : IW p ≤ 1000000000 → Ev (fun n => dU.f n (e32 p).f0 (e32 p).f1 (e32 p).f2) ((e32 p).f0, (e32 p).f1, (e32 p).f2) := by
 refine Ob (P := fun p => IW p ≤ 1000000000 → Ev (fun n => dU.f n (e32 p).f0 (e32 p).f1 (e32 p).f2) ((e32 p).f0, (e32 p).f1, (e32 p).f2)) ?_ p
 intro f b k ih hs
 rw [IW] at hs
 simp only [vU]
 have key : ∀ (r q : List Pt), k = q ++ r → Ev (fun n => dU.l0 n (q.length : Int) (f.map uw) (b.map bD) (k.map e32) (f.map uw) (b.map bD) (q.map e32)) (f.map uw, b.map bD, k.map e32) := by
  intro r
  induction r with
  | nil =>
   intro q h
   have hz : k.length = q.length := by rw [h]; simp
   refine vc ?_
   simp only [dU.l0, List.length_map]
   exact vn (by omega) (vq (vs _) (by rw [h, List.append_nil]))
  | cons c r ihr =>
   intro q h
   have hz : k.length = q.length + (r.length + 1) := by rw [h]; simp
   have e1 := Am h
   have hm : c ∈ k := by rw [h]; simp
   have hc := L_ hm
   have g := ih c hm (by omega)
   have w1 : Unit → wrap64 ((q.length : Int) + 1) = (((q ++ [c]).length : Nat) : Int) := fun _ => by rw [bf (by omega) (by omega)]; simp
   have g2 := ihr (q ++ [c]) (by rw [h]; simp)
   rw [List.map_append, List.map_singleton] at g2
   refine vc ?_
   simp only [dU.l0, List.length_map, e1, w1 ()]
   refine vp (by omega) (vp (by omega) (vb g ?_))
   simp only [amJ]
   exact vp (by omega) g2
 have k0 := key k [] rfl
 refine vc ?_
 simp only [dU.f, List.length_map]
 exact jB rfl (vp (by simp; omega) (jB rfl (vp (by simp; omega) k0)))
theorem SB (n s : Str) (hn : n.length ≤ 1000) (hs : s.length ≤ 1000) : ∃ (f : List (Str × Str)) (b : List Str) (ok : Bool), Ev (fun k => gQ.f k (bD n) (bD s)) (f.map uw, b.map bD, ([] : List mV), ok) ∧ UJ f b [] ≤ 19000 := by
 obtain ⟨u, o1, g1, h1⟩ := JA n (by omega)
 obtain ⟨c, o2, g2, h2, h3⟩ := YD s hs
 obtain ⟨ls, o3, g3, h4⟩ := SA s hs c
 have hv := yu ([83, 117, 98, 106, 101, 99, 116], u) (by simp) (by show u.length ≤ _; omega)
 have hb := G9 ls (fun x hx => by have := WB hx; omega) (by omega)
 have bad : UJ [] [] [] ≤ 19000 := by decide
 unfold gQ.f
 by_cases c1 : o1 = true
 ·
  by_cases c2 : o2 = true
  ·
   by_cases c3 : o3 = true
   ·
    by_cases c4 : fv ([83, 117, 98, 106, 101, 99, 116], u) = true
    ·
     by_cases c5 : tbs ls = true
     ·
      have fin : ∀ v : ByteArray, v.size ≤ 16 → ∃ f : List (Str × Str), ([(⟨(⟨#[83, 117, 98, 106, 101, 99, 116]⟩ : ByteArray), bD u⟩ : gK), (⟨(⟨#[67, 111, 110, 116, 101, 110, 116, 45, 84, 121, 112, 101]⟩ : ByteArray), (⟨#[116, 101, 120, 116, 47, 112, 108, 97, 105, 110, 59, 32, 99, 104, 97, 114, 115, 101, 116, 61, 117, 116, 102, 45, 56]⟩ : ByteArray)⟩ : gK), (⟨(⟨#[67, 111, 110, 116, 101, 110, 116, 45, 84, 114, 97, 110, 115, 102, 101, 114, 45, 69, 110, 99, 111, 100, 105, 110, 103]⟩ : ByteArray), v⟩ : gK)] : List gK) = f.map uw ∧ UJ f ls [] ≤ 19000 := by
       intro v hv
       obtain ⟨f, k1, k2, k3⟩ := fields_of ([(⟨(⟨#[83, 117, 98, 106, 101, 99, 116]⟩ : ByteArray), bD u⟩ : gK), (⟨(⟨#[67, 111, 110, 116, 101, 110, 116, 45, 84, 121, 112, 101]⟩ : ByteArray), (⟨#[116, 101, 120, 116, 47, 112, 108, 97, 105, 110, 59, 32, 99, 104, 97, 114, 115, 101, 116, 61, 117, 116, 102, 45, 56]⟩ : ByteArray)⟩ : gK), (⟨(⟨#[67, 111, 110, 116, 101, 110, 116, 45, 84, 114, 97, 110, 115, 102, 101, 114, 45, 69, 110, 99, 111, 100, 105, 110, 103]⟩ : ByteArray), v⟩ : gK)])
       refine ⟨f, k1, ?_⟩
       have e : BA f = 7 + u.length + (12 + 25 + (25 + v.size + 0)) := by rw [k2]; simp only [szR, ay]; rfl
       have e2 : f.length = 3 := k3
       unfold UJ
       simp only [EZ, List.length_nil]
       omega
      have hc : c = 0 ∨ c = 1 ∨ c = 2 := by omega
      obtain ⟨v, hv1, hv2⟩ : ∃ v, qg ByteArray.empty ([(⟨#[55, 98, 105, 116]⟩ : ByteArray), (⟨#[113, 117, 111, 116, 101, 100, 45, 112, 114, 105, 110, 116, 97, 98, 108, 101]⟩ : ByteArray), (⟨#[98, 97, 115, 101, 54, 52]⟩ : ByteArray)] : List ByteArray) c = v ∧ v.size ≤ 16 := by
       rcases hc with rfl | rfl | rfl
       ·
        exact ⟨_, rfl, by decide⟩
       ·
        exact ⟨_, rfl, by decide⟩
       ·
        exact ⟨_, rfl, by decide⟩
      obtain ⟨f, k1, k2⟩ := fin v hv2
      refine ⟨f, ls, true, vb g1 (vb g2 (vb g3 (vp c1 (vp c2 (vp c3 (vb hv (vp c4 (vb hb (vp c5 (jB rfl (vp h2 (vp ?_ ?_)))))))))))), k2⟩
      ·
       show c < ((3 : Nat) : Int)
       omega
      ·
       refine vq (vs _) ?_
       rw [← k1, hv1]
     ·
      exact ⟨[], [], false, vb g1 (vb g2 (vb g3 (vp c1 (vp c2 (vp c3 (vb hv (vp c4 (vb hb (vn c5 (vs _)))))))))), bad⟩
    ·
     exact ⟨[], [], false, vb g1 (vb g2 (vb g3 (vp c1 (vp c2 (vp c3 (vb hv (vn c4 (vs _)))))))), bad⟩
   ·
    exact ⟨[], [], false, vb g1 (vb g2 (vb g3 (vp c1 (vp c2 (vn c3 (vs _)))))), bad⟩
  ·
   exact ⟨[], [], false, vb g1 (vb g2 (vb g3 (vp c1 (vn c2 (vs _))))), bad⟩
 ·
  exact ⟨[], [], false, vb g1 (vb g2 (vb g3 (vn c1 (vs _)))), bad⟩
theorem YE (n s : Str) (hn : n.length ≤ 1000) (hs : s.length ≤ 1000) : ∃ (f : List (Str × Str)) (b : List Str) (ok : Bool), Ev (fun k => uo.f k (bD n) (bD s)) (f.map uw, b.map bD, ([] : List mV), ok) ∧ UJ f b [] ≤ 19000 := by
 obtain ⟨f, b, ok, g1, h1⟩ := SB n s hn hs
 have g2 := aaj (.mk f b []) (by rw [IW]; unfold UJ at h1; omega)
 rw [vU] at g2
 refine ⟨f, b, ok, ?_, h1⟩
 unfold uo.f
 exact vb g1 (vb g2 (vs _))
theorem adM (l : List Int) (q : Int) : ∀ (n : Nat) (s : Str), 301 ≤ s.length + 10 * n → s.length ≤ 1000 → ∃ t : Str, Ev (fun k => iT.l1 k (bD s) l q) (bD t, q) ∧ t.length ≤ 1000 := by
 intro n
 induction n with
 | zero =>
  intro s h h1
  refine ⟨s, vc ?_, h1⟩
  simp only [iT.l1, ay]
  exact vn (by omega) (vs _)
 | succ n ih =>
  intro s h h1
  by_cases c : (s.length : Int) ≤ 300
  ·
   obtain ⟨t, g, g2⟩ := ih (s ++ [48, 49, 50, 51, 52, 53, 54, 55, 56, 57]) (by simp; omega) (by simp; omega)
   rw [← kY] at g
   refine ⟨t, vc ?_, g2⟩
   simp only [iT.l1, ay]
   exact vp c (vp (by omega) g)
  ·
   refine ⟨s, vc ?_, h1⟩
   simp only [iT.l1, ay]
   exact vn c (vs _)
theorem adN (l : List Int) (hl : IsB l) (p : Int) (h0 : 0 ≤ p) (h1 : p ≤ 100000000) : ∃ (s : Str) (q : Int), Ev (fun k => iT.f k l p) (bD s, q) ∧ s.length ≤ 1000 ∧ p ≤ q ∧ q ≤ p + 20 := by
 have key : ∀ (n : Nat) (s : Str) (p : Int), 0 ≤ p → p + n ≤ 200000000 → s.length + 60 * n ≤ 600 → ∃ (t : Str) (q : Int), Ev (fun k => iT.l0 k (bD s) (n : Int) l p) (bD t, q) ∧ t.length ≤ 1000 ∧ p ≤ q ∧ q ≤ p + n + 1 := by
  intro n
  induction n with
  | zero =>
   intro s p h0 h1 h2
   obtain ⟨i, hi, i0, i1⟩ := H6 l p 40 hl h0 (by omega) (by omega) (by omega)
   by_cases c : i = 0
   ·
    obtain ⟨t, g, g2⟩ := adM l (p + 1) 31 s (by omega) (by omega)
    refine ⟨t, p + 1, vc ?_, g2, by omega, by omega⟩
    simp only [iT.l0]
    exact vn (by omega) (vb hi (vp c g))
   ·
    refine ⟨s, p + 1, vc ?_, by omega, by omega, by omega⟩
    simp only [iT.l0]
    exact vn (by omega) (vb hi (vn c (vs _)))
  | succ n ih =>
   intro s p h0 h1 h2
   obtain ⟨v, hv, hm⟩ := WR l p (([(⟨#[104, 101, 108, 108, 111]⟩ : ByteArray), (⟨#[32]⟩ : ByteArray), (⟨#[61]⟩ : ByteArray), (⟨#[10]⟩ : ByteArray), (⟨#[255, 0]⟩ : ByteArray), (⟨#[99, 97, 102, 195, 169]⟩ : ByteArray), (⟨#[97, 32, 108, 111, 110, 103, 101, 114, 32, 114, 111, 119, 32, 111, 102, 32, 119, 111, 114, 100, 115, 32, 116, 104, 97, 116, 32, 105, 115, 32, 98, 114, 111, 107, 101, 110, 32, 104, 101, 114, 101]⟩ : ByteArray), (⟨#[120]⟩ : ByteArray), (⟨#[46]⟩ : ByteArray), (⟨#[9]⟩ : ByteArray)] : List ByteArray)) 60 hl h0 (by omega) (by simp) (by simp) (by decide)
   obtain ⟨t, q, g1, g2, g3, g4⟩ := ih (s ++ v) (p + 1) (by omega) (by omega) (by simp; omega)
   have w1 : Unit → wrap64 (((n + 1 : Nat) : Int) - 1) = (n : Int) := fun _ => by rw [bf (by omega) (by omega)]; omega
   rw [← kY] at g1
   refine ⟨t, q, vc ?_, g2, by omega, by omega⟩
   simp only [iT.l0, w1 ()]
   refine vp (by omega) (vb hv ?_)
   simp only [ay]
   exact vp (by omega) g1
 obtain ⟨n, hn, hm⟩ := WC l p [3, 2, 5, 1, 0, 8] hl h0 (by omega) (by simp) (by simp)
 obtain ⟨m, rfl, hm⟩ := H7 hm 8 (by decide)
 obtain ⟨t, q, g1, g2, g3, g4⟩ := key m [] (p + 1) (by omega) (by omega) (by simp; omega)
 refine ⟨t, q, ?_, g2, by omega, by omega⟩
 unfold iT.f
 exact vb hn g1
theorem adO (l : List Int) (hl : IsB l) (p : Int) (h0 : 0 ≤ p) (h1 : p ≤ 500000000) : ∃ a b : Str, Ev (fun k => wL.f k l p) (bD a, bD b, p + 2) ∧ a.length ≤ 100 ∧ b.length ≤ 100 := by
 obtain ⟨a, g1, h2⟩ := WR l p ([(⟨#[84, 111]⟩ : ByteArray), (⟨#[70, 114, 111, 109]⟩ : ByteArray), (⟨#[83, 117, 98, 106, 101, 99, 116]⟩ : ByteArray), (⟨#[88, 45, 89]⟩ : ByteArray), (⟨#[82, 101, 99, 101, 105, 118, 101, 100]⟩ : ByteArray), (⟨#[116, 111]⟩ : ByteArray), (⟨#[68, 97, 116, 101]⟩ : ByteArray)] : List ByteArray) 100 hl h0 (by omega) (by simp) (by simp) (by decide)
 obtain ⟨b, g2, h3⟩ := WR l (p + 1) ([(⟨#[]⟩ : ByteArray), (⟨#[120]⟩ : ByteArray), (⟨#[97, 32, 98]⟩ : ByteArray), (⟨#[104, 101, 108, 108, 111, 32, 116, 104, 101, 114, 101, 44, 32, 116, 104, 105, 115, 32, 105, 115, 32, 97, 32, 108, 111, 110, 103, 101, 114, 32, 118, 97, 108, 117, 101, 32, 116, 104, 97, 116, 32, 105, 115, 32, 98, 114, 111, 107, 101, 110]⟩ : ByteArray), (⟨#[97, 97, 97, 97, 97, 97, 97, 97, 97, 97, 97, 97, 97, 97, 97, 97, 97, 97, 97, 97, 97, 97, 97, 97, 97, 97, 97, 97, 97, 97, 97, 97, 97, 97, 97, 97, 97, 97, 97, 97, 97, 97, 97, 97, 97, 97, 97, 97, 97, 97, 97, 32, 98]⟩ : ByteArray), (⟨#[116, 119, 111, 32, 32, 115, 112, 97, 99, 101, 115, 32, 115, 116, 97, 121, 32, 32, 116, 111, 103, 101, 116, 104, 101, 114, 32, 105, 110, 32, 104, 101, 114, 101, 44, 32, 97, 110, 100, 32, 115, 111, 32, 100, 111, 32, 116, 104, 101, 115, 101, 32, 32, 111, 110, 101, 115]⟩ : ByteArray), (⟨#[97, 58, 98]⟩ : ByteArray), (⟨#[111, 110, 101, 32, 116, 119, 111, 32, 116, 104, 114, 101, 101, 32, 102, 111, 117, 114, 32, 102, 105, 118, 101, 32, 115, 105, 120, 32, 115, 101, 118, 101, 110, 32, 101, 105, 103, 104, 116, 32, 110, 105, 110, 101, 32, 116, 101, 110, 32, 101, 108, 101, 118, 101, 110]⟩ : ByteArray)] : List ByteArray) 100 hl (by omega) (by omega) (by simp) (by simp) (by decide)
 refine ⟨a, b, ?_, h2, h3⟩
 unfold wL.f
 have e : p + 1 + 1 = p + 2 := by omega
 rw [e] at g2
 exact vb g1 (vb g2 (vs _))
theorem adP (l : List Int) (hl : IsB l) (p : Int) (h0 : 0 ≤ p) (h1 : p ≤ 100000000) : ∃ (f : List (Str × Str)) (q : Int), Ev (fun k => mD.f k l p) (f.map uw, q) ∧ f.length + BA f ≤ 1000 ∧ p ≤ q ∧ q ≤ p + 20 := by
 have key : ∀ (n : Nat) (f : List (Str × Str)) (p : Int), 0 ≤ p → p + 2 * n ≤ 200000000 → f.length + BA f + 201 * n ≤ 1000 → ∃ (f2 : List (Str × Str)) (q : Int), Ev (fun k => mD.l0 k (f.map uw) (n : Int) l p) (f2.map uw, q) ∧ f2.length + BA f2 ≤ 1000 ∧ p ≤ q ∧ q ≤ p + 2 * n := by
  intro n
  induction n with
  | zero =>
   intro f p h0 h1 h2
   refine ⟨f, p, vc ?_, by omega, by omega, by omega⟩
   simp only [mD.l0]
   exact vn (by omega) (vs _)
  | succ n ih =>
   intro f p h0 h1 h2
   obtain ⟨a, b, g1, h3, h4⟩ := adO l hl p h0 (by omega)
   obtain ⟨f2, q, g2, h5, h6, h7⟩ := ih (f ++ [(a, b)]) (p + 2) (by omega) (by omega) (by rw [yt]; simp [BA]; omega)
   have w1 : Unit → wrap64 (((n + 1 : Nat) : Int) - 1) = (n : Int) := fun _ => by rw [bf (by omega) (by omega)]; omega
   rw [List.map_append, List.map_singleton] at g2
   refine ⟨f2, q, vc ?_, h5, by omega, by omega⟩
   simp only [mD.l0, w1 (), List.length_map]
   exact vp (by omega) (vb g1 (vp (by omega) g2))
 obtain ⟨n, hn, hm⟩ := WC l p [2, 3, 1, 0, 4] hl h0 (by omega) (by simp) (by simp)
 obtain ⟨m, rfl, hm⟩ := H7 hm 4 (by decide)
 obtain ⟨f, q, g1, g2, g3, g4⟩ := key m [] (p + 1) (by omega) (by omega) (by simp [BA]; omega)
 refine ⟨f, q, ?_, g2, by omega, by omega⟩
 unfold mD.f
 exact vb hn g1
theorem UK (l : List Int) (hl : IsB l) (p : Int) (h0 : 0 ≤ p) (h1 : p ≤ 10000000) : ∃ (f : List (Str × Str)) (b : List Str) (q : Int), Ev (fun k => iJ.f k l p) (f.map uw, b.map bD, ([] : List mV), q) ∧ UJ f b [] ≤ 19000 ∧ p ≤ q ∧ q ≤ p + 60 := by
 have key : ∀ (f : List (Str × Str)) (n : Nat) (b : List Str) (p : Int), 0 ≤ p → p + n ≤ 200000000 → b.length + CS b + 101 * n ≤ 1000 → ∃ (b2 : List Str) (q : Int), Ev (fun k => iJ.l0 k (n : Int) l p (f.map uw) (b.map bD)) (f.map uw, b2.map bD, ([] : List mV), q) ∧ b2.length + CS b2 ≤ 1000 ∧ p ≤ q ∧ q ≤ p + n := by
  intro f n
  induction n with
  | zero =>
   intro b p h0 h1 h2
   refine ⟨b, p, vc ?_, by omega, by omega, by omega⟩
   simp only [iJ.l0]
   exact vn (by omega) (vs _)
  | succ n ih =>
   intro b p h0 h1 h2
   obtain ⟨v, g1, h3⟩ := WR l p ([(⟨#[97]⟩ : ByteArray), (⟨#[]⟩ : ByteArray), (⟨#[116, 101, 120, 116, 32, 111, 102, 32, 97, 32, 108, 105, 110, 101]⟩ : ByteArray), (⟨#[45, 45, 98, 49]⟩ : ByteArray), (⟨#[45, 45, 120]⟩ : ByteArray)] : List ByteArray) 100 hl h0 (by omega) (by simp) (by simp) (by decide)
   obtain ⟨b2, q, g2, h5, h6, h7⟩ := ih (b ++ [v]) (p + 1) (by omega) (by omega) (by rw [wS]; simp; omega)
   have w1 : Unit → wrap64 (((n + 1 : Nat) : Int) - 1) = (n : Int) := fun _ => by rw [bf (by omega) (by omega)]; omega
   rw [List.map_append, List.map_singleton] at g2
   refine ⟨b2, q, vc ?_, h5, by omega, by omega⟩
   simp only [iJ.l0, w1 (), List.length_map]
   exact vp (by omega) (vb g1 (vp (by omega) g2))
 obtain ⟨i, hi, i0, i1⟩ := H6 l p 2 hl h0 (by omega) (by omega) (by omega)
 unfold iJ.f
 by_cases c : i = 0
 ·
  obtain ⟨v, g1, h2⟩ := WR l (p + 1) ([(⟨#[104, 101, 108, 108, 111]⟩ : ByteArray), (⟨#[90, 111, 195, 171]⟩ : ByteArray), (⟨#[]⟩ : ByteArray)] : List ByteArray) 100 hl (by omega) (by omega) (by simp) (by simp) (by decide)
  obtain ⟨s, q, g2, h3, h4, h5⟩ := adN l hl (p + 1 + 1) (by omega) (by omega)
  obtain ⟨f, b, ok, g3, h6⟩ := YE v s (by omega) h3
  exact ⟨f, b, q, vb hi (vp c (vb g1 (vb g2 (vb g3 (vs _))))), h6, by omega, by omega⟩
 ·
  obtain ⟨f, q, g1, h2, h3, h4⟩ := adP l hl (p + 1) (by omega) (by omega)
  obtain ⟨n, hn, hm⟩ := WC l q [1, 2, 0, 3] hl (by omega) (by omega) (by simp) (by simp)
  obtain ⟨m, rfl, hm⟩ := H7 hm 3 (by decide)
  obtain ⟨b, q2, g2, h5, h6, h7⟩ := key f m [] (q + 1) (by omega) (by omega) (by simp [CS]; omega)
  exact ⟨f, b, q2, vb hi (vn c (vb g1 (vb hn g2))), by unfold UJ; simp only [EZ, List.length_nil]; omega, by omega, by omega⟩
def dB : Nat → Nat
 | 0 => 19000
 | d + 1 => 3 * dB d + 1000
def dQ : Nat → Nat
 | 0 => 64
 | d + 1 => 3 * dQ d + 10
theorem SC (f : List (Str × Str)) (b : List Str) (k : List Pt) : IW (.mk f b k) = UJ f b k := by rw [IW]; rfl
theorem aw5 (d : Nat) : 19000 ≤ dB d ∧ 64 ≤ dQ d := by
 induction d with
 | zero => exact ⟨Nat.le_refl _, Nat.le_refl _⟩
 | succ d ih => unfold dB dQ; omega
theorem adQ (l : List Int) (hl : IsB l) : ∀ d : Nat, d ≤ 2 → ∀ p : Int, 0 ≤ p → p + dQ d ≤ 1000000 → ∃ (f : List (Str × Str)) (b : List Str) (k : List Pt) (q : Int), Ev (fun n => eX.f n l p ((d + 1 : Nat) : Int)) (f.map uw, b.map bD, k.map e32, q) ∧ UJ f b k ≤ dB d ∧ p ≤ q ∧ q ≤ p + dQ d := by
 have leaf : ∀ (d : Nat) (x1 p p0 : Int), 0 ≤ p → p ≤ 2000000 → p0 ≤ p → p ≤ p0 + 1 → ∃ (f : List (Str × Str)) (b : List Str) (k : List Pt) (q : Int), Ev (fun n => eX.j0 n x1 true l p) (f.map uw, b.map bD, k.map e32, q) ∧ UJ f b k ≤ dB d ∧ p0 ≤ q ∧ q ≤ p0 + dQ d := by
  intro d x1 p p0 h0 h1 h2 h3
  obtain ⟨f, b, q, g1, h4, h5, h6⟩ := UK l hl p h0 (by omega)
  have hd := aw5 d
  refine ⟨f, b, [], q, vc ?_, by omega, by omega, by omega⟩
  simp only [eX.j0]
  exact vp trivial (vb g1 (vs _))
 intro d
 induction d with
 | zero =>
  intro _ p h0 h1
  obtain ⟨f, b, k, q, g1, h2, h3, h4⟩ := leaf 0 ((0 + 1 : Nat) : Int) p p h0 (by omega) (by omega) (by omega)
  refine ⟨f, b, k, q, vc ?_, h2, h3, h4⟩
  simp only [eX.f]
  exact vp (by omega) g1
 | succ d ih =>
  intro hd2 p h0 h1
  have hdb : dB d ≤ 100000 ∧ dQ d ≤ 1000 := by
   have : d = 0 ∨ d = 1 := by omega
   rcases this with rfl | rfl <;> decide
  have eB : dB (d + 1) = 3 * dB d + 1000 := rfl
  have eQ : dQ (d + 1) = 3 * dQ d + 10 := rfl
  have w0 : Unit → wrap64 (((d + 1 + 1 : Nat) : Int) - 1) = ((d + 1 : Nat) : Int) := fun _ => by rw [bf (by omega) (by omega)]; omega
  have key : ∀ (F : List gK) (n : Nat), n ≤ 3 → ∀ (kk : List Pt) (p : Int), 0 ≤ p → p + n * dQ d ≤ 1000000 → kk.length + EZ kk + n * (dB d + 1) ≤ 3 * dB d + 3 → ∃ (k : List Pt) (q : Int), Ev (fun m => eX.l0 m ((d + 1 + 1 : Nat) : Int) (n : Int) l p F (kk.map e32)) (F, ([] : List ByteArray), k.map e32, q) ∧ k.length + EZ k ≤ 3 * dB d + 3 ∧ p ≤ q ∧ q ≤ p + n * dQ d := by
   intro F n
   induction n with
   | zero =>
    intro _ kk p h0 h1 h2
    refine ⟨kk, p, vc ?_, by omega, by omega, by omega⟩
    simp only [eX.l0]
    exact vn (by omega) (vs _)
   | succ n ihn =>
    intro hn3 kk p h0 h1 h2
    rw [Nat.succ_mul] at h2
    have m1 : (((n + 1 : Nat) : Int)) * (dQ d : Int) = (n : Int) * (dQ d : Int) + (dQ d : Int) := by rw [Int.natCast_add, Int.add_mul]; simp
    have m2 : (0 : Int) ≤ (n : Int) * (dQ d : Int) := Int.mul_nonneg (by omega) (by omega)
    rw [m1] at h1
    obtain ⟨f, b, k, q, g1, h3, h4, h5⟩ := ih (by omega) p h0 (by omega)
    have hs := SC f b k
    obtain ⟨k2, q2, g2, h6, h7, h8⟩ := ihn (by omega) (kk ++ [.mk f b k]) q (by omega) (by omega) (by rw [Pm]; simp only [List.length_append, List.length_cons, List.length_nil, EZ]; omega)
    have w1 : Unit → wrap64 (((n + 1 : Nat) : Int) - 1) = (n : Int) := fun _ => by rw [bf (by omega) (by omega)]; omega
    have hkk : kk.length ≤ 1000000 := by
     have : 0 ≤ n * (dB d + 1) := Nat.zero_le _
     omega
    rw [List.map_append, List.map_singleton, vU] at g2
    refine ⟨k2, q2, vc ?_, h6, by omega, by rw [m1]; omega⟩
    simp only [eX.l0, w1 (), w0 (), List.length_map]
    clear w1 w0
    exact vp (by omega) (vb g1 (vp (by omega) g2))
  obtain ⟨i, hi, i0, i1⟩ := H6 l p 2 hl h0 (by omega) (by omega) (by omega)
  by_cases c : i = 0
  ·
   obtain ⟨f, b, k, q, g1, h2, h3, h4⟩ := leaf (d + 1) ((d + 1 + 1 : Nat) : Int) (p + 1) p (by omega) (by omega) (by omega) (by omega)
   refine ⟨f, b, k, q, vc ?_, h2, h3, h4⟩
   simp only [eX.f]
   refine vn (by omega) (vb hi ?_)
   rw [c]
   exact g1
  ·
   obtain ⟨v, g1, h2⟩ := WR l (p + 1) ([(⟨#[109, 117, 108, 116, 105, 112, 97, 114, 116, 47, 109, 105, 120, 101, 100, 59, 32, 98, 111, 117, 110, 100, 97, 114, 121, 61, 98, 48]⟩ : ByteArray), (⟨#[77, 117, 108, 116, 105, 112, 97, 114, 116, 47, 97, 108, 116, 101, 114, 110, 97, 116, 105, 118, 101, 59, 32, 66, 111, 117, 110, 100, 97, 114, 121, 61, 98, 50]⟩ : ByteArray), (⟨#[109, 117, 108, 116, 105, 112, 97, 114, 116, 47, 109, 105, 120, 101, 100, 59, 32, 98, 111, 117, 110, 100, 97, 114, 121, 61, 120, 121, 122]⟩ : ByteArray)] : List ByteArray) 100 hl (by omega) (by omega) (by simp) (by simp) (by decide)
   obtain ⟨n, hn, hm⟩ := WC l (p + 1 + 1) [2, 1, 3] hl (by omega) (by omega) (by simp) (by simp)
   obtain ⟨m, rfl, hm2⟩ := H7 hm 3 (by decide)
   obtain ⟨f, k1, k2, k3⟩ := fields_of ([(⟨(⟨#[83, 117, 98, 106, 101, 99, 116]⟩ : ByteArray), (⟨#[109, 97, 110, 121]⟩ : ByteArray)⟩ : gK), (⟨(⟨#[67, 111, 110, 116, 101, 110, 116, 45, 84, 121, 112, 101]⟩ : ByteArray), bD v⟩ : gK)] : List (gK))
   have e : BA f ≤ 300 := by
    rw [k2]
    have : szR ([(⟨(⟨#[83, 117, 98, 106, 101, 99, 116]⟩ : ByteArray), (⟨#[109, 97, 110, 121]⟩ : ByteArray)⟩ : gK), (⟨(⟨#[67, 111, 110, 116, 101, 110, 116, 45, 84, 121, 112, 101]⟩ : ByteArray), bD v⟩ : gK)] : List (gK)) = _ := rfl
    simp only [szR, ay]
    have hA : ∀ a b c x : Nat, a + b ≤ 100 → c ≤ 100 → x ≤ 100 → a + b + (c + x + 0) ≤ 300 := by intros; omega
    exact hA _ _ _ _ (by decide) (by decide) h2
   have e2 : f.length = 2 := k3
   have hmq : (m : Int) * (dQ d : Int) ≤ 3 * (dQ d : Int) := Int.mul_le_mul_of_nonneg_right (by omega) (by omega)
   have hmb : m * (dB d + 1) ≤ 3 * (dB d + 1) := Nat.mul_le_mul_right _ hm2
   obtain ⟨k, q, g2, h3, h4, h5⟩ := key ([(⟨(⟨#[83, 117, 98, 106, 101, 99, 116]⟩ : ByteArray), (⟨#[109, 97, 110, 121]⟩ : ByteArray)⟩ : gK), (⟨(⟨#[67, 111, 110, 116, 101, 110, 116, 45, 84, 121, 112, 101]⟩ : ByteArray), bD v⟩ : gK)] : List (gK)) m hm2 [] (p + 1 + 1 + 1) (by omega) (by omega) (by simp [EZ]; omega)
   refine ⟨f, [], k, q, vc ?_, by unfold UJ; simp only [CS, List.length_nil]; omega, by omega, by omega⟩
   rw [← k1]
   simp only [eX.f]
   refine vn (by omega) (vb hi ?_)
   have hf : (i == 0) = false := by simp [c]
   simp only [hf]
   refine vc ?_
   simp only [eX.j0]
   exact vn (by simp) (vb g1 (vb hn g2))
theorem SE (l : List Int) (hl : IsB l) (p : Int) (h0 : 0 ≤ p) (h1 : p ≤ 1000000) (f : List (Str × Str)) (b : List Str) (k : List Pt) (hs : UJ f b k ≤ 500000) :
  ∃ (f2 : List (Str × Str)) (b2 : List Str) (k2 : List Pt) (q : Int), Ev (fun n => dP.f n l p (f.map uw) (b.map bD) (k.map e32)) (f2.map uw, b2.map bD, k2.map e32, q) ∧ UJ f2 b2 k2 ≤ UJ f b k + 20000 ∧ p ≤ q ∧ q ≤ p + 70 := by
 have cp := adL (.mk f b k) (by rw [SC]; omega)
 rw [vU] at cp
 obtain ⟨i, hi, i0, i1⟩ := H6 l p 20 hl h0 (by omega) (by omega) (by omega)
 have hs0 := hs
 unfold UJ at hs0
 unfold dP.f
 by_cases c0 : i = 0
 ·
  obtain ⟨v, g1, h2⟩ := WR l (p + 1) ([(⟨#[10]⟩ : ByteArray), (⟨#[120]⟩ : ByteArray)] : List ByteArray) 100 hl (by omega) (by omega) (by simp) (by simp) (by decide)
  refine ⟨f, b ++ [v], k, p + 1 + 1, vb cp (vb hi (vp c0 (vb g1 (vp (by rw [List.length_map]; omega) (vq (vs _) (by simp)))))), by unfold UJ; rw [wS]; simp; omega, by omega, by omega⟩
 by_cases c1 : i = 1
 ·
  obtain ⟨v, g1, h2⟩ := WR l (p + 1) ([(⟨#[97, 32, 98]⟩ : ByteArray), (⟨#[79, 107]⟩ : ByteArray)] : List ByteArray) 100 hl (by omega) (by omega) (by simp) (by simp) (by decide)
  obtain ⟨u, g2, h3⟩ := WR l (p + 1 + 1) ([(⟨#[32, 120]⟩ : ByteArray), (⟨#[120]⟩ : ByteArray)] : List ByteArray) 100 hl (by omega) (by omega) (by simp) (by simp) (by decide)
  refine ⟨f ++ [(v, u)], b, k, p + 1 + 1 + 1, vb cp (vb hi (vn c0 (vp c1 (vb g1 (vb g2 (vp (by rw [List.length_map]; omega) (vq (vs _) (by simp [uw])))))))), by unfold UJ; rw [yt]; simp [BA]; omega, by omega, by omega⟩
 by_cases c2 : i = 2
 ·
  obtain ⟨g, c, q, g1, h2, h3, h4⟩ := UK l hl (p + 1) (by omega) (by omega)
  have e : k.map e32 ++ [(⟨g.map uw, c.map bD, ([] : List mV)⟩ : mV)] = (k ++ [Pt.mk g c []]).map e32 := by
   rw [List.map_append, List.map_singleton, vU]; rfl
  refine ⟨f, b, k ++ [Pt.mk g c []], q, vb cp (vb hi (vn c0 (vn c1 (vp c2 (vb g1 (vp (by rw [List.length_map]; omega) (vq (vs _) (by rw [← e]))))))))
   , by unfold UJ; rw [Pm]; simp only [EZ, SC, List.length_append, List.length_cons, List.length_nil]; omega, by omega, by omega⟩
 ·
  exact ⟨f, b, k, p + 1, vb cp (vb hi (vn c0 (vn c1 (vn c2 (vs _))))), by omega, by omega, by omega⟩
theorem YF (a b c d : Str) : (!(((bD a).toList) == ((bD b).toList)) || (!(((bD c).toList) == ((bD d).toList)))) = true ↔ ¬ ((a, c) = (b, d)) := by
 simp only [m_, Prod.mk.injEq]
 by_cases h1 : a = b <;> by_cases h2 : c = d <;> simp [h1, h2]
theorem JC (a b : List (Str × Str)) (hn : a.length ≤ 1000000000000) : Ev (fun k => je.f k (a.map uw) (b.map uw)) (decide (a = b)) := by
 unfold je.f
 simp only [List.length_map]
 by_cases hl : a.length = b.length
 ·
  refine vp (by omega) ?_
  refine vq (qh (xs := a) (F := fun k (_ : List (Str × Str)) i => je.l0 k (a.map uw) (b.map uw) (a.length : Int) i) (st := stp) (fin := fun _ => true) (s := b) (fun p r => ∃ q, b = q ++ r ∧ q.length = p.length) ⟨[], rfl, rfl⟩ ?_ ?_) (Yj a b hl)
  ·
   rintro p c r s h ⟨q, hq, hql⟩
   have hz := jc h
   have e1 := wQ h
   have w1 : wrap64 ((p.length : Int) + 1) = (p.length : Int) + 1 := bf (by omega) (by omega)
   cases s with
   | nil => rw [hq] at hl; simp at hl; omega
   | cons d s =>
    have e2 := wQ hq
    rw [hql] at e2
    have e3 := YF c.1 d.1 c.2 d.2
    simp only [je.l0, e1, e2, w1, List.length_map, uw, e3, stp]
    clear w1 e1 e2 e3
    by_cases e : c = d
    ·
     simp only [if_pos e]
     refine ⟨(fun v hv => by cases hv), fun s' hs => ⟨?_, fun v hv => ?_⟩⟩
     ·
      cases hs; exact ⟨q ++ [d], by rw [hq]; simp, by simp [hql]⟩
     ·
      exact vp (by omega) (vp (by omega) (vp (by omega) (vp (by omega) (vn (by simp [e]) hv))))
    ·
     simp only [if_neg e]
     refine ⟨(fun v hv => ?_), fun s' hs => by cases hs⟩
     cases hv
     exact vp (by omega) (vp (by omega) (vp (by omega) (vp (by omega) (vp e (vs _)))))
  ·
   intro s _
   simp only [je.l0, List.length_map]
   exact vn (by omega) (vs _)
 ·
  refine vn (by omega) (vq (vs _) ?_)
  rw [eq_comm]; exact decide_eq_false (fun h => hl (by rw [h]))
theorem apm (a b : List Str) (hn : a.length ≤ 1000000000000) : Ev (fun k => bU.f k (a.map bD) (b.map bD)) (decide (a = b)) := by
 unfold bU.f
 simp only [List.length_map]
 by_cases hl : a.length = b.length
 ·
  refine vp (by omega) ?_
  refine vq (qh (xs := a) (F := fun k (_ : List Str) i => bU.l0 k (a.map bD) (b.map bD) (a.length : Int) i) (st := stp) (fin := fun _ => true) (s := b) (fun p r => ∃ q, b = q ++ r ∧ q.length = p.length) ⟨[], rfl, rfl⟩ ?_ ?_) (Yj a b hl)
  ·
   rintro p c r s h ⟨q, hq, hql⟩
   have hz := jc h
   have e1 := xQ h
   have w1 : wrap64 ((p.length : Int) + 1) = (p.length : Int) + 1 := bf (by omega) (by omega)
   cases s with
   | nil => rw [hq] at hl; simp at hl; omega
   | cons d s =>
    have e2 := xQ hq
    rw [hql] at e2
    simp only [bU.l0, e1, e2, w1, List.length_map, m_, stp]
    clear w1 e1 e2
    by_cases e : c = d
    ·
     simp only [if_pos e]
     refine ⟨(fun v hv => by cases hv), fun s' hs => ⟨?_, fun v hv => ?_⟩⟩
     ·
      cases hs; exact ⟨q ++ [d], by rw [hq]; simp, by simp [hql]⟩
     ·
      exact vp (by omega) (vp (by omega) (vp (by omega) (vp (by omega) hv)))
    ·
     simp only [if_neg e]
     refine ⟨(fun v hv => ?_), fun s' hs => by cases hs⟩
     cases hv
     exact vp (by omega) (vp (by omega) (vp (by omega) (vp (by omega) (vs _))))
  ·
   intro s _
   simp only [bU.l0, List.length_map]
   exact vn (by omega) (vs _)
 ·
  refine vn (by omega) (vq (vs _) ?_)
  rw [eq_comm]; exact decide_eq_false (fun h => hl (by rw [h]))
theorem adR (k l : List Pt) (hn : k.length ≤ 1000000000000) (ih : ∀ p ∈ k, ∀ q, Ev (fun n => jo.f n (e32 p).f0 (e32 p).f1 (e32 p).f2 (e32 q).f0 (e32 q).f1 (e32 q).f2) (smt p q)) :
  ∀ (r s p q : List Pt), k = p ++ r → l = q ++ s → q.length = p.length → r.length = s.length → Ev (fun n => gU.l0 n (l.map e32) (k.map e32) (k.length : Int) (p.length : Int)) (Yk r s) := by
 intro r
 induction r with
 | nil =>
  intro s p q h1 h2 h3 h4
  have hz : k.length = p.length := by rw [h1, List.append_nil]
  refine vc ?_
  simp only [gU.l0, Yk]
  exact vn (by omega) (vs _)
 | cons c r ihr =>
  intro s p q h1 h2 h3 h4
  cases s with
  | nil => simp at h4
  | cons d s =>
   have hz := jc h1
   have hz2 := jc h2
   have e1 := Am h1
   have e2 := Am h2
   rw [h3] at e2
   have w1 : wrap64 ((p.length : Int) + 1) = (p.length : Int) + 1 := bf (by omega) (by omega)
   have hk := ih c (by rw [h1]; simp) d
   have hr := ihr s (p ++ [c]) (q ++ [d]) (by rw [h1]; simp) (by rw [h2]; simp) (by simp [h3]) (by simpa using h4)
   rw [nY] at hr
   refine vc ?_
   simp only [gU.l0, e1, e2, w1, List.length_map, Yk]
   clear w1 e1 e2
   refine vp (by omega) (vp (by omega) (vp (by omega) (vp (by omega) (vb hk ?_))))
   cases smt c d with
   | true => exact vp rfl hr
   | false => exact vn (by simp) (vs _)
theorem OC (p : Pt) : ∀ q, IW p ≤ 1000000000000 → Ev (fun n => jo.f n (e32 p).f0 (e32 p).f1 (e32 p).f2 (e32 q).f0 (e32 q).f1 (e32 q).f2) (smt p q) := by
 refine Ob (P := fun p => ∀ q, IW p ≤ 1000000000000 → Ev (fun n => jo.f n (e32 p).f0 (e32 p).f1 (e32 p).f2 (e32 q).f0 (e32 q).f1 (e32 q).f2) (smt p q)) (fun f b k ih q hs => ?_) p
 cases q with
 | mk g c l =>
  rw [IW] at hs
  simp only [vU]
  refine vc ?_
  simp only [jo.f, List.length_map]
  rw [smt]
  refine vb (JC f g (by omega)) ?_
  by_cases h1 : f = g
  ·
   refine vp (by simp [h1]) (vb (apm b c (by omega)) ?_)
   by_cases h2 : b = c
   ·
    refine vp (by simp [h2]) ?_
    by_cases h3 : k.length = l.length
    ·
     refine vb (vp (by omega) (adR k l (by omega) (fun p hp q => ih p hp q (by have := L_ hp; omega)) k l [] [] rfl rfl rfl h3)) (vq (vs _) ?_)
     simp [h1, h2, h3]
    ·
     refine vb (vn (by omega) (vs _)) (vq (vs _) ?_)
     simp [h3]
   ·
    exact vn (by simp [h2]) (vq (vs _) (by simp [h2]))
  ·
   exact vn (by simp [h1]) (vq (vs _) (by simp [h1]))
/-! How many leaves a part has. -/
mutual
def lv : Pt → Nat
 | .mk _ _ k => (if k.length = 0 then 1 else 0) + S9 k
def S9 : List Pt → Nat
 | [] => 0
 | p :: r => lv p + S9 r
end
theorem ag7 {k : List Pt} (h : ∀ p ∈ k, lv p ≤ IW p + 1) : S9 k ≤ EZ k + k.length := by
 induction k with
 | nil => simp [S9]
 | cons p r ih =>
  have h1 := h p (by simp)
  have h2 := ih fun q hq => h q (by simp [hq])
  rw [S9, EZ, List.length_cons]
  omega
theorem aw6 (p : Pt) : lv p ≤ IW p + 1 := by
 refine Ob (P := fun p => lv p ≤ IW p + 1) (fun f b k ih => ?_) p
 have := ag7 ih
 rw [lv, IW]
 split <;> omega
theorem SG (a b : List Pt) : S9 (a ++ b) = S9 a + S9 b := by
 induction a with
 | nil => simp [S9]
 | cons p r ih => rw [List.cons_append, S9, S9, ih]; omega
theorem SH (p : Pt) : IW p ≤ 1048576 → Ev (fun n => gZ.f n (e32 p).f0 (e32 p).f1 (e32 p).f2) (lv p : Int) := by
 refine Ob (P := fun p => IW p ≤ 1048576 → Ev (fun n => gZ.f n (e32 p).f0 (e32 p).f1 (e32 p).f2) (lv p : Int)) (fun f b k ih hs => ?_) p
 obtain ⟨-, -, -, -, hkn, hk⟩ := zQ hs
 have hb := ag7 (k := k) fun q _ => aw6 q
 rw [IW] at hs
 have key : ∀ (r p : List Pt), k = p ++ r → Ev (fun n => gZ.l0 n (S9 p : Int) (k.map e32) (k.length : Int) (p.length : Int)) (S9 k : Int) := by
  intro r
  induction r with
  | nil =>
   intro p h
   have hz : k.length = p.length := by rw [h, List.append_nil]
   refine vc ?_
   simp only [gZ.l0]
   refine vn (by omega) (vq (vs _) ?_)
   rw [h, List.append_nil]
  | cons c r ihr =>
   intro p h
   have hz := jc h
   have e1 := Am h
   have hc := ih c (by rw [h]; simp) (hk c (by rw [h]; simp))
   have hl : S9 k = S9 p + (lv c + S9 r) := by rw [h, SG, S9]
   have ws : wrap64 ((p.length : Int) + 1) = (p.length : Int) + 1 ∧ wrap64 ((S9 p : Int) + (lv c : Int)) = ((S9 (p ++ [c]) : Nat) : Int) := ⟨bf (by omega) (by omega), by rw [bf (by omega) (by omega), SG, S9, S9]; omega⟩
   have hv := ihr (p ++ [c]) (by rw [h]; simp)
   rw [nY, ← ws.1, ← ws.2] at hv
   refine vc ?_
   simp only [gZ.l0, List.length_map, e1]
   clear ws
   exact vp (by omega) (vp (by omega) (vp (by omega) (vb hc hv)))
 simp only [vU]
 refine vc ?_
 simp only [gZ.f, List.length_map]
 by_cases h0 : k.length = 0
 ·
  refine vp (by omega) (vq (vs _) ?_)
  obtain rfl := List.length_eq_zero_iff.mp h0
  rw [lv]; simp [S9]
 ·
  refine vn (by omega) (vq (key k [] rfl) ?_)
  rw [lv, if_neg h0]; omega
def cnt (p : Pt) : Int := if (lines 3 p).isSome = true then (lv p : Int) else 0
theorem Ci (p : Pt) (hp : IW p ≤ 1048576) : Ev (fun k => lM.f k (e32 p).f0 (e32 p).f1 (e32 p).f2) (cnt p) := by
 unfold lM.f cnt
 refine vb (zo p hp) ?_
 by_cases c : (lines 3 p).isSome = true
 ·
  rw [if_pos c]
  exact vp c (vb (SH p hp) (vs _))
 ·
  rw [if_neg c]
  exact vn c (vs _)
theorem OD (l : List Int) (h : ∀ x ∈ l, (Lit.int .u8 x).wf = true) : ∃ p : Pt, Ev (fun k => oq.f k l) ((e32 p).f0, (e32 p).f1, (e32 p).f2) ∧ IW p ≤ 500000 := by
 obtain ⟨l2, ho, hl⟩ := ajj l h
 have e1 : dB 2 = 175000 := by decide
 have e2 : dQ 2 = 616 := by decide
 obtain ⟨f, b, k, q, g1, h1, h2, h3⟩ := adQ l2 hl 2 (by omega) 0 (by omega) (by omega)
 obtain ⟨f2, b2, k2, q2, g2, h4, h5, h6⟩ := SE l2 hl q (by omega) (by omega) f b k (by omega)
 obtain ⟨f3, b3, k3, q3, g3, h7, h8, h9⟩ := SE l2 hl q2 (by omega) (by omega) f2 b2 k2 (by omega)
 unfold oq.f
 refine ⟨.mk f3 b3 k3, ?_, by rw [SC]; omega⟩
 rw [vU]
 exact jB ho (vb g1 (vb g2 (vb g3 (vs _))))
/-! The kids of a valid part. -/
/-! Bounds on the leaves of a valid part. -/
theorem acQ : ∀ (k l : List Pt), (∀ p ∈ k, ∀ q, smt p q = true ↔ p = q) → k.length = l.length → (Yk k l = true ↔ k = l) := by
 intro k
 induction k with
 | nil =>
  intro l _ hl
  cases l with
  | nil => simp [Yk]
  | cons => simp at hl
 | cons p k ih =>
  intro l h hl
  cases l with
  | nil => simp at hl
  | cons q l =>
   have h1 := h p (by simp) q
   have h2 := ih l (fun x hx => h x (by simp [hx])) (by simpa using hl)
   rw [Yk, Bool.and_eq_true, h1, h2, List.cons.injEq]
theorem apn (p : Pt) : ∀ q, smt p q = true ↔ p = q := by
 refine Ob (P := fun p => ∀ q, smt p q = true ↔ p = q) ?_ p
 intro f b k ih q
 cases q with
 | mk g c l =>
  rw [smt, Bool.and_eq_true, Bool.and_eq_true, Bool.and_eq_true, decide_eq_true_eq, decide_eq_true_eq, decide_eq_true_eq, Pt.mk.injEq]
  constructor
  ·
   rintro ⟨h1, h2, h3, h4⟩
   exact ⟨h1, h2, (acQ k l ih h3).mp h4⟩
  ·
   rintro ⟨h1, h2, h3⟩
   have hl : k.length = l.length := by rw [h3]
   exact ⟨h1, h2, hl, (acQ k l ih hl).mpr h3⟩
theorem UL (n : Str) (x : Str × Str) (hx : ¬ low x.1 = low n) : ∀ (ps : List (Str × Str)) (i : Nat), fidx n (ps ++ [x]) i = fidx n ps i
 | [], i => by
  simp only [List.nil_append, fidx]
  rw [if_neg hx]
 | c :: r, i => by
  rw [List.cons_append, fidx, fidx, UL n x hx r]
theorem adS (n : Str) (x : Str × Str) (hx : ¬ low x.1 = low n) (ps : List (Str × Str)) : yR (ps ++ [x]) n = yR ps n := by
 unfold yR
 rw [UL n x hx]
 rcases Jp n ps 0 with h | h
 ·
  rw [if_pos (by omega), if_pos (by omega)]
 ·
  rw [if_neg (by omega), if_neg (by omega), List.getD_eq_getElem?_getD, List.getD_eq_getElem?_getD, List.getElem?_append_left (by omega)]
def P5 : Str × Str := ([88, 45, 78, 101, 119], [49])
theorem ajq : fv P5 = true := by decide
theorem ajr (f : List (Str × Str)) : bF (f ++ [P5]) = bF f := by
 unfold bF
 rw [adS ctype P5 (by decide)]
theorem ag8 {f : List (Str × Str)} (h : fvs f = true) (hn : f.length ≠ 20) : fvs (f ++ [P5]) = true := by
 unfold fvs at h ⊢
 simp only [Bool.and_eq_true, decide_eq_true_eq, List.length_append, List.length_singleton, List.all_append] at h ⊢
 exact ⟨by omega, h.2, by simp [ajq]⟩
theorem aak {d : Nat} {f : List (Str × Str)} {b : List Str} {k : List Pt} (h : (lines (d + 1) (.mk f b k)).isSome = true) (hn : f.length ≠ 20) : (lines (d + 1) (.mk (f ++ [P5]) b k)).isSome = true := by
 rw [lines] at h ⊢
 by_cases c : fvs f = true
 ·
  rw [if_pos c] at h
  rw [if_pos (ag8 c hn), ajr]
  by_cases c1 : (bF f).2 = true
  ·
   rw [if_pos c1] at h ⊢
   by_cases c2 : b = [] ∧ 1 ≤ k.length ∧ k.length ≤ 4
   ·
    rw [if_pos c2] at h ⊢
    cases e : kl (lines d) k with
    | none => rw [e] at h; cases h
    | some l => rw [e] at h; simpa using h
   ·
    rw [if_neg c2] at h; cases h
  ·
   rw [if_neg c1] at h ⊢
   by_cases c2 : k = [] ∧ tbs b = true
   ·
    rw [if_pos c2]; rfl
   ·
    rw [if_neg c2] at h; cases h
 ·
  rw [if_neg c] at h; cases h
theorem FnPartValid : dJ.Pure := by
 intro l0 _ _ h
 refine adT ?_
 unfold dJ.f
 by_cases h0 : (l0.length : Int) > 1048576
 ·
  exact vp h0 (vs _)
 obtain ⟨⟨f, b, k⟩, hd, hp⟩ := OD l0 h
 have sp := Nc (.mk f b k) (by omega)
 have si := zo (.mk f b k) (by omega)
 refine vn h0 (vb hd (vb si (vb sp (vn (by simp) ?_))))
 have out : ∀ v : Bool, v = (lines 3 (.mk f b k)).isSome → Ev (fun n => dJ.j0 n v true (e32 (.mk f b k)).f0 (e32 (.mk f b k)).f1 (e32 (.mk f b k)).f2) true := by
  intro v hv
  refine vc ?_
  simp only [dJ.j0]
  exact vp trivial (vb sp (vq (vs _) (by rw [hv]; simp)))
 by_cases c : (lines 3 (.mk f b k)).isSome = true
 ·
  refine vp c ?_
  by_cases hn : f.length = 20
  ·
   have : (((e32 (.mk f b k)).f0.length : Int) == 20) = true := by rw [vU]; simp [hn]
   rw [this]
   exact out _ rfl
  ·
   have : (((e32 (.mk f b k)).f0.length : Int) == 20) = false := by rw [vU]; simp; omega
   rw [this]
   have hc := aak c hn
   have hs := zQ (f := f) (b := b) (k := k) (by omega)
   have hq : IW (.mk (f ++ [P5]) b k) ≤ 1048576 := by
    rw [SC] at hp ⊢
    unfold UJ at hp ⊢
    rw [yt, List.length_append]
    simp [BA, P5]
    omega
   have qv := zo _ hq
   have qc := Ci _ hq
   have pc := Ci (.mk f b k) (by omega)
   have qs := OC (.mk f b k) (.mk (f ++ [P5]) b k) (by omega)
   have hsm : smt (.mk f b k) (.mk (f ++ [P5]) b k) = false := by
    cases e : smt (.mk f b k) (.mk (f ++ [P5]) b k) with
    | false => rfl
    | true => have := (apn _ _).mp e; injection this with h1; have := congrArg List.length h1; simp at this
   rw [hsm] at qs
   rw [hc] at qv
   rw [cnt, if_pos hc] at qc
   rw [cnt, if_pos c] at pc
   have hl : lv (.mk (f ++ [P5]) b k) = lv (.mk f b k) := by rw [lv, lv]
   rw [hl] at qc
   have e9 : (f ++ [P5]).map uw = f.map uw ++ [(⟨(⟨#[88, 45, 78, 101, 119]⟩ : ByteArray), (⟨#[49]⟩ : ByteArray)⟩ : gK)] := by rw [List.map_append]; rfl
   rw [vU] at qv qc qs pc ⊢
   simp only [vU] at qs
   rw [e9] at qv qc qs
   refine vc ?_
   simp only [dJ.j0]
   refine vn (by decide) (jB rfl (vp (by simp; omega) (jB rfl (vp (by simp; omega) (jB rfl ?_)))))
   exact vb qv (vp rfl (vb qc (vb pc (vp rfl (vb qs (vq (vs _) rfl))))))
 ·
  exact vn c (out _ rfl)
end Go.Proofs.YtncdadcmghglkaaGreatDoor.Pure
