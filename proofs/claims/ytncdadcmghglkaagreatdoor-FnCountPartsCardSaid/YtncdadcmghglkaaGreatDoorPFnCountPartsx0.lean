/- Printed walks; conditions: those in each statement. -/
import Derived.Test.YtncdadcmghglkaaGreatDoorVFnCountPartsQt
import Derived.Test.YtncdadcmghglkaaGreatDoorProg
import Derived.Test.YtncdadcmghglkaaGreatDoorVFnCountPartsXt
import Derived.Below
import Derived.Deep.Draws
import Derived.Deep.AppendLies
import Derived.Maps.AppendAt
import Derived.OwnWalk
import Derived.Laws.BytesArg
import Derived.Laws.MakeOwn
import Derived.Laws.OwnMore
import Derived.Deep.OwnRows
import Derived.Tactics
import Derived.Lib.ConvBytes
import Derived.Laws.Slices
import Derived.WalkKit
import Derived.KernelRfl
import Derived.RowKit3
import Derived.Deep.LoopGhost
import Derived.Deep.QuietTactic
import Derived.BigQuiet
import Derived.WideLaws
import Derived.Deep.DeepCutAuto
import Derived.Deep.CutBlock
import Derived.Deep.RegionHeld3
import Derived.Laws.Rows
import Derived.Lib.AppendStr
import Derived.ArgAppend
import Derived.Laws.IdiomCopy
import Derived.OrdersHeld
import Derived.Laws.BitsLemmas
import Derived.RowKit
import Derived.Test.YtncdadcmghglkaaGreatDoorMx
import Derived.Test.YtncdadcmghglkaaGreatDoorVFnCountPartsWords
import Derived.Test.YtncdadcmghglkaaGreatDoorVFnCountPartsLast
import Derived.Test.YtncdadcmghglkaaGreatDoorVFnCountPartsTab
import Derived.Test.YtncdadcmghglkaaGreatDoorVFnCountPartsApart
import Derived.Test.YtncdadcmghglkaaGreatDoorVFnCountPartsFoot
import Derived.Test.YtncdadcmghglkaaGreatDoorVFnCountPartsKept
import Derived.Test.YtncdadcmghglkaaGreatDoorVFnCountPartsShare
import Derived.Test.YtncdadcmghglkaaGreatDoorVFnCountPartsN
import Derived.Test.YtncdadcmghglkaaGreatDoorVFnCountPartsRepsOne
import Derived.Test.YtncdadcmghglkaaGreatDoorVFnCountPartsInv
import Derived.Test.YtncdadcmghglkaaGreatDoorVFnCountPartsGuard
import Derived.Test.YtncdadcmghglkaaGreatDoorVFnCountPartsMore
import Derived.Test.YtncdadcmghglkaaGreatDoorVFnCountPartsYt
-- dense
-- sq
-- sq2
-- short
namespace Go.Proofs.YtncdadcmghglkaaGreatDoor.PFnCountParts
open Go.RowKit Go.Proofs.YtncdadcmghglkaaGreatDoor.X Go.Proofs.YtncdadcmghglkaaGreatDoorW.bI Go.Proofs.YtncdadcmghglkaaGreatDoorW.gI Go.Proofs.YtncdadcmghglkaaGreatDoorW.iL
attribute [local go_sem] kN kP mF mG jB jC kQ kR   -- for this text's walks alone
set_option linter.unusedVariables false
set_option linter.unusedSimpArgs false
def an_ : Option Int → Value
 | none => .nilIface
 | some c => .iface 0 (.int .i64 c)
theorem wK : an_ none = .nilIface := rfl
theorem wL (c : Int) : an_ (some c) = .iface 0 (.int .i64 c) := rfl
theorem info3 : (Tryz.prog.info? 3).map (fun i => (i.zero, i.size, i.bytes)) = some (some (.int .i64 0), 1, 8) := by kernel_rfl
theorem info5 : (Tryz.prog.info? 5).map (fun i => (i.zero, i.size, i.bytes)) = some (some (.int .u8 0), 1, 1) := by kernel_rfl
theorem info9 : (Tryz.prog.info? 9).map (fun i => (i.zero, i.size, i.bytes)) = some (some (.string ⟨#[]⟩), 1, 16) := by kernel_rfl
theorem info23 : (Tryz.prog.info? 23).map (fun i => (i.zero, i.size, i.bytes)) = some (some (.slice none 0 0), 1, 24) := by kernel_rfl
theorem SK : (Tryz.prog.info? 28).map (fun i => (i.zero, i.size, i.bytes)) = some (some (.agg #[(.slice none 0 0), (.slice none 0 0), (.slice none 0 0)]), 3, 72) := by kernel_rfl
theorem Cc : (Tryz.prog.info? 69).map (fun i => (i.zero, i.size, i.bytes)) = some (some (.agg #[(.string ⟨#[]⟩), (.string ⟨#[]⟩)]), 2, 32) := by kernel_rfl
-- the values' own types
/-! #### struct type 69 -/
structure gY where
 f0 : ByteArray
 f1 : ByteArray
def z69 : gY := ⟨(⟨#[]⟩ : ByteArray), (⟨#[]⟩ : ByteArray)⟩
def qJ : Kd gY := Kd.iso (Kd.pair Kd.string Kd.string) (fun x : gY => (x.f0, x.f1))
theorem acB {w : World} {x : gY} {cs : List Value} (h : qJ.K w x cs) : cs = [.string x.f0, .string x.f1] := by
 obtain ⟨_, _, rfl, rfl, rfl⟩ := h
 exact rfl
theorem an8 {w : World} {base : Nat} {ok : Nat → Prop} {x : gY} {cs : List Value} (h : qJ.M w base ok x cs) : cs = [.string x.f0, .string x.f1] := by
 obtain ⟨_, _, rfl, rfl, rfl⟩ := h
 exact rfl
theorem awS (w : World) (x : gY)  : qJ.K w x [.string x.f0, .string x.f1] := ⟨[.string x.f0], [.string x.f1], rfl, rfl, rfl⟩
theorem wC (w : World) (base : Nat) (ok : Nat → Prop) (x : gY)  : qJ.M w base ok x [.string x.f0, .string x.f1] := ⟨[.string x.f0], [.string x.f1], rfl, rfl, rfl⟩
def fD (xs : List gY) (i : Int) : gY := xs.getD i.toNat z69
theorem qV {w : World} {A : Option Addr} {n : Nat} {xs : List gY} (h : Kd.C qJ w A n xs) (i : Int) (h0 : 0 ≤ i) (h1 : i < n) : ∃ ad , A = some ad ∧ w.cell? (ad.add (i.toNat * 2)) = some (.string (fD xs i).f0) ∧ w.cell? ⟨(ad.add (i.toNat * 2)).block, (ad.add (i.toNat * 2)).off + 1, none⟩ = some (.string (fD xs i).f1) := by
 obtain ⟨ad, c, e, _, hK, hc0⟩ := Kd.Yu h z69 i h0 h1
 have hc : ∀ j u, c[j]? = some u → w.cell? (ad.add (i.toNat * 2 + j)) = some u := hc0
 obtain rfl := acB hK
 exact ⟨ad, e, hc 0 _ rfl, by rw [← KO _ _ 1 (by omega)]; exact hc 1 _ rfl⟩
def Yv (xs : List (List gY)) (i : Int) : (List gY) := xs.getD i.toNat ([] : List gY)
theorem az9 {w : World} {A : Option Addr} {n : Nat} {xs : List (List gY)} (h : Kd.C (Kd.slice 69 qJ) w A n xs) (i : Int) (h0 : 0 ≤ i) (h1 : i < n) : ∃ ad A0 c0, A = some ad ∧ w.cell? (ad.add i.toNat) = some (.slice A0 (Yv xs i).length c0) ∧ (Yv xs i).length ≤ c0 ∧ qJ.C w A0 (Yv xs i).length (Yv xs i) := by
 obtain ⟨ad, c, e, _, hK, hc0⟩ := Kd.Yu h ([] : List gY) i h0 h1
 have hc : ∀ j u, c[j]? = some u → w.cell? (ad.add (i.toNat * 1 + j)) = some u := hc0
 obtain ⟨A0, c0, rfl, l0, g0⟩ := hK
 exact ⟨ad, A0, c0, e, by have hq := hc 0 _ rfl; rwa [Nat.mul_one, Nat.add_zero] at hq, l0, g0⟩
def xX (xs : List (List ByteArray)) (i : Int) : (List ByteArray) := xs.getD i.toNat ([] : List ByteArray)
theorem II {w : World} {A : Option Addr} {n : Nat} {xs : List (List ByteArray)} (h : Kd.C (Kd.slice 9 Kd.string) w A n xs) (i : Int) (h0 : 0 ≤ i) (h1 : i < n) : ∃ ad A0 c0, A = some ad ∧ w.cell? (ad.add i.toNat) = some (.slice A0 (xX xs i).length c0) ∧ (xX xs i).length ≤ c0 ∧ Kd.string.C w A0 (xX xs i).length (xX xs i) := by
 obtain ⟨ad, c, e, _, hK, hc0⟩ := Kd.Yu h ([] : List ByteArray) i h0 h1
 have hc : ∀ j u, c[j]? = some u → w.cell? (ad.add (i.toNat * 1 + j)) = some u := hc0
 obtain ⟨A0, c0, rfl, l0, g0⟩ := hK
 exact ⟨ad, A0, c0, e, by have hq := hc 0 _ rfl; rwa [Nat.mul_one, Nat.add_zero] at hq, l0, g0⟩
/-! #### struct type 28, nested in itself -/
structure nG where
 f0 : (List gY)
 f1 : (List ByteArray)
 f2 : (List nG)
def z28 : nG := ⟨([] : List gY), ([] : List ByteArray), ([] : List nG)⟩
def F28 (d : Kd nG) : Kd nG := Kd.iso (Kd.pair (Kd.slice 69 qJ) (Kd.pair (Kd.slice 9 Kd.string) (Kd.slice 28 d))) (fun x : nG => (x.f0, x.f1, x.f2))
theorem SL : Kd.Ew F28 := Kd.acC _ (Kd.Q7 (Kd.OH _) (Kd.Q7 (Kd.OH _) (Kd.WY 28 Kd.af6)))
theorem aoa : Kd.Sub F28 [9, 28, 69] := Kd.af7 _ (Kd.U6 (Kd.sub_const _ (by decide)) (Kd.U6 (Kd.sub_const _ (by decide)) (Kd.abn 28 (by decide) Kd.alj)))
theorem alk : ∀ n, (Kd.upto F28 3 [9, 28, 69] n).sz = 3 := Kd.af8 (fun _ => rfl)
def k28 : Kd nG := Kd.fix F28 3 [9, 28, 69] alk (Kd.acD aoa)
theorem acE {w : World} {x : nG} {cs : List Value} (h : k28.K w x cs) : ∃ A0 c0 A1 c1 A2 c2, cs = [.slice A0 x.f0.length c0, .slice A1 x.f1.length c1, .slice A2 x.f2.length c2] ∧ x.f0.length ≤ c0 ∧ qJ.C w A0 x.f0.length x.f0 ∧ x.f1.length ≤ c1 ∧ Kd.string.C w A1 x.f1.length x.f1 ∧ x.f2.length ≤ c2 ∧ k28.C w A2 x.f2.length x.f2 := by
 obtain ⟨n, h⟩ := h
 cases n with
 | zero => exact h.elim
 | succ n =>
  obtain ⟨_, _, rfl, ⟨A0, c0, rfl, l0, g0⟩, ⟨_, _, rfl, ⟨A1, c1, rfl, l1, g1⟩, ⟨A2, c2, rfl, l2, g2⟩⟩⟩ := h
  exact ⟨A0, c0, A1, c1, A2, c2, rfl, l0, g0, l1, g1, l2, Kd.aob g2⟩
theorem an9 {w : World} {base : Nat} {ok : Nat → Prop} {x : nG} {cs : List Value} (h : k28.M w base ok x cs) : ∃ v0 v1 v2, cs = [v0, v1, v2] ∧ qJ.R 69 w base ok v0 x.f0 ∧ Kd.string.R 9 w base ok v1 x.f1 ∧ k28.R 28 w base ok v2 x.f2 := by
 obtain ⟨n, h⟩ := h
 cases n with
 | zero => exact h.elim
 | succ n =>
  obtain ⟨_, _, rfl, ⟨v0, rfl, g0⟩, ⟨_, _, rfl, ⟨v1, rfl, g1⟩, ⟨v2, rfl, g2⟩⟩⟩ := h
  exact ⟨v0, v1, v2, rfl, g0, g1, Kd.aoc g2⟩
theorem awT (w : World) (x : nG) {A0 : Option Addr} {c0 : Nat} (l0 : x.f0.length ≤ c0) (g0 : qJ.C w A0 x.f0.length x.f0) {A1 : Option Addr} {c1 : Nat} (l1 : x.f1.length ≤ c1) (g1 : Kd.string.C w A1 x.f1.length x.f1) {A2 : Option Addr} {c2 : Nat} (l2 : x.f2.length ≤ c2) (g2 : k28.C w A2 x.f2.length x.f2) : k28.K w x [.slice A0 x.f0.length c0, .slice A1 x.f1.length c1, .slice A2 x.f2.length c2] := by
 obtain ⟨n2, q2⟩ := Kd.WZ SL g2
 have r2 := Kd.abo SL alk (show n2 ≤ n2 by omega) q2
 exact ⟨n2 + 1, ⟨[.slice A0 x.f0.length c0], [.slice A1 x.f1.length c1, .slice A2 x.f2.length c2], rfl, ⟨A0, c0, rfl, l0, g0⟩, ⟨[.slice A1 x.f1.length c1], [.slice A2 x.f2.length c2], rfl, ⟨A1, c1, rfl, l1, g1⟩, ⟨A2, c2, rfl, l2, r2⟩⟩⟩⟩
theorem Oe (w : World) (base : Nat) (ok : Nat → Prop) (x : nG) {v0 : Value} (g0 : qJ.R 69 w base ok v0 x.f0) {v1 : Value} (g1 : Kd.string.R 9 w base ok v1 x.f1) {v2 : Value} (g2 : k28.R 28 w base ok v2 x.f2) : k28.M w base ok x [v0, v1, v2] := by
 obtain ⟨n2, q2⟩ := Kd.W9 SL g2
 have r2 := Kd.abp SL alk (show n2 ≤ n2 by omega) q2
 exact ⟨n2 + 1, ⟨[v0], [v1, v2], rfl, ⟨v0, rfl, g0⟩, ⟨[v1], [v2], rfl, ⟨v1, rfl, g1⟩, ⟨v2, rfl, r2⟩⟩⟩⟩
def bK (xs : List nG) (i : Int) : nG := xs.getD i.toNat z28
theorem Ce {w : World} {A : Option Addr} {n : Nat} {xs : List nG} (h : Kd.C k28 w A n xs) (i : Int) (h0 : 0 ≤ i) (h1 : i < n) : ∃ ad A0 c0 A1 c1 A2 c2, A = some ad ∧ w.cell? (ad.add (i.toNat * 3)) = some (.slice A0 (bK xs i).f0.length c0) ∧ w.cell? ⟨(ad.add (i.toNat * 3)).block, (ad.add (i.toNat * 3)).off + 1, none⟩ = some (.slice A1 (bK xs i).f1.length c1) ∧ w.cell? ⟨(ad.add (i.toNat * 3)).block, (ad.add (i.toNat * 3)).off + 2, none⟩ = some (.slice A2 (bK xs i).f2.length c2) ∧ (bK xs i).f0.length ≤ c0 ∧ qJ.C w A0 (bK xs i).f0.length (bK xs i).f0 ∧ (bK xs i).f1.length ≤ c1 ∧ Kd.string.C w A1 (bK xs i).f1.length (bK xs i).f1 ∧ (bK xs i).f2.length ≤ c2 ∧ k28.C w A2 (bK xs i).f2.length (bK xs i).f2 := by
 obtain ⟨ad, c, e, _, hK, hc0⟩ := Kd.Yu h z28 i h0 h1
 have hc : ∀ j u, c[j]? = some u → w.cell? (ad.add (i.toNat * 3 + j)) = some u := hc0
 obtain ⟨A0, c0, A1, c1, A2, c2, rfl, l0, g0, l1, g1, l2, g2⟩ := acE hK
 exact ⟨ad, A0, c0, A1, c1, A2, c2, e, hc 0 _ rfl, by rw [← KO _ _ 1 (by omega)]; exact hc 1 _ rfl, by rw [← KO _ _ 2 (by omega)]; exact hc 2 _ rfl, l0, g0, l1, g1, l2, g2⟩
set_option maxHeartbeats 8000000
set_option maxRecDepth 100000
mutual
def iG.f : Nat → List (gY) → List ByteArray → List (nG) → Option ((List (gY)) × List ByteArray × (List (nG)))
 | 0, _, _, _ => none
 | k + 1, dh, bU, aC => (some (([] : List (gY)) : List (gY))).bind fun OI => (if OI.length + dh.length < 4398046511104 then ((some (([] : List ByteArray) : List ByteArray)).bind fun OJ => (if OJ.length + bU.length < 8796093022208 then ((fP.l0 k (([] : List (nG))) aC (aC.length : Int) 0).bind fun U7 => (some ((OI ++ dh), (OJ ++ bU), U7))) else (none))) else (none))
def fP.l0 : Nat → List (nG) → List (nG) → Int → Int → Option ((List (nG)))
 | 0, _, _, _, _ => none
 | k + 1, x3, x7, x8, x9 => if x9 < x8 then (if 0 ≤ x9 then (if x9 < (x7.length : Int) then ((iG.f k ((bK x7 x9).f0) ((bK x7 x9).f1) ((bK x7 x9).f2)).bind fun acF => (if x3.length < 1954687338268 then (fP.l0 k (x3 ++ [(⟨acF.1, acF.2.1, acF.2.2⟩ : nG)]) x7 x8 (wrap64 (x9 + 1))) else (none))) else (none)) else (none)) else (some x3)
end
def fP.f (k : Nat) (l0 : List (nG)) : Option ((List (nG))) := fP.l0 k (([] : List (nG))) l0 (l0.length : Int) 0
theorem iG.alm (k : Nat) (dh : List (gY)) (bU : List ByteArray) (aC : List (nG)) : iG.f (k + 1) dh bU aC = ((some (([] : List (gY)) : List (gY))).bind fun OI => (if OI.length + dh.length < 4398046511104 then ((some (([] : List ByteArray) : List ByteArray)).bind fun OJ => (if OJ.length + bU.length < 8796093022208 then ((fP.f k aC).bind fun U7 => (some ((OI ++ dh), (OJ ++ bU), U7))) else (none))) else (none))) := by simp only [iG.f, fP.f]
theorem iG.pair (k : Nat) : (∀ (jf : Option Addr) (jg : Nat) (dh : List (gY)) (iY : Option Addr) (iZ : Nat) (bU : List ByteArray) (gX : Option Addr) (eY : Nat) (aC : List (nG)) (r1 : List (gY)) (r2 : List ByteArray) (r3 : List (nG)) (w : World) (lZ : Kd.C qJ w jf dh.length dh) (l7 : dh.length ≤ jg) (l9 : Kd.C Kd.string w iY bU.length bU) (mg : bU.length ≤ iZ) (jJ : Kd.C k28 w gX aC.length aC) (jK : aC.length ≤ eY) (h : iG.f k dh bU aC = some (r1, r2, r3)),
  Calls Tryz.prog 61 #[.agg #[.slice jf dh.length jg, .slice iY bU.length iZ, .slice gX aC.length eY]] w fun e w' => ∃ qj Dq EK : Value, e = .returned (.agg #[qj, Dq, EK]) ∧ Kd.R qJ 69 w' w.heap.size (fun _ => True) qj r1 ∧ Kd.R Kd.string 9 w' w.heap.size (fun _ => True) Dq r2 ∧ Kd.R k28 28 w' w.heap.size (fun k_ => some k_ ≠ (qj : Value).ownBlock ∧ some k_ ≠ (Dq : Value).ownBlock) EK r3 ∧ Below w.heap.size w w') ∧
  (∀ (A0 : Option Addr) (c0 : Nat) (l0 : List (nG)) (r : List (nG)) (w : World) (hr0 : Kd.C k28 w A0 l0.length l0) (hc0 : l0.length ≤ c0) (h : fP.f k l0 = some r),
  Calls Tryz.prog 104 #[.slice A0 l0.length c0] w fun e w' => ∃ qj : Value, e = .returned (qj) ∧ Kd.R k28 28 w' w.heap.size (fun _ => True) qj r ∧ Below w.heap.size w w') := by
 induction k using Nat.strongRecOn with
 | _ k ih =>
 refine ⟨?_, ?_⟩
 ·
  cases k with
  | zero => intro jf jg dh iY iZ bU gX eY aC r1 r2 r3 w lZ l7 l9 mg jJ jK h; exact absurd h (by simp [iG.f])
  | succ k =>
  have ihB := (ih k (Nat.lt_succ_self k)).2
  clear ih
  intro jf jg dh iY iZ bU gX eY aC r1 r2 r3 w lZ l7 l9 mg jJ jK h
  rw [iG.alm] at h
  have CG := Tryz.underlying28
  have oO := ak lZ
  have pG := ak l7
  clear lZ l7
  have rE := ak l9
  have uG := ak mg
  clear l9 mg
  have jm := ak jJ
  have lJ := ak jK
  clear jJ jK
  have HB := ak (Below.refl w.heap.size w)
  have H : ((some (([] : List (gY)) : List (gY))).bind fun OI => (if OI.length + dh.length < 4398046511104 then ((some (([] : List ByteArray) : List ByteArray)).bind fun OJ => (if OJ.length + bU.length < 8796093022208 then ((fP.f k aC).bind fun U7 => (some ((OI ++ dh), (OJ ++ bU), U7))) else (none))) else (none))) = some (r1, r2, r3) := h
  clear h
  replace H := ny H
  obtain ⟨OI, aod, H⟩ := H
  replace H := nl H; obtain ⟨aln, H⟩ := H
  obtain ⟨acG, aic⟩ := nm (OI ++ dh)
  rw [← aic.out] at H
  replace H := ny H
  obtain ⟨OJ, aoe, H⟩ := H
  replace H := nl H; obtain ⟨abq, H⟩ := H
  obtain ⟨alo, aie⟩ := nm (OJ ++ bU)
  rw [← aie.out] at H
  replace H := bd H; obtain ⟨U7, A4, H⟩ := H
  obtain ⟨rfl, rfl, rfl⟩ := s3 H
  go_enter Tryz.func61, Tryz.ntmps61
  go_wp2_with (first | (refine bX HB 1 #[.slice jf dh.length jg, .slice iY bU.length iZ, .slice gX aC.length eY] 28 ?_; intro acH w5 vZ az_ hb; replace HB := bs HB hb; clear hb) | (refine bY HB 2 #[.slice none 0 0, .slice none 0 0, .slice none 0 0] 28 ?_; intro Yw w6 CJ aAa hg hb; have abr := AZ vZ hg; have abt := A_ vZ hg; replace vZ := kb vZ hb; replace HB := bz HB hb; clear hb hg) | (refine GN 3 qJ 69 aod ?_; intro awU w7 ho8 hb; have Yx := ak (Kd.aA ho8 (aj bb)); replace vZ := kb vZ hb; replace CJ := kb CJ hb; replace HB := bz HB hb; clear hb ho8; have awV := abr.out; have awW := abt.out; have z10 := jW vZ.out) | ((with_reducible refine dZ (b := .append) (xs := #[.tmp 3, .tmp 5]) rfl ?_); at_builtin; refine Kd.qA qJ (w0 := w) w.heap.size rfl (.tmp 3) (.tmp 5) 25 69 (.agg #[(.string ⟨#[]⟩), (.string ⟨#[]⟩)]) 32 rfl Tryz.underlying25 Cc rfl (by decide) (by omega) awU OI dh _ _ _ (fun _ => True) (fun _ => False) rfl rfl ?aO ?aR (fun _ _ h => h) (fun _ h => h.elim) ?aF ?aB ?aS ?aL ?_; (case aR => repeat (first | exact (Kd.aW oO.out HB.out) | (with_reducible refine Kd.ql ?_ _) | (with_reducible refine Kd.qm ?_ _) | (with_reducible refine Kd.tJ ?_))); (case aB => exact bb); (case aF => exact (fun _ _ => trivial)); (case aO => exact (ur Yx.out)); (case aS => exact (aj bb)); (case aL => have := aln.out; omega); intro aCX SN ho hb hg hat; rw [← aic.out] at ho; have MH := ak (ho); replace vZ := ak (dw (g := acH) (o := .cells #[.slice jf dh.length jg, .slice iY bU.length iZ, .slice gX aC.length eY] 28 (0, 0)) (ub vZ.out) hg (Kd.oQ Yx.out vZ.out (by decide))); replace CJ := ak (dw (g := Yw) (o := .cells #[.slice none 0 0, .slice none 0 0, .slice none 0 0] 28 (0, 0)) (ub CJ.out) hg (Kd.oQ Yx.out CJ.out (by decide))); replace HB := ak (hb); clear ho hb hg hat Yx; obtain ⟨EL, Ey, SQ⟩ := Kd.aN MH.out; subst SQ; have z13 := jW vZ.out) | (refine GN 8 Kd.string 9 aoe ?_; intro awX Q8 NC hb; have U8 := ak (Kd.aA NC (aj bb)); replace MH := rg MH hb; replace vZ := kp vZ #[.slice EL acG.length Ey, .slice iY bU.length iZ, .slice gX aC.length eY] hb; replace CJ := kp CJ #[.slice none 0 0, .slice none 0 0, .slice none 0 0] hb; replace HB := bz HB hb; clear hb NC; have z16 := jW vZ.out) | ((with_reducible refine dZ (b := .append) (xs := #[.tmp 8, .tmp 10]) rfl ?_); at_builtin; refine Kd.qA Kd.string (w0 := w) w.heap.size rfl (.tmp 8) (.tmp 10) 23 9 (.string ⟨#[]⟩) 16 rfl Tryz.underlying23 info9 rfl (by decide) (by omega) awX OJ bU _ _ _ (fun _ => True) (fun _ => False) rfl rfl ?aO ?aR (fun _ _ h => h) (fun _ h => h.elim) ?aF ?aB ?aS ?aL ?_; (case aR => repeat (first | exact (Kd.aW rE.out HB.out) | (with_reducible refine Kd.ql ?_ _) | (with_reducible refine Kd.qm ?_ _) | (with_reducible refine Kd.tJ ?_))); (case aB => exact bb); (case aF => exact (fun _ _ => trivial)); (case aO => exact (ur U8.out)); (case aS => exact (aj bb)); (case aL => have := abq.out; omega); intro aCY w17 ho hb hg hat; rw [← aie.out] at ho; have Yy := ak (ho); replace vZ := ak (dw (g := acH) (o := .cells #[.slice EL acG.length Ey, .slice iY bU.length iZ, .slice gX aC.length eY] 28 (0, 0)) (ub vZ.out) hg (Kd.oQ U8.out vZ.out (by decide))); replace CJ := ak (dw (g := Yw) (o := .cells #[.slice none 0 0, .slice none 0 0, .slice none 0 0] 28 (0, 0)) (ub CJ.out) hg (Kd.oQ U8.out CJ.out (by decide))); replace MH := ak (Kd.qo (ur MH.out) (Kd.kU (ur U8.out)) (by decide) hg); replace HB := ak (hb); clear ho hb hg hat U8; obtain ⟨Gs, Gt, abu⟩ := Kd.aN Yy.out; subst abu; have z19 := jW vZ.out) | (refine gV Tryz.func104 (ihB _ _ aC U7 _ (Kd.aW jm.out bb) lJ.out A4.out) ?_; rintro aCZ w20 ⟨ho0, hb⟩; have aof := ak (Kd.aA (Kd.nP (Kd.nP (Kd.gU (Kd.gU ho0 (Kd.kX (rh MH))) (Kd.kX (rh Yy))) (g := acH) (o := .cells #[.slice EL acG.length Ey, .slice Gs alo.length Gt, .slice gX aC.length eY] 28 (0, 0)) bq) (g := Yw) (o := .cells #[.slice none 0 0, .slice none 0 0, .slice none 0 0] 28 (0, 0)) bq) (aj bb)); replace MH := rg MH hb; replace Yy := rg Yy hb; replace vZ := kp vZ #[.slice EL acG.length Ey, .slice Gs alo.length Gt, .slice gX aC.length eY] hb; replace CJ := kp CJ #[.slice none 0 0, .slice none 0 0, .slice none 0 0] hb; replace HB := bz HB hb; clear hb; (try clear ho0); obtain ⟨ND, NG, Xa⟩ := Kd.aN aof.out; subst Xa; have z22 := jW vZ.out; have z23 := jW CJ.out))
  refine bodyPost_ret (results_cell_row rfl _ _ Yw 28 #[.slice EL acG.length Ey, .slice Gs alo.length Gt, .slice ND U7.length NG] (0, 0) _ rfl bq Tryz.underlying28 rfl (by kernel_rfl)) rfl ?_
  exact ⟨_, _, _, er, rr, rr, rr, bb⟩
 ·
  intro A0 c0 l0 r w hr0 hc0 h
  have CG := Tryz.underlying28
  have HR0 := ak hr0
  have xq := ak hc0
  clear hr0 hc0
  have HB := ak (Below.refl w.heap.size w)
  have H : (fP.l0 k (([] : List (nG))) l0 (l0.length : Int) 0) = some r := h
  clear h
  obtain ⟨y101, aif⟩ := nm ([] : List (nG))
  rw [← aif.out] at H
  have H' := ak H; clear H
  go_enter Tryz.func104, Tryz.ntmps104
  go_wp2_with (refine GN 6 k28 28 aif ?_; intro aC0 w2 ho3 hb; have aog := ak (Kd.aA ho3 (aj (ul HB.out))); replace HB := bs HB hb; clear hb ho3)
  go_loopg [3, 9] k (fun kq v3 v9 w' => ∃ (dM : List (nG)) (wY : Int), v9 = .int .i64 wY ∧ ah (fP.l0 kq dM l0 (l0.length : Int) wY = some r) ∧ ah (kq ≤ k) ∧ ah (Kd.R k28 28 w' w.heap.size (fun _ => True) v3 dM) ∧ ah (Below w.heap.size w w'))
  case atStart => exact ⟨_, _, rs, H', ⟨Nat.le_refl _⟩, ⟨ur aog.out⟩, ⟨ul HB.out⟩⟩
  case round =>
   clear H'
   obtain ⟨dM, wY, rfl, HA, xu, oU, HB⟩ := hrel
   cases gk with
   | zero => exact zz HA.out
   | succ k1 =>
    obtain ⟨H⟩ := HA
    simp only [fP.l0] at H
    replace H := sd H
    rcases H with ⟨rX, H⟩ | ⟨rX, H⟩
    ·
     replace H := oM H; obtain ⟨nR, H⟩ := H; replace H := oM H; obtain ⟨nT, H⟩ := H; replace H := bd H
     obtain ⟨⟨acI, t109, acJ⟩, A7, H⟩ := H
     (try dsimp only at H)
     replace H := nl H; obtain ⟨alp, H⟩ := H
     obtain ⟨y115, aii⟩ := nm (dM ++ [(⟨acI, t109, acJ⟩ : nG)])
     rw [← aii.out] at H
     have H' := ak H; clear H
     have alq := zi wY
     have alr := zj wY l0.length
     obtain ⟨aAb, Hr, Ht, Hu, Hw, Hy, Hz, awY, Yz, YA, YB, YC, YD, YE, YF, YG, YH⟩ := Ce HR0.out wY alq alr
     cases awY
     replace Yz := cl HB.out Yz
     replace YA := cl HB.out YA
     replace YB := cl HB.out YB
     have af9 := ak YD
     have af_ := ak YC
     clear YD YC
     have aga := ak YF
     have agb := ak YE
     clear YF YE
     have agc := ak YH
     have agd := ak YG
     clear YH YG
     replace alq := eq_true alq
     replace alr := eq_true alr
     go_wp2_with (first | (refine bY HB 5 #[.slice none 0 0, .slice none 0 0, .slice none 0 0] 28 ?_; intro Bj w9 MI aAc hg hb; replace oU := ak (Kd.nO (Kd.uf (ur oU.out) Bj (Nat.le_of_eq hg.symm)) hb); replace HB := bs HB hb; clear hb hg; have z10 := jW MI.out) | (refine gL 61 15 Tryz.func61 #[.agg #[.slice Hr ((bK l0 wY).f0).length Ht, .slice Hu ((bK l0 wY).f1).length Hw, .slice Hy ((bK l0 wY).f2).length Hz]] ?_; (with_reducible refine ((ih k1 (by have := xu.out; omega)).1 _ _ ((bK l0 wY).f0) _ _ ((bK l0 wY).f1) _ _ ((bK l0 wY).f2) acI t109 acJ _ (Kd.aW af9.out bb) af_.out (Kd.aW aga.out bb) agb.out (Kd.aW agc.out bb) agd.out A7.out).mono ?_); rintro e SN ⟨v107, aC1, aC2, rfl, ho0, ho1, ho2, hb⟩; refine ⟨_, rfl, ?_⟩; have acK := ak (Kd.aA ho0 (aj bb)); have acL := ak (Kd.aA ho1 (aj bb)); have acM := ak (Kd.aA (Kd.nP (Kd.gU ho2 (Kd.kX (ur (Kd.aZ (Kd.iW (p := ⟨Bj, 2, none⟩) (Kd.iW (p := ⟨Bj, 1, none⟩) (Kd.iW (p := ⟨Bj, 0, none⟩) (Kd.aZ oU.out (fun k_ hk => (⟨hk, hk.2⟩ : _ ∧ k_ ≠ Bj))) (fun _ hk => hk.2) (.slice Hr ((bK l0 wY).f0).length Ht)) (fun _ hk => hk.2) (.slice Hu ((bK l0 wY).f1).length Hw)) (fun _ hk => hk.2) (.slice Hy ((bK l0 wY).f2).length Hz)) (fun _ h_ => h_.1))))) (g := Bj) (o := .cells #[.slice Hr ((bK l0 wY).f0).length Ht, .slice Hu ((bK l0 wY).f1).length Hw, .slice Hy ((bK l0 wY).f2).length Hz] 28 (0, 0)) bq) (aj bb)); replace oU := ak (Kd.aZ (Kd.tK (Kd.tK (Kd.tK (Kd.acN (ur (Kd.aZ (Kd.iW (p := ⟨Bj, 2, none⟩) (Kd.iW (p := ⟨Bj, 1, none⟩) (Kd.iW (p := ⟨Bj, 0, none⟩) (Kd.aZ oU.out (fun k_ hk => (⟨hk, hk.2⟩ : _ ∧ k_ ≠ Bj))) (fun _ hk => hk.2) (.slice Hr ((bK l0 wY).f0).length Ht)) (fun _ hk => hk.2) (.slice Hu ((bK l0 wY).f1).length Hw)) (fun _ hk => hk.2) (.slice Hy ((bK l0 wY).f2).length Hz)) (fun _ h_ => h_.1))) hb) (Kd.fQ ho0)) (Kd.fQ ho1)) (Kd.fQ ho2)) (fun _ h_ => h_.1)); replace MI := kp MI #[.slice Hr ((bK l0 wY).f0).length Ht, .slice Hu ((bK l0 wY).f1).length Hw, .slice Hy ((bK l0 wY).f2).length Hz] hb; replace HB := bz HB hb; clear hb; (try clear ho0); (try clear ho1); (try clear ho2); obtain ⟨NH, CO, OL⟩ := Kd.aN acK.out; subst OL; obtain ⟨QF, OM, SS⟩ := Kd.aN acL.out; subst SS; obtain ⟨KP, KQ, SV⟩ := Kd.aN acM.out; subst SV) | ((with_reducible refine dZ (b := .append) (xs := #[.tmp 13, .tmp 16]) rfl ?_); at_builtin; refine Kd.pY k28 (w0 := w) w.heap.size rfl (.tmp 13) (.tmp 16) 26 28 (.agg #[(.slice none 0 0), (.slice none 0 0), (.slice none 0 0)]) 72 rfl Tryz.underlying26 SK rfl (by decide) (by omega) u3 dM (⟨acI, t109, acJ⟩ : nG) [.slice NH acI.length CO, .slice QF t109.length OM, .slice KP acJ.length KQ] (fun k_ => k_ ≠ Bj) (fun k_ => ((fun k_ => k_ ≠ Bj)) k_ ∧ some k_ ≠ (u3 : Value).ownBlock) rfl rfl ?aP (fun _ hk => hk) ?aF ?aO ?aB ?aS ?aL ?_; (case aP => exact Oe _ _ _ (⟨acI, t109, acJ⟩ : nG) (Kd.aZ (Kd.mJ (Kd.o7 (acK.out) (Kd.kU oU.out) (by decide)) MI.out (by decide)) (fun k_ hk => ⟨hk.2, hk.1.2⟩)) (Kd.aZ (Kd.mJ (Kd.o7 (acL.out) (Kd.kU oU.out) (by decide)) MI.out (by decide)) (fun k_ hk => ⟨hk.2, hk.1.2⟩)) (Kd.aZ (acM.out) (fun k_ hk => ⟨hk.2, hk.1.2⟩))); (case aB => exact bb); (case aF => exact (fun k_ hk => Kd.yg (g := Bj) (o := .cells #[.slice Hr ((bK l0 wY).f0).length Ht, .slice Hu ((bK l0 wY).f1).length Hw, .slice Hy ((bK l0 wY).f2).length Hz] 28 (0, 0)) (ub MI.out) k_ hk)); (case aO => exact (ur (Kd.aZ oU.out (fun _ hk => hk.1.1.1.2)))); (case aS => exact (aj bb)); (case aL => have := alp.out; omega); intro aC3 w12 ho hb hg hat; rw [← aii.out] at ho; have aoh := ak (ho); replace MI := ak (dw (g := Bj) (o := .cells #[.slice Hr ((bK l0 wY).f0).length Ht, .slice Hu ((bK l0 wY).f1).length Hw, .slice Hy ((bK l0 wY).f2).length Hz] 28 (0, 0)) (ub MI.out) hg (Kd.y7 oU.out (fun _ hk => hk.1.1.1.2))); replace HB := ak (hb); clear ho hb hg hat oU acK acL acM))
     go_roundg k1
     case measure => exact kl
     case rel => exact ⟨_, _, rs, H', ⟨kl⟩, ⟨ur (Kd.aZ aoh.out (fun _ hk => trivial))⟩, ⟨bb⟩⟩
    ·
     obtain rfl := s1 H
     go_wp2
     go_ret
     exact ⟨_, er, ur oU.out, ul HB.out⟩
theorem iG.calls {k jg iZ eY : Nat} {jf iY gX : Option Addr} {dh r1 : List (gY)} {bU r2 : List ByteArray} {aC r3 : List (nG)} {w : World} (lZ : Kd.C qJ w jf dh.length dh) (l7 : dh.length ≤ jg) (l9 : Kd.C Kd.string w iY bU.length bU) (mg : bU.length ≤ iZ) (jJ : Kd.C k28 w gX aC.length aC) (jK : aC.length ≤ eY) (h : iG.f k dh bU aC = some (r1, r2, r3)) :
  Calls Tryz.prog 61 #[.agg #[.slice jf dh.length jg, .slice iY bU.length iZ, .slice gX aC.length eY]] w fun e w' => ∃ qj Dq EK : Value, e = .returned (.agg #[qj, Dq, EK]) ∧ Kd.R qJ 69 w' w.heap.size (fun _ => True) qj r1 ∧ Kd.R Kd.string 9 w' w.heap.size (fun _ => True) Dq r2 ∧ Kd.R k28 28 w' w.heap.size (fun k_ => some k_ ≠ (qj : Value).ownBlock ∧ some k_ ≠ (Dq : Value).ownBlock) EK r3 ∧ Below w.heap.size w w' := (iG.pair k).1 jf jg dh iY iZ bU gX eY aC r1 r2 r3 w lZ l7 l9 mg jJ jK h
theorem fP.calls {k c0 : Nat} {A0 : Option Addr} {l0 r : List (nG)} {w : World} (hr0 : Kd.C k28 w A0 l0.length l0) (hc0 : l0.length ≤ c0) (h : fP.f k l0 = some r) :
  Calls Tryz.prog 104 #[.slice A0 l0.length c0] w fun e w' => ∃ qj : Value, e = .returned (qj) ∧ Kd.R k28 28 w' w.heap.size (fun _ => True) qj r ∧ Below w.heap.size w w' := (iG.pair k).2 A0 c0 l0 r w hr0 hc0 h
end Go.Proofs.YtncdadcmghglkaaGreatDoor.PFnCountParts
