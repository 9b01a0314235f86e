/- Printed walks; conditions: those in each statement. -/
import Derived.Test.YtncdadcmghglkaaGreatDoorVFnPartValidQt
import Derived.Test.YtncdadcmghglkaaGreatDoorProg
import Derived.Test.YtncdadcmghglkaaGreatDoorVFnPartValidXt
import Derived.Below
import Derived.Deep.Draws
import Derived.Deep.AppendLies
import Derived.Maps.AppendAt
import Derived.OwnWalk
import Derived.Laws.BytesArg
import Derived.Laws.MakeOwn
import Derived.Laws.OwnMore
import Derived.Deep.OwnRows
import Derived.Tactics
import Derived.Lib.ConvBytes
import Derived.Laws.Slices
import Derived.WalkKit
import Derived.KernelRfl
import Derived.RowKit3
import Derived.Deep.LoopGhost
import Derived.Deep.QuietTactic
import Derived.BigQuiet
import Derived.WideLaws
import Derived.Deep.DeepCutAuto
import Derived.Deep.CutBlock
import Derived.Deep.RegionHeld3
import Derived.Laws.Rows
import Derived.Lib.AppendStr
import Derived.ArgAppend
import Derived.Laws.IdiomCopy
import Derived.OrdersHeld
import Derived.Laws.BitsLemmas
import Derived.RowKit
import Derived.Test.YtncdadcmghglkaaGreatDoorMx
import Derived.Test.YtncdadcmghglkaaGreatDoorVFnPartValidWords
import Derived.Test.YtncdadcmghglkaaGreatDoorVFnPartValidLast
import Derived.Test.YtncdadcmghglkaaGreatDoorVFnPartValidTab
import Derived.Test.YtncdadcmghglkaaGreatDoorVFnPartValidApart
import Derived.Test.YtncdadcmghglkaaGreatDoorVFnPartValidFoot
import Derived.Test.YtncdadcmghglkaaGreatDoorVFnPartValidKept
import Derived.Test.YtncdadcmghglkaaGreatDoorVFnPartValidShare
import Derived.Test.YtncdadcmghglkaaGreatDoorVFnPartValidN
import Derived.Test.YtncdadcmghglkaaGreatDoorVFnPartValidEqStruct
import Derived.Test.YtncdadcmghglkaaGreatDoorVFnPartValidRepsOne
import Derived.Test.YtncdadcmghglkaaGreatDoorVFnPartValidInv
import Derived.Test.YtncdadcmghglkaaGreatDoorVFnPartValidGuard
import Derived.Test.YtncdadcmghglkaaGreatDoorVFnPartValidMore
import Derived.Test.YtncdadcmghglkaaGreatDoorVFnPartValidYt
-- dense
-- sq
-- sq2
-- short
namespace Go.Proofs.YtncdadcmghglkaaGreatDoor.PFnPartValid
open Go.RowKit Go.Proofs.YtncdadcmghglkaaGreatDoor.X Go.Proofs.YtncdadcmghglkaaGreatDoorW.bK Go.Proofs.YtncdadcmghglkaaGreatDoorW.gY Go.Proofs.YtncdadcmghglkaaGreatDoorW.iU
attribute [local go_sem] lu lC ng ni jO jP lD lF   -- for this text's walks alone
set_option linter.unusedVariables false
set_option linter.unusedSimpArgs false
def apH : Option Int → Value
 | none => .nilIface
 | some c => .iface 0 (.int .i64 c)
theorem yx : apH none = .nilIface := rfl
theorem yA (c : Int) : apH (some c) = .iface 0 (.int .i64 c) := rfl
theorem info5 : (Tryz.prog.info? 5).map (fun i => (i.zero, i.size, i.bytes)) = some (some (.int .u8 0), 1, 1) := by kernel_rfl
theorem info9 : (Tryz.prog.info? 9).map (fun i => (i.zero, i.size, i.bytes)) = some (some (.string ⟨#[]⟩), 1, 16) := by kernel_rfl
theorem info23 : (Tryz.prog.info? 23).map (fun i => (i.zero, i.size, i.bytes)) = some (some (.slice none 0 0), 1, 24) := by kernel_rfl
theorem U0 : (Tryz.prog.info? 28).map (fun i => (i.zero, i.size, i.bytes)) = some (some (.agg #[(.slice none 0 0), (.slice none 0 0), (.slice none 0 0)]), 3, 72) := by kernel_rfl
theorem xB : (Tryz.prog.info? 69).map (fun i => (i.zero, i.size, i.bytes)) = some (some (.agg #[(.string ⟨#[]⟩), (.string ⟨#[]⟩)]), 2, 32) := by kernel_rfl
-- the values' own types
/-! #### struct type 69 -/
structure gK where
 f0 : ByteArray
 f1 : ByteArray
def z69 : gK := ⟨(⟨#[]⟩ : ByteArray), (⟨#[]⟩ : ByteArray)⟩
def pU : Kd gK := Kd.iso (Kd.pair Kd.string Kd.string) (fun x : gK => (x.f0, x.f1))
theorem ad5 {w : World} {x : gK} {cs : List Value} (h : pU.K w x cs) : cs = [.string x.f0, .string x.f1] := by
 obtain ⟨_, _, rfl, rfl, rfl⟩ := h
 exact rfl
theorem uU (w : World) (base : Nat) (ok : Nat → Prop) (x : gK)  : pU.M w base ok x [.string x.f0, .string x.f1] := ⟨[.string x.f0], [.string x.f1], rfl, rfl, rfl⟩
def dY (xs : List gK) (i : Int) : gK := xs.getD i.toNat z69
theorem qC {w : World} {A : Option Addr} {n : Nat} {xs : List gK} (h : Kd.C pU w A n xs) (i : Int) (h0 : 0 ≤ i) (h1 : i < n) : ∃ ad , A = some ad ∧ w.cell? (ad.add (i.toNat * 2)) = some (.string (dY xs i).f0) ∧ w.cell? ⟨(ad.add (i.toNat * 2)).block, (ad.add (i.toNat * 2)).off + 1, none⟩ = some (.string (dY xs i).f1) := by
 obtain ⟨ad, c, e, _, hK, hc0⟩ := Kd.aar h z69 i h0 h1
 have hc : ∀ j u, c[j]? = some u → w.cell? (ad.add (i.toNat * 2 + j)) = some u := hc0
 obtain rfl := ad5 hK
 exact ⟨ad, e, hc 0 _ rfl, by rw [← Nq _ _ 1 (by omega)]; exact hc 1 _ rfl⟩
def aas (xs : List (List gK)) (i : Int) : (List gK) := xs.getD i.toNat ([] : List gK)
def zy (xs : List (List ByteArray)) (i : Int) : (List ByteArray) := xs.getD i.toNat ([] : List ByteArray)
theorem JG {w : World} {A : Option Addr} {n : Nat} {xs : List (List ByteArray)} (h : Kd.C (Kd.slice 9 Kd.string) w A n xs) (i : Int) (h0 : 0 ≤ i) (h1 : i < n) : ∃ ad A0 c0, A = some ad ∧ w.cell? (ad.add i.toNat) = some (.slice A0 (zy xs i).length c0) ∧ (zy xs i).length ≤ c0 ∧ Kd.string.C w A0 (zy xs i).length (zy xs i) := by
 obtain ⟨ad, c, e, _, hK, hc0⟩ := Kd.aar h ([] : List ByteArray) i h0 h1
 have hc : ∀ j u, c[j]? = some u → w.cell? (ad.add (i.toNat * 1 + j)) = some u := hc0
 obtain ⟨A0, c0, rfl, l0, g0⟩ := hK
 exact ⟨ad, A0, c0, e, by have hq := hc 0 _ rfl; rwa [Nat.mul_one, Nat.add_zero] at hq, l0, g0⟩
/-! #### struct type 28, nested in itself -/
structure mV where
 f0 : (List gK)
 f1 : (List ByteArray)
 f2 : (List mV)
def z28 : mV := ⟨([] : List gK), ([] : List ByteArray), ([] : List mV)⟩
def F28 (d : Kd mV) : Kd mV := Kd.iso (Kd.pair (Kd.slice 69 pU) (Kd.pair (Kd.slice 9 Kd.string) (Kd.slice 28 d))) (fun x : mV => (x.f0, x.f1, x.f2))
theorem U1 : Kd.FT F28 := Kd.ad6 _ (Kd.TN (Kd.Qw _) (Kd.TN (Kd.Qw _) (Kd.YO 28 Kd.ahw)))
theorem apI : Kd.Sub F28 [9, 28, 69] := Kd.ahx _ (Kd.Xb (Kd.sub_const _ (by decide)) (Kd.Xb (Kd.sub_const _ (by decide)) (Kd.acZ 28 (by decide) Kd.amP)))
theorem amQ : ∀ n, (Kd.upto F28 3 [9, 28, 69] n).sz = 3 := Kd.ahy (fun _ => rfl)
def k28 : Kd mV := Kd.fix F28 3 [9, 28, 69] amQ (Kd.ad7 apI)
theorem ad8 {w : World} {x : mV} {cs : List Value} (h : k28.K w x cs) : ∃ A0 c0 A1 c1 A2 c2, cs = [.slice A0 x.f0.length c0, .slice A1 x.f1.length c1, .slice A2 x.f2.length c2] ∧ x.f0.length ≤ c0 ∧ pU.C w A0 x.f0.length x.f0 ∧ x.f1.length ≤ c1 ∧ Kd.string.C w A1 x.f1.length x.f1 ∧ x.f2.length ≤ c2 ∧ k28.C w A2 x.f2.length x.f2 := by
 obtain ⟨n, h⟩ := h
 cases n with
 | zero => exact h.elim
 | succ n =>
  obtain ⟨_, _, rfl, ⟨A0, c0, rfl, l0, g0⟩, ⟨_, _, rfl, ⟨A1, c1, rfl, l1, g1⟩, ⟨A2, c2, rfl, l2, g2⟩⟩⟩ := h
  exact ⟨A0, c0, A1, c1, A2, c2, rfl, l0, g0, l1, g1, l2, Kd.apJ g2⟩
theorem P8 (w : World) (base : Nat) (ok : Nat → Prop) (x : mV) {v0 : Value} (g0 : pU.R 69 w base ok v0 x.f0) {v1 : Value} (g1 : Kd.string.R 9 w base ok v1 x.f1) {v2 : Value} (g2 : k28.R 28 w base ok v2 x.f2) : k28.M w base ok x [v0, v1, v2] := by
 obtain ⟨n2, q2⟩ := Kd.YQ U1 g2
 have r2 := Kd.ac1 U1 amQ (show n2 ≤ n2 by omega) q2
 exact ⟨n2 + 1, ⟨[v0], [v1, v2], rfl, ⟨v0, rfl, g0⟩, ⟨[v1], [v2], rfl, ⟨v1, rfl, g1⟩, ⟨v2, rfl, r2⟩⟩⟩⟩
def aN (xs : List mV) (i : Int) : mV := xs.getD i.toNat z28
theorem zD {w : World} {A : Option Addr} {n : Nat} {xs : List mV} (h : Kd.C k28 w A n xs) (i : Int) (h0 : 0 ≤ i) (h1 : i < n) : ∃ ad A0 c0 A1 c1 A2 c2, A = some ad ∧ w.cell? (ad.add (i.toNat * 3)) = some (.slice A0 (aN xs i).f0.length c0) ∧ w.cell? ⟨(ad.add (i.toNat * 3)).block, (ad.add (i.toNat * 3)).off + 1, none⟩ = some (.slice A1 (aN xs i).f1.length c1) ∧ w.cell? ⟨(ad.add (i.toNat * 3)).block, (ad.add (i.toNat * 3)).off + 2, none⟩ = some (.slice A2 (aN xs i).f2.length c2) ∧ (aN xs i).f0.length ≤ c0 ∧ pU.C w A0 (aN xs i).f0.length (aN xs i).f0 ∧ (aN xs i).f1.length ≤ c1 ∧ Kd.string.C w A1 (aN xs i).f1.length (aN xs i).f1 ∧ (aN xs i).f2.length ≤ c2 ∧ k28.C w A2 (aN xs i).f2.length (aN xs i).f2 := by
 obtain ⟨ad, c, e, _, hK, hc0⟩ := Kd.aar h z28 i h0 h1
 have hc : ∀ j u, c[j]? = some u → w.cell? (ad.add (i.toNat * 3 + j)) = some u := hc0
 obtain ⟨A0, c0, A1, c1, A2, c2, rfl, l0, g0, l1, g1, l2, g2⟩ := ad8 hK
 exact ⟨ad, A0, c0, A1, c1, A2, c2, e, hc 0 _ rfl, by rw [← Nq _ _ 1 (by omega)]; exact hc 1 _ rfl, by rw [← Nq _ _ 2 (by omega)]; exact hc 2 _ rfl, l0, g0, l1, g1, l2, g2⟩
theorem apL (d : Nat) (w : World) (x0 y0 : ByteArray) (x1 y1 : ByteArray) :
  (Op.equalIn (d + 2) 69 (.agg #[.string x0, .string x1]) (.agg #[.string y0, .string y1])).run Tryz.prog w = .ok (x0.toList == y0.toList && (x1.toList == y1.toList)) w := by
 refine amR Tryz.underlying69 (by kernel_rfl) ?_
 refine ad9 (by rfl) (by go_simp; rfl) (by go_simp; rfl) (by go_simp) ?_
 exact ad_ (by rfl) (by go_simp; rfl) (by go_simp; rfl) (by go_simp)
set_option maxHeartbeats 8000000
set_option maxRecDepth 100000
mutual
def iO.f : Nat → List (gK) → List ByteArray → List (mV) → Option ((List (gK)) × List ByteArray × (List (mV)))
 | 0, _, _, _ => none
 | k + 1, dG, cO, aC => (some (([] : List (gK)) : List (gK))).bind fun Qx => (if Qx.length + dG.length < 4398046511104 then ((some (([] : List ByteArray) : List ByteArray)).bind fun Qy => (if Qy.length + cO.length < 8796093022208 then ((gy.l0 k (([] : List (mV))) aC (aC.length : Int) 0).bind fun Xc => (some ((Qx ++ dG), (Qy ++ cO), Xc))) else (none))) else (none))
def gy.l0 : Nat → List (mV) → List (mV) → Int → Int → Option ((List (mV)))
 | 0, _, _, _, _ => none
 | k + 1, x3, x7, x8, x9 => if x9 < x8 then (if 0 ≤ x9 then (if x9 < (x7.length : Int) then ((iO.f k ((aN x7 x9).f0) ((aN x7 x9).f1) ((aN x7 x9).f2)).bind fun aea => (if x3.length < 1954687338268 then (gy.l0 k (x3 ++ [(⟨aea.1, aea.2.1, aea.2.2⟩ : mV)]) x7 x8 (wrap64 (x9 + 1))) else (none))) else (none)) else (none)) else (some x3)
end
def gy.f (k : Nat) (l0 : List (mV)) : Option ((List (mV))) := gy.l0 k (([] : List (mV))) l0 (l0.length : Int) 0
theorem iO.YR (k : Nat) (dG : List (gK)) (cO : List ByteArray) (aC : List (mV)) : iO.f (k + 1) dG cO aC = ((some (([] : List (gK)) : List (gK))).bind fun Qx => (if Qx.length + dG.length < 4398046511104 then ((some (([] : List ByteArray) : List ByteArray)).bind fun Qy => (if Qy.length + cO.length < 8796093022208 then ((gy.f k aC).bind fun Xc => (some ((Qx ++ dG), (Qy ++ cO), Xc))) else (none))) else (none))) := by simp only [iO.f, gy.f]
theorem iO.pair (k : Nat) : (∀ (jl : Option Addr) (jm : Nat) (dG : List (gK)) (ji : Option Addr) (jk : Nat) (cO : List ByteArray) (iC : Option Addr) (fM : Nat) (aC : List (mV)) (r1 : List (gK)) (r2 : List ByteArray) (r3 : List (mV)) (w : World) (mW : Kd.C pU w jl dG.length dG) (mX : dG.length ≤ jm) (mY : Kd.C Kd.string w ji cO.length cO) (mZ : cO.length ≤ jk) (jY : Kd.C k28 w iC aC.length aC) (jZ : aC.length ≤ fM) (h : iO.f k dG cO aC = some (r1, r2, r3)),
  Calls Tryz.prog 61 #[.agg #[.slice jl dG.length jm, .slice ji cO.length jk, .slice iC aC.length fM]] w fun e w' => ∃ rY F7 Iw : Value, e = .returned (.agg #[rY, F7, Iw]) ∧ Kd.R pU 69 w' w.heap.size (fun _ => True) rY r1 ∧ Kd.R Kd.string 9 w' w.heap.size (fun _ => True) F7 r2 ∧ Kd.R k28 28 w' w.heap.size (fun k_ => some k_ ≠ (rY : Value).ownBlock ∧ some k_ ≠ (F7 : Value).ownBlock) Iw r3 ∧ Below w.heap.size w w') ∧
  (∀ (A0 : Option Addr) (c0 : Nat) (l0 : List (mV)) (r : List (mV)) (w : World) (hr0 : Kd.C k28 w A0 l0.length l0) (hc0 : l0.length ≤ c0) (h : gy.f k l0 = some r),
  Calls Tryz.prog 104 #[.slice A0 l0.length c0] w fun e w' => ∃ rY : Value, e = .returned (rY) ∧ Kd.R k28 28 w' w.heap.size (fun _ => True) rY r ∧ Below w.heap.size w w') := by
 induction k using Nat.strongRecOn with
 | _ k ih =>
 refine ⟨?_, ?_⟩
 ·
  cases k with
  | zero => intro jl jm dG ji jk cO iC fM aC r1 r2 r3 w mW mX mY mZ jY jZ h; exact absurd h (by simp [iO.f])
  | succ k =>
  have ihB := (ih k (Nat.lt_succ_self k)).2
  clear ih
  intro jl jm dG ji jk cO iC fM aC r1 r2 r3 w mW mX mY mZ jY jZ h
  rw [iO.YR] at h
  have Et := Tryz.underlying28
  have qE := ak mW
  have qX := ak mX
  clear mW mX
  have uH := ak mY
  have wY := ak mZ
  clear mY mZ
  have jQ := ak jY
  have nC := ak jZ
  clear jY jZ
  have HB := ak (Below.refl w.heap.size w)
  have H : ((some (([] : List (gK)) : List (gK))).bind fun Qx => (if Qx.length + dG.length < 4398046511104 then ((some (([] : List ByteArray) : List ByteArray)).bind fun Qy => (if Qy.length + cO.length < 8796093022208 then ((gy.f k aC).bind fun Xc => (some ((Qx ++ dG), (Qy ++ cO), Xc))) else (none))) else (none))) = some (r1, r2, r3) := h
  clear h
  replace H := ny H
  obtain ⟨Qx, apM, H⟩ := H
  replace H := nl H; obtain ⟨amS, H⟩ := H
  obtain ⟨aeb, ajE⟩ := nm (Qx ++ dG)
  rw [← ajE.out] at H
  replace H := ny H
  obtain ⟨Qy, apN, H⟩ := H
  replace H := nl H; obtain ⟨ac2, H⟩ := H
  obtain ⟨amT, ajF⟩ := nm (Qy ++ cO)
  rw [← ajF.out] at H
  replace H := bd H; obtain ⟨Xc, A4, H⟩ := H
  obtain ⟨rfl, rfl, rfl⟩ := s3 H
  go_enter Tryz.func61, Tryz.ntmps61
  go_wp2_with (first | (refine bX HB 1 #[.slice jl dG.length jm, .slice ji cO.length jk, .slice iC aC.length fM] 28 ?_; intro aec w5 xH aBz hb; replace HB := bs HB hb; clear hb) | (refine bY HB 2 #[.slice none 0 0, .slice none 0 0, .slice none 0 0] 28 ?_; intro aat w6 DT aBA hg hb; have ac3 := Au xH hg; have ac4 := Aw xH hg; replace xH := kb xH hb; replace HB := bz HB hb; clear hb hg) | (refine F8 3 pU 69 apM ?_; intro ayu w7 ho8 hb; have aau := ak (Kd.aG ho8 (aj bb)); replace xH := kb xH hb; replace DT := kb DT hb; replace HB := bz HB hb; clear hb ho8; have ayv := ac3.out; have ayw := ac4.out; have z10 := ku xH.out) | ((with_reducible refine dN (b := .append) (xs := #[.tmp 3, .tmp 5]) rfl ?_); at_builtin; refine Kd.nP pU (w0 := w) w.heap.size rfl (.tmp 3) (.tmp 5) 25 69 (.agg #[(.string ⟨#[]⟩), (.string ⟨#[]⟩)]) 32 rfl Tryz.underlying25 xB rfl (by decide) (by omega) ayu Qx dG _ _ _ (fun _ => True) (fun _ => False) rfl rfl ?aO ?aR (fun _ _ h => h) (fun _ h => h.elim) ?aF ?aB ?aS ?aL ?_; (case aR => repeat (first | exact (Kd.aW qE.out HB.out) | (with_reducible refine Kd.pV ?_ _) | (with_reducible refine Kd.pW ?_ _) | (with_reducible refine Kd.sU ?_))); (case aB => exact bb); (case aF => exact (fun _ _ => trivial)); (case aO => exact (ur aau.out)); (case aS => exact (aj bb)); (case aL => have := amS.out; omega); intro aEj U2 ho hb hg hat; rw [← ajE.out] at ho; have OJ := ak (ho); replace xH := ak (bM (g := aec) (o := .cells #[.slice jl dG.length jm, .slice ji cO.length jk, .slice iC aC.length fM] 28 (0, 0)) (ub xH.out) hg (Kd.nO aau.out xH.out (by decide))); replace DT := ak (bM (g := aat) (o := .cells #[.slice none 0 0, .slice none 0 0, .slice none 0 0] 28 (0, 0)) (ub DT.out) hg (Kd.nO aau.out DT.out (by decide))); replace HB := ak (hb); clear ho hb hg hat aau; obtain ⟨I4, Ie, YS⟩ := Kd.aX OJ.out; subst YS; have z13 := ku xH.out) | (refine F8 8 Kd.string 9 apN ?_; intro ayx Tc Px hb; have Xd := ak (Kd.aG Px (aj bb)); replace OJ := rg OJ hb; replace xH := kp xH #[.slice I4 aeb.length Ie, .slice ji cO.length jk, .slice iC aC.length fM] hb; replace DT := kp DT #[.slice none 0 0, .slice none 0 0, .slice none 0 0] hb; replace HB := bz HB hb; clear hb Px; have z16 := ku xH.out) | ((with_reducible refine dN (b := .append) (xs := #[.tmp 8, .tmp 10]) rfl ?_); at_builtin; refine Kd.nP Kd.string (w0 := w) w.heap.size rfl (.tmp 8) (.tmp 10) 23 9 (.string ⟨#[]⟩) 16 rfl Tryz.underlying23 info9 rfl (by decide) (by omega) ayx Qy cO _ _ _ (fun _ => True) (fun _ => False) rfl rfl ?aO ?aR (fun _ _ h => h) (fun _ h => h.elim) ?aF ?aB ?aS ?aL ?_; (case aR => repeat (first | exact (Kd.aW uH.out HB.out) | (with_reducible refine Kd.pV ?_ _) | (with_reducible refine Kd.pW ?_ _) | (with_reducible refine Kd.sU ?_))); (case aB => exact bb); (case aF => exact (fun _ _ => trivial)); (case aO => exact (ur Xd.out)); (case aS => exact (aj bb)); (case aL => have := ac2.out; omega); intro aEk w17 ho hb hg hat; rw [← ajF.out] at ho; have aav := ak (ho); replace xH := ak (bM (g := aec) (o := .cells #[.slice I4 aeb.length Ie, .slice ji cO.length jk, .slice iC aC.length fM] 28 (0, 0)) (ub xH.out) hg (Kd.nO Xd.out xH.out (by decide))); replace DT := ak (bM (g := aat) (o := .cells #[.slice none 0 0, .slice none 0 0, .slice none 0 0] 28 (0, 0)) (ub DT.out) hg (Kd.nO Xd.out DT.out (by decide))); replace OJ := ak (Kd.nZ (ur OJ.out) (Kd.jM (ur Xd.out)) (by decide) hg); replace HB := ak (hb); clear ho hb hg hat Xd; obtain ⟨Ig, Ih, ac5⟩ := Kd.aX aav.out; subst ac5; have z19 := ku xH.out) | (refine gV Tryz.func104 (ihB _ _ aC Xc _ (Kd.aW jQ.out bb) nC.out A4.out) ?_; rintro aEl w20 ⟨ho0, hb⟩; have apO := ak (Kd.aG (Kd.oI (Kd.oI (Kd.fK (Kd.fK ho0 (Kd.jH (rh OJ))) (Kd.jH (rh aav))) (g := aec) (o := .cells #[.slice I4 aeb.length Ie, .slice Ig amT.length Ih, .slice iC aC.length fM] 28 (0, 0)) bq) (g := aat) (o := .cells #[.slice none 0 0, .slice none 0 0, .slice none 0 0] 28 (0, 0)) bq) (aj bb)); replace OJ := rg OJ hb; replace aav := rg aav hb; replace xH := kp xH #[.slice I4 aeb.length Ie, .slice Ig amT.length Ih, .slice iC aC.length fM] hb; replace DT := kp DT #[.slice none 0 0, .slice none 0 0, .slice none 0 0] hb; replace HB := bz HB hb; clear hb; (try clear ho0); obtain ⟨JH, JI, U3⟩ := Kd.aX apO.out; subst U3; have z22 := ku xH.out; have z23 := ku DT.out))
  refine bodyPost_ret (results_cell_row rfl _ _ aat 28 #[.slice I4 aeb.length Ie, .slice Ig amT.length Ih, .slice JH Xc.length JI] (0, 0) _ rfl bq Tryz.underlying28 rfl (by kernel_rfl)) rfl ?_
  exact ⟨_, _, _, er, rr, rr, rr, bb⟩
 ·
  intro A0 c0 l0 r w hr0 hc0 h
  have Et := Tryz.underlying28
  have HR0 := ak hr0
  have zq := ak hc0
  clear hr0 hc0
  have HB := ak (Below.refl w.heap.size w)
  have H : (gy.l0 k (([] : List (mV))) l0 (l0.length : Int) 0) = some r := h
  clear h
  obtain ⟨y101, ajG⟩ := nm ([] : List (mV))
  rw [← ajG.out] at H
  have H' := ak H; clear H
  go_enter Tryz.func104, Tryz.ntmps104
  go_wp2_with (refine F8 6 k28 28 ajG ?_; intro aEm w2 ho3 hb; have apP := ak (Kd.aG ho3 (aj (ul HB.out))); replace HB := bs HB hb; clear hb ho3)
  go_loopg [3, 9] k (fun kq v3 v9 w' => ∃ (dZ : List (mV)) (yN : Int), v9 = .int .i64 yN ∧ ah (gy.l0 kq dZ l0 (l0.length : Int) yN = some r) ∧ ah (kq ≤ k) ∧ ah (Kd.R k28 28 w' w.heap.size (fun _ => True) v3 dZ) ∧ ah (Below w.heap.size w w'))
  case atStart => exact ⟨_, _, rs, H', ⟨Nat.le_refl _⟩, ⟨ur apP.out⟩, ⟨ul HB.out⟩⟩
  case round =>
   clear H'
   obtain ⟨dZ, yN, rfl, HA, yB, qm, HB⟩ := hrel
   cases gk with
   | zero => exact zz HA.out
   | succ k1 =>
    obtain ⟨H⟩ := HA
    simp only [gy.l0] at H
    replace H := sd H
    rcases H with ⟨rC, H⟩ | ⟨rC, H⟩
    ·
     replace H := oN H; obtain ⟨nR, H⟩ := H; replace H := oN H; obtain ⟨oJ, H⟩ := H; replace H := bd H
     obtain ⟨⟨aed, t109, Xe⟩, A7, H⟩ := H
     (try dsimp only at H)
     replace H := nl H; obtain ⟨amU, H⟩ := H
     obtain ⟨y115, ajH⟩ := nm (dZ ++ [(⟨aed, t109, Xe⟩ : mV)])
     rw [← ajH.out] at H
     have H' := ak H; clear H
     have Qz := zi yN
     have QA := zj yN l0.length
     obtain ⟨ajI, I5, I7, I8, I9, I_, Ja, aee, P9, aaw, aax, aay, aaz, aaA, aaB, aaC, aaD⟩ := zD HR0.out yN Qz QA
     cases aee
     replace P9 := cl HB.out P9
     replace aaw := cl HB.out aaw
     replace aax := cl HB.out aax
     have ahz := ak aaz
     have ahA := ak aay
     clear aaz aay
     have ahB := ak aaB
     have ahC := ak aaA
     clear aaB aaA
     have ahD := ak aaD
     have ahE := ak aaC
     clear aaD aaC
     replace Qz := eq_true Qz
     replace QA := eq_true QA
     go_wp2_with (first | (refine bY HB 5 #[.slice none 0 0, .slice none 0 0, .slice none 0 0] 28 ?_; intro Aa w9 uy aef hg hb; replace qm := ak (Kd.rD (Kd.wB (ur qm.out) Aa (Nat.le_of_eq hg.symm)) hb); replace HB := bs HB hb; clear hb hg; have z10 := ku uy.out) | (refine gL 61 15 Tryz.func61 #[.agg #[.slice I5 ((aN l0 yN).f0).length I7, .slice I8 ((aN l0 yN).f1).length I9, .slice I_ ((aN l0 yN).f2).length Ja]] ?_; (with_reducible refine ((ih k1 (by have := yB.out; omega)).1 _ _ ((aN l0 yN).f0) _ _ ((aN l0 yN).f1) _ _ ((aN l0 yN).f2) aed t109 Xe _ (Kd.aW ahz.out bb) ahA.out (Kd.aW ahB.out bb) ahC.out (Kd.aW ahD.out bb) ahE.out A7.out).mono ?_); rintro e U2 ⟨v107, aEn, aEo, rfl, ho0, ho1, ho2, hb⟩; refine ⟨_, rfl, ?_⟩; have aeg := ak (Kd.aG ho0 (aj bb)); have aeh := ak (Kd.aG ho1 (aj bb)); have aei := ak (Kd.aG (Kd.oI (Kd.fK ho2 (Kd.jH (ur (Kd.aY (Kd.jy (p := ⟨Aa, 2, none⟩) (Kd.jy (p := ⟨Aa, 1, none⟩) (Kd.jy (p := ⟨Aa, 0, none⟩) (Kd.aY qm.out (fun k_ hk => (⟨hk, hk.2⟩ : _ ∧ k_ ≠ Aa))) (fun _ hk => hk.2) (.slice I5 ((aN l0 yN).f0).length I7)) (fun _ hk => hk.2) (.slice I8 ((aN l0 yN).f1).length I9)) (fun _ hk => hk.2) (.slice I_ ((aN l0 yN).f2).length Ja)) (fun _ h_ => h_.1))))) (g := Aa) (o := .cells #[.slice I5 ((aN l0 yN).f0).length I7, .slice I8 ((aN l0 yN).f1).length I9, .slice I_ ((aN l0 yN).f2).length Ja] 28 (0, 0)) bq) (aj bb)); replace qm := ak (Kd.aY (Kd.qR (Kd.qR (Kd.qR (Kd.aej (ur (Kd.aY (Kd.jy (p := ⟨Aa, 2, none⟩) (Kd.jy (p := ⟨Aa, 1, none⟩) (Kd.jy (p := ⟨Aa, 0, none⟩) (Kd.aY qm.out (fun k_ hk => (⟨hk, hk.2⟩ : _ ∧ k_ ≠ Aa))) (fun _ hk => hk.2) (.slice I5 ((aN l0 yN).f0).length I7)) (fun _ hk => hk.2) (.slice I8 ((aN l0 yN).f1).length I9)) (fun _ hk => hk.2) (.slice I_ ((aN l0 yN).f2).length Ja)) (fun _ h_ => h_.1))) hb) (Kd.eH ho0)) (Kd.eH ho1)) (Kd.eH ho2)) (fun _ h_ => h_.1)); replace uy := kp uy #[.slice I5 ((aN l0 yN).f0).length I7, .slice I8 ((aN l0 yN).f1).length I9, .slice I_ ((aN l0 yN).f2).length Ja] hb; replace HB := bz HB hb; clear hb; (try clear ho0); (try clear ho1); (try clear ho2); obtain ⟨U4, Ii, QB⟩ := Kd.aX aeg.out; subst QB; obtain ⟨Xf, Xg, U5⟩ := Kd.aX aeh.out; subst U5; obtain ⟨Nr, Ns, U6⟩ := Kd.aX aei.out; subst U6) | ((with_reducible refine dN (b := .append) (xs := #[.tmp 13, .tmp 16]) rfl ?_); at_builtin; refine Kd.oP k28 (w0 := w) w.heap.size rfl (.tmp 13) (.tmp 16) 26 28 (.agg #[(.slice none 0 0), (.slice none 0 0), (.slice none 0 0)]) 72 rfl Tryz.underlying26 U0 rfl (by decide) (by omega) u3 dZ (⟨aed, t109, Xe⟩ : mV) [.slice U4 aed.length Ii, .slice Xf t109.length Xg, .slice Nr Xe.length Ns] (fun k_ => k_ ≠ Aa) (fun k_ => ((fun k_ => k_ ≠ Aa)) k_ ∧ some k_ ≠ (u3 : Value).ownBlock) rfl rfl ?aP (fun _ hk => hk) ?aF ?aO ?aB ?aS ?aL ?_; (case aP => exact P8 _ _ _ (⟨aed, t109, Xe⟩ : mV) (Kd.aY (Kd.kE (Kd.qF (aeg.out) (Kd.jM qm.out) (by decide)) uy.out (by decide)) (fun k_ hk => ⟨hk.2, hk.1.2⟩)) (Kd.aY (Kd.kE (Kd.qF (aeh.out) (Kd.jM qm.out) (by decide)) uy.out (by decide)) (fun k_ hk => ⟨hk.2, hk.1.2⟩)) (Kd.aY (aei.out) (fun k_ hk => ⟨hk.2, hk.1.2⟩))); (case aB => exact bb); (case aF => exact (fun k_ hk => Kd.zF (g := Aa) (o := .cells #[.slice I5 ((aN l0 yN).f0).length I7, .slice I8 ((aN l0 yN).f1).length I9, .slice I_ ((aN l0 yN).f2).length Ja] 28 (0, 0)) (ub uy.out) k_ hk)); (case aO => exact (ur (Kd.aY qm.out (fun _ hk => hk.1.1.1.2)))); (case aS => exact (aj bb)); (case aL => have := amU.out; omega); intro aEp w12 ho hb hg hat; rw [← ajH.out] at ho; have apQ := ak (ho); replace uy := ak (bM (g := Aa) (o := .cells #[.slice I5 ((aN l0 yN).f0).length I7, .slice I8 ((aN l0 yN).f1).length I9, .slice I_ ((aN l0 yN).f2).length Ja] 28 (0, 0)) (ub uy.out) hg (Kd.Az qm.out (fun _ hk => hk.1.1.1.2))); replace HB := ak (hb); clear ho hb hg hat qm aeg aeh aei))
     go_roundg k1
     case measure => exact kl
     case rel => exact ⟨_, _, rs, H', ⟨kl⟩, ⟨ur (Kd.aY apQ.out (fun _ hk => trivial))⟩, ⟨bb⟩⟩
    ·
     obtain rfl := s1 H
     go_wp2
     go_ret
     exact ⟨_, er, ur qm.out, ul HB.out⟩
theorem iO.calls {k jm jk fM : Nat} {jl ji iC : Option Addr} {dG r1 : List (gK)} {cO r2 : List ByteArray} {aC r3 : List (mV)} {w : World} (mW : Kd.C pU w jl dG.length dG) (mX : dG.length ≤ jm) (mY : Kd.C Kd.string w ji cO.length cO) (mZ : cO.length ≤ jk) (jY : Kd.C k28 w iC aC.length aC) (jZ : aC.length ≤ fM) (h : iO.f k dG cO aC = some (r1, r2, r3)) :
  Calls Tryz.prog 61 #[.agg #[.slice jl dG.length jm, .slice ji cO.length jk, .slice iC aC.length fM]] w fun e w' => ∃ rY F7 Iw : Value, e = .returned (.agg #[rY, F7, Iw]) ∧ Kd.R pU 69 w' w.heap.size (fun _ => True) rY r1 ∧ Kd.R Kd.string 9 w' w.heap.size (fun _ => True) F7 r2 ∧ Kd.R k28 28 w' w.heap.size (fun k_ => some k_ ≠ (rY : Value).ownBlock ∧ some k_ ≠ (F7 : Value).ownBlock) Iw r3 ∧ Below w.heap.size w w' := (iO.pair k).1 jl jm dG ji jk cO iC fM aC r1 r2 r3 w mW mX mY mZ jY jZ h
theorem gy.calls {k c0 : Nat} {A0 : Option Addr} {l0 r : List (mV)} {w : World} (hr0 : Kd.C k28 w A0 l0.length l0) (hc0 : l0.length ≤ c0) (h : gy.f k l0 = some r) :
  Calls Tryz.prog 104 #[.slice A0 l0.length c0] w fun e w' => ∃ rY : Value, e = .returned (rY) ∧ Kd.R k28 28 w' w.heap.size (fun _ => True) rY r ∧ Below w.heap.size w w' := (iO.pair k).2 A0 c0 l0 r w hr0 hc0 h
set_option maxHeartbeats 8000000
set_option maxRecDepth 100000
mutual
def aQ.l0 : Nat → ByteArray → Int → Option (Bool)
 | 0, _, _ => none
 | k + 1, x0, x3 => if x3 < (x0.size : Int) then (aQ.j1 k x0 x3 (decide (x3 ≤ 200))) else (aQ.j1 k x0 x3 false)
def aQ.j1 : Nat → ByteArray → Int → Bool → Option (Bool)
 | 0, _, _, _ => none
 | k + 1, x0, x3, x11 => if x11 = true then (if 0 ≤ x3 then (if x3 < (x0.size : Int) then (if (bt x0 x3) < 32 then (some false) else (if (bt x0 x3) > 126 then (some false) else (aQ.l0 k x0 (wrap64 (x3 + 1))))) else (none)) else (none)) else (some (decide ((x0.size : Int) ≤ 200)))
end
def aQ.f (k : Nat) (a0 : ByteArray) : Option (Bool) := aQ.l0 k a0 0
theorem aQ.calls {k : Nat} {a0 : ByteArray} {r : Bool} {w : World} (h : aQ.f k a0 = some r) :
  Calls Tryz.prog 159 #[.string a0] w fun e w' => e = .returned (.bool r) ∧ dW w w' := by
 unfold aQ.f at h; have H := h
 clear h
 have H' := ak H; clear H
 go_enter Tryz.func159, Tryz.ntmps159
 go_wp2
 go_loopg [3] k (fun kq v3 w' => ∃ (dZ : Int), v3 = .int .i64 dZ ∧ ah (aQ.l0 kq a0 dZ = some r) ∧ ah (kq ≤ k) ∧ dW w w')
 case atStart => exact ⟨_, rs, H', ⟨Nat.le_refl _⟩, dn⟩
 case round =>
  clear H'
  obtain ⟨dZ, rfl, HA, yB, ⟨m1, rfl⟩⟩ := hrel
  cases gk with
  | zero => exact zz HA.out
  | succ k1 =>
   obtain ⟨H⟩ := HA
   simp only [aQ.l0] at H
   have HC2 := ak H
   clear H
   go_upto_region 2 with (fail)
   go_cut [11] (fun v11 wc => ∃ (kq : Nat) (wG : Bool), v11 = .bool wG ∧ ah (aQ.j1 kq a0 dZ wG = some r) ∧ ah (kq ≤ k1) ∧ dW w wc)
   case first =>
    have H := HC2.out
    clear HC2
    replace H := sd H
    rcases H with ⟨iP, H⟩ | ⟨iP, H⟩
    ·
     (first | rw [iP] | (simp only [eu, f_]; rw [iP]) | skip)
     have H' := ak H; clear H
     go_wp2
     go_meet
     case rel => exact ⟨_, _, rs, H', ⟨kl⟩, dn⟩
    ·
     (first | rw [iP] | (simp only [eu, f_]; rw [iP]) | skip)
     have H' := ak H; clear H
     go_wp2
     go_meet
     case rel => exact ⟨_, _, rs, H', ⟨kl⟩, dn⟩
   case rest =>
    clear HC2
    obtain ⟨kq, wG, rfl, HA, HJ1, ⟨mc1, rfl⟩⟩ := hcut
    cases kq with
    | zero => exact zz HA.out
    | succ Py =>
     obtain ⟨H⟩ := HA
     simp only [aQ.j1] at H
     replace H := sb H
     rcases H with ⟨rfl, H⟩ | ⟨rfl, H⟩
     ·
      replace H := oN H; obtain ⟨nR, H⟩ := H; replace H := oN H; obtain ⟨oJ, H⟩ := H; replace H := sd H
      rcases H with ⟨uj, H⟩ | ⟨uj, H⟩
      ·
       obtain rfl := s1 H
       obtain ⟨p7, q7, hx7⟩ := bx a0 dZ
       go_wp2
       go_ret
       exact ⟨rs, dn⟩
      ·
       replace H := sp H
       rcases H with ⟨c10, H⟩ | ⟨c10, H⟩
       ·
        have pF : decide (126 < (bt a0 dZ)) = true := decide_eq_true c10
        clear c10
        obtain rfl := s1 H
        obtain ⟨p7, q7, hx7⟩ := bx a0 dZ
        obtain ⟨p9, q9, YP⟩ := bx a0 dZ
        go_wp2
        go_ret
        exact ⟨rs, dn⟩
       ·
        have pF : decide (126 < (bt a0 dZ)) = false := decide_eq_false c10
        clear c10
        have H' := ak H; clear H
        obtain ⟨p7, q7, hx7⟩ := bx a0 dZ
        obtain ⟨p9, q9, YP⟩ := bx a0 dZ
        go_wp2
        go_roundg Py
        case measure => exact kl
        case rel => exact ⟨_, rs, H', ⟨kl⟩, dn⟩
     ·
      obtain rfl := s1 H
      go_wp2
      go_ret
      exact ⟨rs, dn⟩
mutual
def bW.j1 : Nat → ByteArray → Option (ByteArray)
 | 0, _ => none
 | k + 1, x0 => bW.l1 k x0
def bW.l1 : Nat → ByteArray → Option (ByteArray)
 | 0, _ => none
 | k + 1, x0 => if (x0.size : Int) > 0 then (if 0 ≤ (wrap64 ((x0.size : Int) - 1)) then (if (wrap64 ((x0.size : Int) - 1)) < (x0.size : Int) then (if (bt x0 (wrap64 ((x0.size : Int) - 1))) = 32 then (if (wrap64 ((x0.size : Int) - 1)) ≤ (x0.size : Int) then (bW.l1 k (x0.extract 0 ((wrap64 ((x0.size : Int) - 1)) : Int).toNat)) else (none)) else (some x0)) else (none)) else (none)) else (some x0)
def bW.l0 : Nat → ByteArray → Option (ByteArray)
 | 0, _ => none
 | k + 1, x0 => if (x0.size : Int) > 0 then (if 0 < (x0.size : Int) then (if (bt x0 0) = 32 then (if 1 ≤ (x0.size : Int) then (bW.l0 k (x0.extract 1 x0.size)) else (none)) else (bW.j1 k x0)) else (none)) else (bW.j1 k x0)
end
def bW.f (k : Nat) (a0 : ByteArray) : Option (ByteArray) := bW.l0 k a0
theorem bW.calls {k : Nat} {a0 r : ByteArray} {w : World} (h : bW.f k a0 = some r) :
  Calls Tryz.prog 179 #[.string a0] w fun e w' => e = .returned (.string r) ∧ dW w w' := by
 unfold bW.f at h; have H := h
 clear h
 have HC2 := ak H
 clear H
 go_enter Tryz.func179, Tryz.ntmps179
 go_upto_block 0 with (fail)
 go_cut [0] (fun v0 wc => ∃ (kq : Nat) (sJ : ByteArray), v0 = .string sJ ∧ ah (bW.j1 kq sJ = some r) ∧ ah (kq ≤ k) ∧ dW w wc)
 case first =>
  have H := HC2.out
  clear HC2
  have H' := ak H; clear H
  go_wp2
  go_loopg [0] k (fun kq v0 w' => ∃ (sJ : ByteArray), v0 = .string sJ ∧ ah (bW.l0 kq sJ = some r) ∧ ah (kq ≤ k) ∧ dW w w')
  case atStart => exact ⟨_, rs, H', ⟨Nat.le_refl _⟩, dn⟩
  case round =>
   clear H'
   obtain ⟨sJ, rfl, HA, yB, ⟨m1, rfl⟩⟩ := hrel
   cases gk with
   | zero => exact zz HA.out
   | succ k1 =>
    obtain ⟨H⟩ := HA
    simp only [bW.l0] at H
    replace H := sp H
    rcases H with ⟨c3, H⟩ | ⟨c3, H⟩
    ·
     have iP : decide (0 < (sJ.size : Int)) = true := decide_eq_true c3
     have yU : decide (0 < sJ.size) = true := decide_eq_true (by omega)
     clear c3
     (first | rw [iP] | (simp only [eu, f_]; rw [iP]) | skip)
     replace H := nn H; obtain ⟨c4, H⟩ := H
     have rC := decide_eq_true c4
     have Td : decide (0 < sJ.size) = true := decide_eq_true (by omega)
     clear c4
     replace H := sq H
     rcases H with ⟨oJ, yT, H⟩ | ⟨c6, oJ, yT, H⟩
     ·
      replace H := Ba H; obtain ⟨sH, Nw, H⟩ := H
      have H' := ak H; clear H
      have p5 : 0 ≤ (0 : Int) := (by omega)
      have q5 : 0 < sJ.size := (by have : (0 : Int) < (sJ.size : Int) := of_decide_eq_true (by assumption); omega)
      have hx5 : ∀ h : 0 < sJ.size, ((sJ[0]'h).toNat : Int) = bt sJ 0 := xg sJ 0
      clear p5
      have qi5 : (0 < (sJ.size : Int)) = True := eq_true (of_decide_eq_true (by assumption))
      replace q5 := eq_true q5
      go_wp2
      go_roundg k1
      case measure => exact kl
      case rel => exact ⟨_, rs, H', ⟨kl⟩, dn⟩
     ·
      have H' := ak H; clear H
      have p5 : 0 ≤ (0 : Int) := (by omega)
      have q5 : 0 < sJ.size := (by have : (0 : Int) < (sJ.size : Int) := of_decide_eq_true (by assumption); omega)
      have hx5 : ∀ h : 0 < sJ.size, ((sJ[0]'h).toNat : Int) = bt sJ 0 := xg sJ 0
      clear p5
      have qi5 : (0 < (sJ.size : Int)) = True := eq_true (of_decide_eq_true (by assumption))
      replace q5 := eq_true q5
      go_wp2
      go_meet
      case rel => exact ⟨_, _, rs, H', ⟨kl⟩, dn⟩
    ·
     have iP : decide (0 < (sJ.size : Int)) = false := decide_eq_false c3
     have yU : decide (0 < sJ.size) = false := decide_eq_false (by omega)
     clear c3
     (first | rw [iP] | (simp only [eu, f_]; rw [iP]) | skip)
     have H' := ak H; clear H
     go_wp2
     go_meet
     case rel => exact ⟨_, _, rs, H', ⟨kl⟩, dn⟩
 case rest =>
  clear HC2
  obtain ⟨kq, sJ, rfl, HA, HJ1, ⟨mc1, rfl⟩⟩ := hcut
  cases kq with
  | zero => exact zz HA.out
  | succ Py =>
   obtain ⟨H⟩ := HA
   simp only [bW.j1] at H
   have H' := ak H; clear H
   go_wp2
   go_loopg [0] Py (fun kq v0 w' => ∃ (Ij : ByteArray), v0 = .string Ij ∧ ah (bW.l1 kq Ij = some r) ∧ ah (kq ≤ Py) ∧ dW w w')
   case atStart => exact ⟨_, rs, H', ⟨Nat.le_refl _⟩, dn⟩
   case round =>
    clear H'
    obtain ⟨Ij, rfl, HA, HK2, ⟨m2, rfl⟩⟩ := hrel
    cases gk with
    | zero => exact zz HA.out
    | succ k2 =>
     obtain ⟨H⟩ := HA
     simp only [bW.l1] at H
     replace H := sp H
     rcases H with ⟨c8, H⟩ | ⟨c8, H⟩
     ·
      have uj : decide (0 < (Ij.size : Int)) = true := decide_eq_true c8
      have DU : decide (0 < Ij.size) = true := decide_eq_true (by omega)
      clear c8
      obtain ⟨QH, Jb⟩ : ∃ j_ : Int, (wrap64 ((Ij.size : Int) - 1)) = j_ := ⟨_, rfl⟩
      replace H : (if 0 ≤ (QH) then (if (QH) < (Ij.size : Int) then (if (bt Ij (QH)) = 32 then (if (QH) ≤ (Ij.size : Int) then (bW.l1 k2 (Ij.extract 0 ((QH) : Int).toNat)) else (none)) else (some Ij)) else (none)) else (none)) = some r := by first | (rw [Jb] at H; exact H) | (simp only [Jb] at H ⊢; exact H)
      have ajY : (IntKind.i64.wrap ((Ij.size : Int) - 1)) = QH := (eu _).trans Jb
      replace H := oN H; obtain ⟨pF, H⟩ := H; replace H := oN H; obtain ⟨vV, H⟩ := H; replace H := sq H
      rcases H with ⟨xk, AV, H⟩ | ⟨c13, xk, AV, H⟩
      ·
       have rQ := eq_true (of_decide_eq_true (by assumption) : 0 ≤ (QH))
       replace H := Ba H; obtain ⟨xq, Gi, H⟩ := H
       have H' := ak H; clear H
       obtain ⟨p12, q12, am3⟩ := bx Ij (QH)
       go_wp2
       go_roundg k2
       case measure => exact kl
       case rel => exact ⟨_, (by first | rfl | (simp; done) | (simp only [← Jb] <;> (first | rfl | simp)) | (simp [*]; done)), H', ⟨kl⟩, dn⟩
      ·
       obtain rfl := s1 H
       obtain ⟨p12, q12, am3⟩ := bx Ij (QH)
       go_wp2
       go_ret
       exact ⟨by first | rfl | (simp; done) | (simp only [← Jb] <;> (first | rfl | simp)) | (simp [*]; done), dn⟩
     ·
      have uj : decide (0 < (Ij.size : Int)) = false := decide_eq_false c8
      have DU : decide (0 < Ij.size) = false := decide_eq_false (by omega)
      clear c8
      obtain rfl := s1 H
      go_wp2
      go_ret
      exact ⟨rs, dn⟩
def iq.f (a0 : Int) : Option (Bool) := if a0 ≥ 97 then (if a0 ≤ 122 then (some true) else (if a0 ≥ 65 then (if a0 ≤ 90 then (some true) else (if a0 ≥ 48 then (some (decide (a0 ≤ 57))) else (some false))) else (if a0 ≥ 48 then (some (decide (a0 ≤ 57))) else (some false)))) else (if a0 ≥ 65 then (if a0 ≤ 90 then (some true) else (if a0 ≥ 48 then (some (decide (a0 ≤ 57))) else (some false))) else (if a0 ≥ 48 then (some (decide (a0 ≤ 57))) else (some false)))
theorem iq.calls {a0 : Int} {r : Bool} {w : World} (h : iq.f a0 = some r) :
  Calls Tryz.prog 183 #[.int .u8 a0] w fun e w' => e = .returned (.bool r) ∧ dW w w' := by
 unfold iq.f at h; have H := h
 clear h
 replace H := sp H
 rcases H with ⟨c2, H⟩ | ⟨c2, H⟩
 ·
  have o_ : decide (97 ≤ a0) = true := decide_eq_true c2
  clear c2
  replace H := sd H
  rcases H with ⟨iP, H⟩ | ⟨iP, H⟩
  ·
   obtain rfl := s1 H
   go_enter Tryz.func183, Tryz.ntmps183
   go_wp2
   go_ret
   exact ⟨rs, dn⟩
  ·
   replace H := sp H
   rcases H with ⟨c4, H⟩ | ⟨c4, H⟩
   ·
    have rC : decide (65 ≤ a0) = true := decide_eq_true c4
    clear c4
    replace H := sd H
    rcases H with ⟨nR, H⟩ | ⟨nR, H⟩
    ·
     obtain rfl := s1 H
     go_enter Tryz.func183, Tryz.ntmps183
     go_wp2
     go_ret
     exact ⟨rs, dn⟩
    ·
     replace H := sp H
     rcases H with ⟨c6, H⟩ | ⟨c6, H⟩
     ·
      have oJ : decide (48 ≤ a0) = true := decide_eq_true c6
      clear c6
      obtain rfl := s1 H
      go_enter Tryz.func183, Tryz.ntmps183
      go_wp2
      go_ret
      exact ⟨rs, dn⟩
     ·
      have oJ : decide (48 ≤ a0) = false := decide_eq_false c6
      clear c6
      obtain rfl := s1 H
      go_enter Tryz.func183, Tryz.ntmps183
      go_wp2
      go_ret
      exact ⟨rs, dn⟩
   ·
    have rC : decide (65 ≤ a0) = false := decide_eq_false c4
    clear c4
    replace H := sp H
    rcases H with ⟨c7, H⟩ | ⟨c7, H⟩
    ·
     have sH : decide (48 ≤ a0) = true := decide_eq_true c7
     clear c7
     obtain rfl := s1 H
     go_enter Tryz.func183, Tryz.ntmps183
     go_wp2
     go_ret
     exact ⟨rs, dn⟩
    ·
     have sH : decide (48 ≤ a0) = false := decide_eq_false c7
     clear c7
     obtain rfl := s1 H
     go_enter Tryz.func183, Tryz.ntmps183
     go_wp2
     go_ret
     exact ⟨rs, dn⟩
 ·
  have o_ : decide (97 ≤ a0) = false := decide_eq_false c2
  clear c2
  replace H := sp H
  rcases H with ⟨c8, H⟩ | ⟨c8, H⟩
  ·
   have uj : decide (65 ≤ a0) = true := decide_eq_true c8
   clear c8
   replace H := sd H
   rcases H with ⟨zu, H⟩ | ⟨zu, H⟩
   ·
    obtain rfl := s1 H
    go_enter Tryz.func183, Tryz.ntmps183
    go_wp2
    go_ret
    exact ⟨rs, dn⟩
   ·
    replace H := sp H
    rcases H with ⟨c10, H⟩ | ⟨c10, H⟩
    ·
     have pF : decide (48 ≤ a0) = true := decide_eq_true c10
     clear c10
     obtain rfl := s1 H
     go_enter Tryz.func183, Tryz.ntmps183
     go_wp2
     go_ret
     exact ⟨rs, dn⟩
    ·
     have pF : decide (48 ≤ a0) = false := decide_eq_false c10
     clear c10
     obtain rfl := s1 H
     go_enter Tryz.func183, Tryz.ntmps183
     go_wp2
     go_ret
     exact ⟨rs, dn⟩
  ·
   have uj : decide (65 ≤ a0) = false := decide_eq_false c8
   clear c8
   replace H := sp H
   rcases H with ⟨c11, H⟩ | ⟨c11, H⟩
   ·
    have vV : decide (48 ≤ a0) = true := decide_eq_true c11
    clear c11
    obtain rfl := s1 H
    go_enter Tryz.func183, Tryz.ntmps183
    go_wp2
    go_ret
    exact ⟨rs, dn⟩
   ·
    have vV : decide (48 ≤ a0) = false := decide_eq_false c11
    clear c11
    obtain rfl := s1 H
    go_enter Tryz.func183, Tryz.ntmps183
    go_wp2
    go_ret
    exact ⟨rs, dn⟩
mutual
def b_.l0 : Nat → ByteArray → Int → Option (Bool)
 | 0, _, _ => none
 | k + 1, x0, x3 => if x3 < (x0.size : Int) then (b_.j1 k x0 x3 (decide (x3 ≤ 30))) else (b_.j1 k x0 x3 false)
def b_.j1 : Nat → ByteArray → Int → Bool → Option (Bool)
 | 0, _, _, _ => none
 | k + 1, x0, x3, x11 => if x11 = true then (if 0 ≤ x3 then (if x3 < (x0.size : Int) then ((iq.f (bt x0 x3)).bind fun aqz => (if aqz = true then (if x3 = 0 then (if (bt x0 x3) ≤ 57 then (some false) else (b_.l0 k x0 (wrap64 (x3 + 1)))) else (b_.l0 k x0 (wrap64 (x3 + 1)))) else (if (bt x0 x3) = 45 then (if x3 = 0 then (if (bt x0 x3) ≤ 57 then (some false) else (b_.l0 k x0 (wrap64 (x3 + 1)))) else (b_.l0 k x0 (wrap64 (x3 + 1)))) else (some false)))) else (none)) else (none)) else (if (x0.size : Int) ≥ 1 then (some (decide ((x0.size : Int) ≤ 30))) else (some false))
end
def b_.f (k : Nat) (a0 : ByteArray) : Option (Bool) := b_.l0 k a0 0
theorem b_.calls {k : Nat} {a0 : ByteArray} {r : Bool} {w : World} (h : b_.f k a0 = some r) :
  Calls Tryz.prog 184 #[.string a0] w fun e w' => e = .returned (.bool r) ∧ dW w w' := by
 unfold b_.f at h; have H := h
 clear h
 have H' := ak H; clear H
 go_enter Tryz.func184, Tryz.ntmps184
 go_wp2
 go_loopg [3] k (fun kq v3 w' => ∃ (dZ : Int), v3 = .int .i64 dZ ∧ ah (b_.l0 kq a0 dZ = some r) ∧ ah (kq ≤ k) ∧ dW w w')
 case atStart => exact ⟨_, rs, H', ⟨Nat.le_refl _⟩, dn⟩
 case round =>
  clear H'
  obtain ⟨dZ, rfl, HA, yB, ⟨m1, rfl⟩⟩ := hrel
  cases gk with
  | zero => exact zz HA.out
  | succ k1 =>
   obtain ⟨H⟩ := HA
   simp only [b_.l0] at H
   have HC2 := ak H
   clear H
   go_upto_region 2 with (fail)
   go_cut [11] (fun v11 wc => ∃ (kq : Nat) (wG : Bool), v11 = .bool wG ∧ ah (b_.j1 kq a0 dZ wG = some r) ∧ ah (kq ≤ k1) ∧ dW w wc)
   case first =>
    have H := HC2.out
    clear HC2
    replace H := sd H
    rcases H with ⟨iP, H⟩ | ⟨iP, H⟩
    ·
     (first | rw [iP] | (simp only [eu, f_]; rw [iP]) | skip)
     have H' := ak H; clear H
     go_wp2
     go_meet
     case rel => exact ⟨_, _, rs, H', ⟨kl⟩, dn⟩
    ·
     (first | rw [iP] | (simp only [eu, f_]; rw [iP]) | skip)
     have H' := ak H; clear H
     go_wp2
     go_meet
     case rel => exact ⟨_, _, rs, H', ⟨kl⟩, dn⟩
   case rest =>
    clear HC2
    obtain ⟨kq, wG, rfl, HA, HJ1, ⟨mc1, rfl⟩⟩ := hcut
    cases kq with
    | zero => exact zz HA.out
    | succ Py =>
     obtain ⟨H⟩ := HA
     simp only [b_.j1] at H
     replace H := sb H
     rcases H with ⟨rfl, H⟩ | ⟨rfl, H⟩
     ·
      replace H := oN H; obtain ⟨nR, H⟩ := H; replace H := oN H; obtain ⟨oJ, H⟩ := H; replace H := bd H; obtain ⟨aqz, A8, H⟩ := H; replace H := sb H
      rcases H with ⟨rfl, H⟩ | ⟨rfl, H⟩
      ·
       replace H := sq H
       rcases H with ⟨pF, uI, H⟩ | ⟨c10, pF, uI, H⟩
       ·
        replace H := sd H
        rcases H with ⟨yV, H⟩ | ⟨yV, H⟩
        ·
         obtain rfl := s1 H
         obtain ⟨p7, q7, hx7⟩ := bx a0 dZ
         go_wp2_with (refine gA Tryz.func183 (iq.calls A8.out) ?_; intro nd; have p11 : 0 ≤ (dZ : Int) := of_decide_eq_true (by assumption); have q11 : dZ < (a0.size : Int) := of_decide_eq_true (by assumption); have Xr := xg a0 dZ; replace p11 := eq_true p11; replace q11 := eq_true q11)
         go_ret
         exact ⟨rs, dn⟩
        ·
         have H' := ak H; clear H
         obtain ⟨p7, q7, hx7⟩ := bx a0 dZ
         go_wp2_with (refine gA Tryz.func183 (iq.calls A8.out) ?_; intro nd; have p11 : 0 ≤ (dZ : Int) := of_decide_eq_true (by assumption); have q11 : dZ < (a0.size : Int) := of_decide_eq_true (by assumption); have Xr := xg a0 dZ; replace p11 := eq_true p11; replace q11 := eq_true q11)
         go_roundg Py
         case measure => exact kl
         case rel => exact ⟨_, rs, H', ⟨kl⟩, dn⟩
       ·
        have H' := ak H; clear H
        obtain ⟨p7, q7, hx7⟩ := bx a0 dZ
        go_wp2_with (refine gA Tryz.func183 (iq.calls A8.out) ?_; intro nd)
        go_roundg Py
        case measure => exact kl
        case rel => exact ⟨_, rs, H', ⟨kl⟩, dn⟩
      ·
       replace H := sq H
       rcases H with ⟨rQ, xO, H⟩ | ⟨c14, rQ, xO, H⟩
       ·
        replace H := sq H
        rcases H with ⟨xq, Gi, H⟩ | ⟨c15, xq, Gi, H⟩
        ·
         replace H := sd H
         rcases H with ⟨uQ, H⟩ | ⟨uQ, H⟩
         ·
          obtain rfl := s1 H
          obtain ⟨p7, q7, hx7⟩ := bx a0 dZ
          go_wp2_with (refine gA Tryz.func183 (iq.calls A8.out) ?_; intro nd; have p13 : 0 ≤ (dZ : Int) := of_decide_eq_true (by assumption); have q13 : dZ < (a0.size : Int) := of_decide_eq_true (by assumption); have Y3 := xg a0 dZ; replace p13 := eq_true p13; replace q13 := eq_true q13; have p16 : 0 ≤ (dZ : Int) := of_decide_eq_true (by assumption); have q16 : dZ < (a0.size : Int) := of_decide_eq_true (by assumption); have hx16 := xg a0 dZ; replace p16 := eq_true p16; replace q16 := eq_true q16)
          go_ret
          exact ⟨rs, dn⟩
         ·
          have H' := ak H; clear H
          obtain ⟨p7, q7, hx7⟩ := bx a0 dZ
          go_wp2_with (refine gA Tryz.func183 (iq.calls A8.out) ?_; intro nd; have p13 : 0 ≤ (dZ : Int) := of_decide_eq_true (by assumption); have q13 : dZ < (a0.size : Int) := of_decide_eq_true (by assumption); have Y3 := xg a0 dZ; replace p13 := eq_true p13; replace q13 := eq_true q13; have p16 : 0 ≤ (dZ : Int) := of_decide_eq_true (by assumption); have q16 : dZ < (a0.size : Int) := of_decide_eq_true (by assumption); have hx16 := xg a0 dZ; replace p16 := eq_true p16; replace q16 := eq_true q16)
          go_roundg Py
          case measure => exact kl
          case rel => exact ⟨_, rs, H', ⟨kl⟩, dn⟩
        ·
         have H' := ak H; clear H
         obtain ⟨p7, q7, hx7⟩ := bx a0 dZ
         go_wp2_with (refine gA Tryz.func183 (iq.calls A8.out) ?_; intro nd; have p13 : 0 ≤ (dZ : Int) := of_decide_eq_true (by assumption); have q13 : dZ < (a0.size : Int) := of_decide_eq_true (by assumption); have Y3 := xg a0 dZ; replace p13 := eq_true p13; replace q13 := eq_true q13)
         go_roundg Py
         case measure => exact kl
         case rel => exact ⟨_, rs, H', ⟨kl⟩, dn⟩
       ·
        obtain rfl := s1 H
        obtain ⟨p7, q7, hx7⟩ := bx a0 dZ
        go_wp2_with (refine gA Tryz.func183 (iq.calls A8.out) ?_; intro nd; have p13 : 0 ≤ (dZ : Int) := of_decide_eq_true (by assumption); have q13 : dZ < (a0.size : Int) := of_decide_eq_true (by assumption); have Y3 := xg a0 dZ; replace p13 := eq_true p13; replace q13 := eq_true q13)
        go_ret
        exact ⟨rs, dn⟩
     ·
      replace H := sp H
      rcases H with ⟨c18, H⟩ | ⟨c18, H⟩
      ·
       have AQ : decide (1 ≤ (a0.size : Int)) = true := decide_eq_true c18
       have QI : decide (1 ≤ a0.size) = true := decide_eq_true (by omega)
       clear c18
       obtain rfl := s1 H
       go_wp2
       go_ret
       exact ⟨rs, dn⟩
      ·
       have AQ : decide (1 ≤ (a0.size : Int)) = false := decide_eq_false c18
       have QI : decide (1 ≤ a0.size) = false := decide_eq_false (by omega)
       clear c18
       obtain rfl := s1 H
       go_wp2
       go_ret
       exact ⟨rs, dn⟩
def jv.f (k : Nat) (fC : ByteArray) (fH : ByteArray) : Option (Bool) := (b_.f k fC).bind fun aqA => (if aqA = true then ((aQ.f k fH).bind fun aqB => (if aqB = true then (if (fH.size : Int) ≤ 150 then ((bW.f k fH).bind fun aqC => (some (aqC.toList == fH.toList))) else (some false)) else (some false))) else (some false))
theorem jv.calls {k : Nat} {fC fH : ByteArray} {r : Bool} {w : World} (h : jv.f k fC fH = some r) :
  Calls Tryz.prog 158 #[.agg #[.string fC, .string fH]] w fun e w' => e = .returned (.bool r) ∧ Below w.heap.size w w' := by
 have DK := Tryz.underlying69
 have HB := ak (Below.refl w.heap.size w)
 unfold jv.f at h; have H := h
 clear h
 replace H := bd H; obtain ⟨aqA, A2, H⟩ := H; replace H := sb H
 rcases H with ⟨rfl, H⟩ | ⟨rfl, H⟩
 ·
  replace H := bd H; obtain ⟨aqB, A4, H⟩ := H; replace H := sb H
  rcases H with ⟨rfl, H⟩ | ⟨rfl, H⟩
  ·
   replace H := sp H
   rcases H with ⟨c6, H⟩ | ⟨c6, H⟩
   ·
    have oJ := decide_eq_true c6
    have yT : decide (fH.size ≤ 150) = true := decide_eq_true (by omega)
    clear c6
    replace H := bd H; obtain ⟨aqC, A7, H⟩ := H
    obtain rfl := s1 H
    go_enter Tryz.func158, Tryz.ntmps158
    go_wp2_with (first | (refine gG 1 ?_; refine bX HB 1 #[.string fC, .string fH] 69 ?_; intro Gj w8 wH Gl hb; replace HB := bs HB hb; clear hb; have z9 := AX wH.out) | (go_at_call 184; refine mA (b_.calls A2.out) ?_; intro nd; (try exact dq)) | (go_at_call 159; refine mA (aQ.calls A4.out) ?_; intro nd; (try exact dq)) | (go_at_call 179; refine mA (bW.calls A7.out) ?_; intro nd; (try exact dq)))
    repeat (go_quiet (first | (refine gG 1 ?_; refine bX HB 1 #[.string fC, .string fH] 69 ?_; intro Gj w8 wH Gl hb; replace HB := bs HB hb; clear hb; have z9 := AX wH.out) | (go_at_call 184; refine mA (b_.calls A2.out) ?_; intro nd; (try exact dq)) | (go_at_call 159; refine mA (aQ.calls A4.out) ?_; intro nd; (try exact dq)) | (go_at_call 179; refine mA (bW.calls A7.out) ?_; intro nd; (try exact dq))); try go_wp2_with (first | (refine gG 1 ?_; refine bX HB 1 #[.string fC, .string fH] 69 ?_; intro Gj w8 wH Gl hb; replace HB := bs HB hb; clear hb; have z9 := AX wH.out) | (go_at_call 184; refine mA (b_.calls A2.out) ?_; intro nd; (try exact dq)) | (go_at_call 159; refine mA (aQ.calls A4.out) ?_; intro nd; (try exact dq)) | (go_at_call 179; refine mA (bW.calls A7.out) ?_; intro nd; (try exact dq))))
    go_ret
    exact ⟨er, bb⟩
   ·
    have oJ := decide_eq_false c6
    have yT : decide (fH.size ≤ 150) = false := decide_eq_false (by omega)
    clear c6
    obtain rfl := s1 H
    go_enter Tryz.func158, Tryz.ntmps158
    go_wp2_with (first | (refine gG 1 ?_; refine bX HB 1 #[.string fC, .string fH] 69 ?_; intro Gj w10 wH Gl hb; replace HB := bs HB hb; clear hb; have z11 := AX wH.out) | (go_at_call 184; refine mA (b_.calls A2.out) ?_; intro nd; (try exact dq)) | (go_at_call 159; refine mA (aQ.calls A4.out) ?_; intro nd; (try exact dq)))
    repeat (go_quiet (first | (refine gG 1 ?_; refine bX HB 1 #[.string fC, .string fH] 69 ?_; intro Gj w10 wH Gl hb; replace HB := bs HB hb; clear hb; have z11 := AX wH.out) | (go_at_call 184; refine mA (b_.calls A2.out) ?_; intro nd; (try exact dq)) | (go_at_call 159; refine mA (aQ.calls A4.out) ?_; intro nd; (try exact dq))); try go_wp2_with (first | (refine gG 1 ?_; refine bX HB 1 #[.string fC, .string fH] 69 ?_; intro Gj w10 wH Gl hb; replace HB := bs HB hb; clear hb; have z11 := AX wH.out) | (go_at_call 184; refine mA (b_.calls A2.out) ?_; intro nd; (try exact dq)) | (go_at_call 159; refine mA (aQ.calls A4.out) ?_; intro nd; (try exact dq))))
    go_ret
    exact ⟨er, bb⟩
  ·
   obtain rfl := s1 H
   go_enter Tryz.func158, Tryz.ntmps158
   go_wp2_with (first | (refine gG 1 ?_; refine bX HB 1 #[.string fC, .string fH] 69 ?_; intro Gj w12 wH Gl hb; replace HB := bs HB hb; clear hb; have z13 := AX wH.out) | (go_at_call 184; refine mA (b_.calls A2.out) ?_; intro nd; (try exact dq)) | (go_at_call 159; refine mA (aQ.calls A4.out) ?_; intro nd; (try exact dq)))
   repeat (go_quiet (first | (refine gG 1 ?_; refine bX HB 1 #[.string fC, .string fH] 69 ?_; intro Gj w12 wH Gl hb; replace HB := bs HB hb; clear hb; have z13 := AX wH.out) | (go_at_call 184; refine mA (b_.calls A2.out) ?_; intro nd; (try exact dq)) | (go_at_call 159; refine mA (aQ.calls A4.out) ?_; intro nd; (try exact dq))); try go_wp2_with (first | (refine gG 1 ?_; refine bX HB 1 #[.string fC, .string fH] 69 ?_; intro Gj w12 wH Gl hb; replace HB := bs HB hb; clear hb; have z13 := AX wH.out) | (go_at_call 184; refine mA (b_.calls A2.out) ?_; intro nd; (try exact dq)) | (go_at_call 159; refine mA (aQ.calls A4.out) ?_; intro nd; (try exact dq))))
   go_ret
   exact ⟨er, bb⟩
 ·
  obtain rfl := s1 H
  go_enter Tryz.func158, Tryz.ntmps158
  go_wp2_with (first | (refine gG 1 ?_; refine bX HB 1 #[.string fC, .string fH] 69 ?_; intro Gj Tc wH Gl hb; replace HB := bs HB hb; clear hb; have OH := AX wH.out) | (go_at_call 184; refine mA (b_.calls A2.out) ?_; intro nd; (try exact dq)))
  repeat (go_quiet (first | (refine gG 1 ?_; refine bX HB 1 #[.string fC, .string fH] 69 ?_; intro Gj Tc wH Gl hb; replace HB := bs HB hb; clear hb; have OH := AX wH.out) | (go_at_call 184; refine mA (b_.calls A2.out) ?_; intro nd; (try exact dq))); try go_wp2_with (first | (refine gG 1 ?_; refine bX HB 1 #[.string fC, .string fH] 69 ?_; intro Gj Tc wH Gl hb; replace HB := bs HB hb; clear hb; have OH := AX wH.out) | (go_at_call 184; refine mA (b_.calls A2.out) ?_; intro nd; (try exact dq))))
  go_ret
  exact ⟨er, bb⟩
set_option maxHeartbeats 8000000
set_option maxRecDepth 100000
/-- A state of type 109 at block g of W; what its slices lead to came in by w0. -/
def aI (w0 W : World) (g : Nat) (f0 : List Int) (f1 : Int) : Prop := ∃ A0 c0, W.heap[g]? = some (.cells #[.slice A0 f0.length c0, .int .i64 f1] 109 (0, 0)) ∧ w0.heap.size ≤ g ∧ Kd.C (Kd.int .u8) w0 A0 f0.length f0
theorem aI.grown {w0 W : World} {g : Nat} {f0 : List Int} {f1 : Int} {W1 : World} {row : Option Nat} (h : aI w0 W g f0 f1) (hw : W.grownBy W1 row) (hne : some g ≠ row) : aI w0 W1 g f0 f1 := by
 obtain ⟨A0, c0, hb, hg, hr0⟩ := h
 exact ⟨A0, c0, bM hb hw hne, hg, hr0⟩
theorem aI.fresh {w0 W : World} {g : Nat} {f0 : List Int} {f1 : Int} (h : aI w0 W g f0 f1) : ∀ k, W.heap.size ≤ k → k ≠ g := by
 obtain ⟨A0, c0, hb, hg, hr0⟩ := h
 exact Kd.zF hb
theorem aI.kept {w0 W : World} {g : Nat} {f0 : List Int} {f1 : Int} {W1 : World} {S : Nat → Prop} (h : aI w0 W g f0 f1) (hk : Kept W W1 S) (hne : ¬ S g) : aI w0 W1 g f0 f1 := by
 obtain ⟨A0, c0, hb, hg, hr0⟩ := h
 exact ⟨A0, c0, ae5 hb hk hne, hg, hr0⟩
theorem aI.below {w0 W : World} {g : Nat} {f0 : List Int} {f1 : Int} {W1 : World} (h : aI w0 W g f0 f1) (hw : Below W.heap.size W W1) : aI w0 W1 g f0 f1 := h.grown (Gt hw none) (by simp)
theorem aI.alloc {w0 W : World} {g : Nat} {f0 : List Int} {f1 : Int} (h : aI w0 W g f0 f1) (o : Obj) : aI w0 (W.alloc o) g f0 f1 := h.below (nH (Below.refl _ _) o)
theorem aI.drewN {w0 W : World} {g : Nat} {f0 : List Int} {f1 : Int} (h : aI w0 W g f0 f1) (m : Nat) : aI w0 (W.drewN m) g f0 f1 := h
theorem aI.drew {w0 W : World} {g : Nat} {f0 : List Int} {f1 : Int} (h : aI w0 W g f0 f1) : aI w0 W.drew g f0 f1 := h
theorem aI.at_ {w0 W : World} {g : Nat} {f0 : List Int} {f1 : Int} {w' : World} {m : Nat} (hq : W.drewN m = w') (h : aI w0 W g f0 f1) : aI w0 w' g f0 f1 := by subst hq; exact aI.drewN h m
theorem aI.apart {w0 W : World} {g : Nat} {f0 : List Int} {f1 : Int} {α : Type} {d : Kd α} {e : Nat} {base : Nat} {ok : Nat → Prop} {v : Value} {xs : List α} (h : aI w0 W g f0 f1) (ho : d.R e W base ok v xs) (ht : ∀ q, q ∈ e :: d.E → q ≠ 109) : d.R e W base (fun k => ok k ∧ k ≠ g) v xs := by
 obtain ⟨A0, c0, hb, hg, hr0⟩ := h
 exact Kd.kE ho hb ht
theorem aI.own_ne {w0 W : World} {g : Nat} {f0 : List Int} {f1 : Int} {α : Type} {d : Kd α} {e : Nat} {base : Nat} {ok : Nat → Prop} {v : Value} {xs : List α} (h : aI w0 W g f0 f1) (ho : d.R e W base ok v xs) (ht : e ≠ 109) : some g ≠ v.ownBlock := by
 obtain ⟨A0, c0, hb, hg, hr0⟩ := h
 exact Kd.nO ho hb ht
theorem aI.lt {w0 W : World} {g : Nat} {f0 : List Int} {f1 : Int} (h : aI w0 W g f0 f1) : g < W.heap.size := by
 obtain ⟨A0, c0, hb, hg, hr0⟩ := h
 exact vM hb
theorem aI.ge {w0 W : World} {g : Nat} {f0 : List Int} {f1 : Int} (h : aI w0 W g f0 f1) : w0.heap.size ≤ g := by
 obtain ⟨A0, c0, hb, hg, hr0⟩ := h
 exact hg
theorem aI.ae6 {w0 W : World} {g : Nat} {f0 : List Int} {f1 : Int} {a : Nat} {cs : Array Value} {t : TypeId} {fr : Nat × Nat} (h : aI w0 W g f0 f1) (hb2 : W.heap[a]? = some (.cells cs t fr)) (ht : t ≠ 109) : g ≠ a := by
 obtain ⟨A0, c0, hb, hg, hr0⟩ := h
 rintro rfl
 rw [hb] at hb2
 injection hb2 with hb2
 injection hb2 with _ ht2
 exact ht ht2.symm
theorem aI.far {w0 W : World} {g : Nat} {f0 : List Int} {f1 : Int} {p : Addr} (h : aI w0 W g f0 f1) (hne : g ≠ p.block) (u : Value) : aI w0 (W.setCell p u) g f0 f1 := by
 obtain ⟨A0, c0, hb, hg, hr0⟩ := h
 exact ⟨A0, c0, qp hb hne u, hg, hr0⟩
theorem EG {W : World} {g : Nat} {A0 : Option Addr} {c0 : Nat} {f0 : List Int} {f1 : Int} (h : W.heap[g]? = some (.cells #[.slice A0 f0.length c0, .int .i64 f1] 109 (0, 0))) : W.cell? ⟨g, 0, none⟩ = some (.slice A0 f0.length c0) := (aA h 0).trans rfl
theorem EH {W : World} {g : Nat} {A0 : Option Addr} {c0 : Nat} {f0 : List Int} {f1 : Int} (h : W.heap[g]? = some (.cells #[.slice A0 f0.length c0, .int .i64 f1] 109 (0, 0))) : W.cell? ⟨g, 1, none⟩ = some (.int .i64 f1) := (aA h 1).trans rfl
theorem aI.asX {w0 W : World} {g : Nat} {f0 : List Int} {f1 : Int} (h : aI w0 W g f0 f1) (x : Int) : aI w0 (W.setCell ⟨g, 1, none⟩ (.int .i64 x)) g f0 x := by
 obtain ⟨A0, c0, hb, hg, hr0⟩ := h
 exact ⟨A0, c0, by simpa using VH hb 1 (.int .i64 x), hg, hr0⟩
theorem aI.new (w0 W : World) (A0 : Option Addr) (c0 : Nat) (f0 : List Int) (f1 : Int) (hB : Below w0.heap.size w0 W) (hr0 : Kd.C (Kd.int .u8) w0 A0 f0.length f0) : aI w0 (W.alloc (.cells #[.slice A0 f0.length c0, .int .i64 f1] 109)) W.heap.size f0 f1 := ⟨A0, c0, by simpa using heap_alloc_new W _, hB.size, hr0⟩
/-! words on the state -/
theorem pX {p : Prop} (h : p := by repeat (first | (with_reducible first | exact ah.out (by assumption) | apply aI.alloc | apply aI.drewN | apply aI.drew | apply aI.asX | refine aI.far ?_ (ah.out (by assumption)) _) | exact ah.out (by assumption))) : p := h
theorem pY {p : Prop} (h : p := by repeat (first | (with_reducible first | exact ah.out (by assumption) | apply nH | apply qG | apply iy | refine Bl ?_ (aI.ge (ah.out (by assumption))) | refine Bl ?_ (ah.out (by assumption))) | exact ah.out (by assumption))) : p := h
theorem bS {P : Program} {ops : Array Oper} {o : Oper} {rest : List Oper} {a : Act} {Q : Exit → Act → World → Prop} {w0 w W c1 c2 c3 : World} {g : Nat} {f0 : List Int} {f1 f2 : Int} (_HI : ah (aI w0 c1 g f0 f1)) (_HK : ah (aJ w c2 g none)) (_HB : ah (Below w0.heap.size w0 c3)) (HW : ah (w0.heap.size ≤ w.heap.size)) (N : Nat) (cs : Array Value) (t : TypeId)
  (h : ∀ b w1, ah (w1.heap[b]? = some (.cells cs t (0, 0))) → ah (w.heap.size ≤ b) → ah (w0.heap.size ≤ b) → ah (g ≠ b) → ah (b ≠ g) → b = W.heap.size → Below W.heap.size W w1 → ah (aI w0 w1 g f0 f2) → ah (aJ w w1 g none) → ah (Below w0.heap.size w0 w1) → wpList P ops Q rest (a.put o.dst (.pointer (some ⟨b, 0, none⟩))) w1)
  (hd : o.dst = some N := by with_reducible rfl) (hg : o.guard = none := by with_reducible rfl) (hr : (execOp a.eval o).run P W = .ok (.value (.pointer (some ⟨W.heap.size, 0, none⟩))) (W.alloc (.cells cs t (0, 0))) := by first | (go_simp; done) | (go_simp; rfl)) (hI : aI w0 W g f0 f2 := by exact pX) (hK : aJ w W g none := by exact kk) (hB : Below w0.heap.size w0 W := by exact pY) : wpList P ops Q (o :: rest) a W :=
 bE N cs t (fun b hb w1 h1 hw => h b w1 ⟨h1⟩ ⟨by rw [hb]; exact dR hK⟩ ⟨Nat.le_trans HW.out (by rw [hb]; exact dR hK)⟩ ⟨by rw [hb]; exact Nat.ne_of_lt hI.lt⟩ ⟨by rw [hb]; exact Nat.ne_of_gt hI.lt⟩ hb hw ⟨hI.below hw⟩ ⟨hK.trans (aJ.of_below hw g none) (.inl rfl)⟩ ⟨iL hB hw⟩) hd hg hr
theorem ki {α : Type} {d : Kd α} {e base : Nat} {ok : Nat → Prop} {v : Value} {xs : List α} {w0 a b c : World} {g : Nat} {f0 : List Int} {f1 : Int} (_old : ah (Kd.R d e a base ok v xs)) (hk : aJ b c g none) (hI : aI w0 b g f0 f1 := by exact pX) (h : Kd.R d e b base ok v xs := by exact rr) (ht : ∀ q, q ∈ e :: d.E → q ≠ 109 := by decide) : ah (Kd.R d e c base ok v xs) := ⟨Kd.aY (Kd.Jf (hI.apart h ht) hk (fun _ h => h.2)) (fun _ h => h.1)⟩
theorem kj {α β : Type} {d : Kd α} {e base : Nat} {ok : Nat → Prop} {v : Value} {xs : List α} {w0 a b c : World} {g : Nat} {f0 : List Int} {f1 : Int} {d' : Kd β} {e' : Nat} {ok' : Nat → Prop} {v' : Value} {ys : List β} (_old : ah (Kd.R d e a base ok v xs)) (hk : aJ b c g none) (ho : Kd.R d' e' c b.heap.size ok' v' ys) (hI : aI w0 b g f0 f1 := by exact pX) (h : Kd.R d e b base ok v xs := by exact rr) (ht : ∀ q, q ∈ e :: d.E → q ≠ 109 := by decide) : ah (Kd.R d e c base (fun k => ok k ∧ some k ≠ v'.ownBlock) v xs) := ⟨Kd.aY (Kd.qR (Kd.NS (hI.apart h ht) hk) (Kd.eH ho)) (fun _ h => h.1)⟩
def uY.f (l0 : List Int) : Option (List Int × Int) := if (l0.length : Int) > 2000 then (if 2000 ≤ (l0.length : Int) then (some (l0.take 2000, 0)) else (none)) else (some (l0, 0))
theorem uY.calls {A0 : Option Addr} {c0 : Nat} {l0 r1 : List Int} {r2 : Int} {w : World} (w0 : World) (hB : Below w0.heap.size w0 w) (hr0 : Kd.C (Kd.int .u8) w0 A0 l0.length l0) (hc0 : l0.length ≤ c0) (h : uY.f l0 = some (r1, r2)) :
  Calls Tryz.prog 55 #[.slice A0 l0.length c0] w fun e w' => ∃ g_ : Nat, e = .returned (.pointer (some ⟨g_, 0, none⟩)) ∧ aI w0 w' g_ r1 r2 ∧ Below w0.heap.size w0 w' ∧ Below w.heap.size w w' := by
 have aCp := Tryz.underlying109
 have HR0 := ak hr0
 have zq := ak hc0
 clear hr0 hc0
 have HBW := ak (Below.refl w.heap.size w)
 have HW0 := ak hB.size
 have HB := ak hB
 clear hB
 unfold uY.f at h; have H := h
 clear h
 replace H := sp H
 rcases H with ⟨c2, H⟩ | ⟨c2, H⟩
 ·
  have o_ : decide (2000 < (l0.length : Int)) = true := decide_eq_true c2
  have wu : decide (2000 < l0.length) = true := decide_eq_true (by omega)
  clear c2
  replace H := Ba H; obtain ⟨iP, yU, H⟩ := H
  obtain ⟨rfl, rfl⟩ := s2 H
  obtain ⟨i04, asY, _, asZ, _⟩ := info_parts info5
  obtain ⟨aCq, hA4, hC4⟩ := Tq (P := Tryz.prog) (Value.int .u8) 0 22 5 .i64 Tryz.underlying22 asY asZ A0 c0 l0 2000 (by omega) (of_decide_eq_true (by assumption)) zq.out
  have as1 := ak (Kd.Jg (h1 := fun _ => rfl) (hA4 _ (Kd.EI HR0.out)))
  have aCr := ak hC4
  clear hA4 hC4 asY asZ
  go_enter Tryz.func55, Tryz.ntmps55
  go_wp2_with (refine bE 10 #[.slice A0 (l0.take 2000).length c0, .int .i64 0] 109 ?_; intro ae7 hg w5 hbox hb; have as2 := ak (hbox); have aCs := ge_ HBW hg; have as3 := ak ((Nat.le_trans HW0.out (by rw [hg]; exact (aj (ul HBW.out)) : w.heap.size ≤ ae7) : w0.heap.size ≤ ae7)); replace HBW := ak (iL HBW.out hb); replace HB := bs HB hb; clear hb hbox hg)
  go_ret
  exact ⟨_, rfl, (show aI w0 _ ae7 (l0.take 2000) 0 from ⟨_, _, ub as2.out, as3.out, as1.out⟩), pY, bh HBW.out⟩
 ·
  have o_ : decide (2000 < (l0.length : Int)) = false := decide_eq_false c2
  have wu : decide (2000 < l0.length) = false := decide_eq_false (by omega)
  clear c2
  obtain ⟨rfl, rfl⟩ := s2 H
  go_enter Tryz.func55, Tryz.ntmps55
  go_wp2_with (refine bE 10 #[.slice A0 l0.length c0, .int .i64 0] 109 ?_; intro ae8 hg w6 hbox hb; have as4 := ak (hbox); have aCt := ge_ HBW hg; have as5 := ak ((Nat.le_trans HW0.out (by rw [hg]; exact (aj (ul HBW.out)) : w.heap.size ≤ ae8) : w0.heap.size ≤ ae8)); replace HBW := ak (iL HBW.out hb); replace HB := bs HB hb; clear hb hbox hg)
  go_ret
  exact ⟨_, rfl, (show aI w0 _ ae8 l0 0 from ⟨_, _, ub as4.out, as5.out, HR0.out⟩), pY, bh HBW.out⟩
def dF.j0 : Nat → Int → Bool → List Int → Int → Option (Int × Int)
 | 0, _, _, _, _ => none
 | k + 1, x1, x24, x1000, ql => if x24 = true then (some (0, ql)) else (if (wrap64 (ql - 1)) < (x1000.length : Int) then (if 0 ≤ (wrap64 (ql - 1)) then (if x1 = 0 then (none) else (some (Int.tmod (wrap64 (rd x1000 (wrap64 (ql - 1)))) x1, ql))) else (none)) else (if (x1000.length : Int) = 0 then (none) else (if 0 ≤ (Int.tmod (wrap64 (ql - 1)) (x1000.length : Int)) then (if (Int.tmod (wrap64 (ql - 1)) (x1000.length : Int)) < (x1000.length : Int) then (if 0 ≤ (Int.tmod (wrap64 ((wrap64 ((wrap64 (ql - 1)) * 7)) + 3)) (x1000.length : Int)) then (if (Int.tmod (wrap64 ((wrap64 ((wrap64 (ql - 1)) * 7)) + 3)) (x1000.length : Int)) < (x1000.length : Int) then (if x1 = 0 then (none) else (some (Int.tmod (Go.bits .xor .i64 (wrap64 ((wrap64 ((wrap64 ((wrap64 ((wrap64 (rd x1000 (Int.tmod (wrap64 (ql - 1)) (x1000.length : Int)))) * 131)) + (wrap64 ((wrap64 (rd x1000 (Int.tmod (wrap64 ((wrap64 ((wrap64 (ql - 1)) * 7)) + 3)) (x1000.length : Int)))) * 1117)))) + (wrap64 ((wrap64 (ql - 1)) * 29)))) + (wrap64 ((wrap64 (Int.tdiv (wrap64 (ql - 1)) (x1000.length : Int))) * 53)))) (wrap64 (Int.tdiv (wrap64 ((wrap64 ((wrap64 ((wrap64 ((wrap64 (rd x1000 (Int.tmod (wrap64 (ql - 1)) (x1000.length : Int)))) * 131)) + (wrap64 ((wrap64 (rd x1000 (Int.tmod (wrap64 ((wrap64 ((wrap64 (ql - 1)) * 7)) + 3)) (x1000.length : Int)))) * 1117)))) + (wrap64 ((wrap64 (ql - 1)) * 29)))) + (wrap64 ((wrap64 (Int.tdiv (wrap64 (ql - 1)) (x1000.length : Int))) * 53)))) 64))) x1, ql))) else (none)) else (none)) else (none)) else (none))))
def dF.f (k : Nat) (fO : List Int) (kZ : Int) (a1 : Int) : Option (Int × Int) := if a1 < 1 then (dF.j0 k a1 true fO (wrap64 (kZ + 1))) else (dF.j0 k a1 ((fO.length : Int) == 0) fO (wrap64 (kZ + 1)))
theorem dF.calls {k g : Nat} {fO : List Int} {kZ a1 r1 r2 : Int} {w : World} (w0 : World) (hI : aI w0 w g fO kZ) (hB : Below w0.heap.size w0 w) (h : dF.f k fO kZ a1 = some (r1, r2)) :
  Calls Tryz.prog 57 #[.pointer (some ⟨g, 0, none⟩), .int .i64 a1] w fun e w' => e = .returned (.int .i64 r1) ∧ aI w0 w' g fO r2 ∧ Below w0.heap.size w0 w' ∧ aJ w w' g none := by
 have HI0 := ak hI
 have HK := ak (aJ.refl w g none)
 have HL := ak hB.size
 clear hI
 have HW0 := ak hB.size
 have HB := ak hB
 clear hB
 unfold dF.f at h; have H := h
 clear h
 have QD := ak H
 clear H
 obtain ⟨azs, azt, aiw, azu, azv⟩ := HI0.out
 have aek := EG aiw
 have aoa := EH aiw
 have aob := iG aiw 1
 clear aiw azu
 go_enter Tryz.func57, Tryz.ntmps57
 go_upto_region 2 with (fail)
 repeat (go_quiet (fail); go_upto_region 2 with (fail))
 go_cut [24] (fun v24 wc => ∃ (kq : Nat) (mM : Bool), v24 = .bool mM ∧ ah (dF.j0 kq a1 mM fO (wrap64 (kZ + 1)) = some (r1, r2)) ∧ ah (kq ≤ k) ∧ ah (aI w0 wc g fO (wrap64 (kZ + 1))) ∧ ah (aJ w wc g none) ∧ ah (Below w0.heap.size w0 wc))
 case first =>
  have H := QD.out
  clear QD
  replace H := sd H
  rcases H with ⟨nR, H⟩ | ⟨nR, H⟩
  ·
   (first | rw [nR] | (simp only [eu, f_]; rw [nR]) | skip)
   have H' := ak H; clear H
   go_wp2
   repeat (go_quiet (fail); try go_wp2)
   go_meet
   case rel => exact ⟨_, _, rs, H', ⟨JF⟩, ⟨pX⟩, ⟨kh HK.out⟩, ⟨pY⟩⟩
  ·
   (first | rw [nR] | (simp only [eu, f_]; rw [nR]) | skip)
   have H' := ak H; clear H
   obtain ⟨azw, azx, aix, azy, azz⟩ := HI0.out
   have azA := EG aix
   have azB := EH aix
   have azC := iG aix 1
   clear aix azy
   go_wp2
   repeat (go_quiet (fail); try go_wp2)
   go_meet
   case rel => exact ⟨_, _, rs, H', ⟨JF⟩, ⟨pX⟩, ⟨kh HK.out⟩, ⟨pY⟩⟩
 case rest =>
  clear QD
  try clear aek
  try clear aoa
  try clear aob
  obtain ⟨kq, mM, rfl, HA, HJ2, HI0, HK, HB⟩ := hcut
  cases kq with
  | zero => exact zz HA.out
  | succ WX =>
   obtain ⟨H⟩ := HA
   simp only [dF.j0] at H
   replace H := sb H
   rcases H with ⟨rfl, H⟩ | ⟨rfl, H⟩
   ·
    obtain ⟨rfl, rfl⟩ := s2 H
    go_wp2
    repeat (go_quiet (fail); try go_wp2)
    go_ret
    exact ⟨er, pX, pY, kh HK.out⟩
   ·
    replace H := sp H
    rcases H with ⟨c8, H⟩ | ⟨c8, H⟩
    ·
     have uj := decide_eq_true c8
     (try (have DU : decide (((wrap64 (kZ + 1)) - 1) < (fO.length : Int)) = true := decide_eq_true (by have h_ := c8; unfold wrap64 at h_; omega)))
     clear c8
     obtain ⟨QH, Jb⟩ : ∃ j_ : Int, (wrap64 ((wrap64 (kZ + 1)) - 1)) = j_ := ⟨_, rfl⟩
     replace H : (if 0 ≤ (QH) then (if a1 = 0 then (none) else (some (Int.tmod (wrap64 (rd fO (QH))) a1, (wrap64 (kZ + 1))))) else (none)) = some (r1, r2) := by first | (rw [Jb] at H; exact H) | (simp only [Jb] at H ⊢; exact H)
     (try rw [Jb] at uj)
     have ajY : (IntKind.i64.wrap ((wrap64 (kZ + 1)) - 1)) = QH := (eu _).trans Jb
     replace H := oN H; obtain ⟨pF, H⟩ := H; replace H := sp H
     rcases H with ⟨c11, H⟩ | ⟨c11, H⟩
     ·
      exact absurd H (by simp)
     ·
      have vV := beq_eq_false_iff_ne.mpr c11
      have Fh := bne_iff_ne.mpr c11
      obtain ⟨rfl, rfl⟩ := s2 H
      obtain ⟨axG, axH, abC, as6, aiy⟩ := HI0.out
      have ahM := EG abC
      have axI := EH abC
      have axJ := iG abC 1
      clear abC as6
      have aoc := zi (QH)
      have aod := zj (QH) fO.length
      obtain ⟨aCu, azD, abD⟩ := Kd.VI aiy (QH) aoc aod
      cases azD
      replace abD := um HB.out abD
      replace aoc := eq_true aoc
      replace aod := eq_true aod
      go_wp2
      repeat (go_quiet (fail); try go_wp2)
      go_ret
      exact ⟨by first | rfl | (simp [yx, yA] <;> rfl) | (simp only [← Jb]; first | rfl | (simp [yx, yA] <;> rfl)) | (simp [*, yx, yA] <;> rfl), pX, pY, kh HK.out⟩
    ·
     have uj := decide_eq_false c8
     (try (have DU : decide (((wrap64 (kZ + 1)) - 1) < (fO.length : Int)) = false := decide_eq_false (by have h_ := c8; unfold wrap64 at h_; omega)))
     clear c8
     replace H := sp H
     rcases H with ⟨c13, H⟩ | ⟨c13, H⟩
     ·
      exact absurd H (by simp)
     ·
      have xk := beq_eq_false_iff_ne.mpr c13
      have AV := bne_iff_ne.mpr c13
      have aj0 : ¬ (fO = []) := fun h_ => c13 (by rw [h_]; rfl)
      obtain ⟨J9, J_⟩ : ∃ j_ : Int, (Int.tmod (wrap64 ((wrap64 (kZ + 1)) - 1)) (fO.length : Int)) = j_ := ⟨_, rfl⟩
      replace H : (if 0 ≤ (J9) then (if (J9) < (fO.length : Int) then (if 0 ≤ (Int.tmod (wrap64 ((wrap64 ((wrap64 ((wrap64 (kZ + 1)) - 1)) * 7)) + 3)) (fO.length : Int)) then (if (Int.tmod (wrap64 ((wrap64 ((wrap64 ((wrap64 (kZ + 1)) - 1)) * 7)) + 3)) (fO.length : Int)) < (fO.length : Int) then (if a1 = 0 then (none) else (some (Int.tmod (Go.bits .xor .i64 (wrap64 ((wrap64 ((wrap64 ((wrap64 ((wrap64 (rd fO (J9))) * 131)) + (wrap64 ((wrap64 (rd fO (Int.tmod (wrap64 ((wrap64 ((wrap64 ((wrap64 (kZ + 1)) - 1)) * 7)) + 3)) (fO.length : Int)))) * 1117)))) + (wrap64 ((wrap64 ((wrap64 (kZ + 1)) - 1)) * 29)))) + (wrap64 ((wrap64 (Int.tdiv (wrap64 ((wrap64 (kZ + 1)) - 1)) (fO.length : Int))) * 53)))) (wrap64 (Int.tdiv (wrap64 ((wrap64 ((wrap64 ((wrap64 ((wrap64 (rd fO (J9))) * 131)) + (wrap64 ((wrap64 (rd fO (Int.tmod (wrap64 ((wrap64 ((wrap64 ((wrap64 (kZ + 1)) - 1)) * 7)) + 3)) (fO.length : Int)))) * 1117)))) + (wrap64 ((wrap64 ((wrap64 (kZ + 1)) - 1)) * 29)))) + (wrap64 ((wrap64 (Int.tdiv (wrap64 ((wrap64 (kZ + 1)) - 1)) (fO.length : Int))) * 53)))) 64))) a1, (wrap64 (kZ + 1))))) else (none)) else (none)) else (none)) else (none)) = some (r1, r2) := by first | (rw [J_] at H; exact H) | (simp only [J_] at H ⊢; exact H)
      replace H := oN H; obtain ⟨xq, H⟩ := H; replace H := oN H; obtain ⟨AP, H⟩ := H
      obtain ⟨Zu, ae9⟩ : ∃ j_ : Int, (Int.tmod (wrap64 ((wrap64 ((wrap64 ((wrap64 (kZ + 1)) - 1)) * 7)) + 3)) (fO.length : Int)) = j_ := ⟨_, rfl⟩
      replace H : (if 0 ≤ (Zu) then (if (Zu) < (fO.length : Int) then (if a1 = 0 then (none) else (some (Int.tmod (Go.bits .xor .i64 (wrap64 ((wrap64 ((wrap64 ((wrap64 ((wrap64 (rd fO (J9))) * 131)) + (wrap64 ((wrap64 (rd fO (Zu))) * 1117)))) + (wrap64 ((wrap64 ((wrap64 (kZ + 1)) - 1)) * 29)))) + (wrap64 ((wrap64 (Int.tdiv (wrap64 ((wrap64 (kZ + 1)) - 1)) (fO.length : Int))) * 53)))) (wrap64 (Int.tdiv (wrap64 ((wrap64 ((wrap64 ((wrap64 ((wrap64 (rd fO (J9))) * 131)) + (wrap64 ((wrap64 (rd fO (Zu))) * 1117)))) + (wrap64 ((wrap64 ((wrap64 (kZ + 1)) - 1)) * 29)))) + (wrap64 ((wrap64 (Int.tdiv (wrap64 ((wrap64 (kZ + 1)) - 1)) (fO.length : Int))) * 53)))) 64))) a1, (wrap64 (kZ + 1))))) else (none)) else (none)) = some (r1, r2) := by first | (rw [ae9] at H; exact H) | (simp only [ae9] at H ⊢; exact H)
      replace H := oN H; obtain ⟨AQ, H⟩ := H; replace H := oN H; obtain ⟨BD, H⟩ := H; replace H := sp H
      rcases H with ⟨c20, H⟩ | ⟨c20, H⟩
      ·
       exact absurd H (by simp)
      ·
       have TS := beq_eq_false_iff_ne.mpr c20
       have Xx := bne_iff_ne.mpr c20
       obtain ⟨rfl, rfl⟩ := s2 H
       obtain ⟨axK, axL, abE, as7, abG⟩ := HI0.out
       have axM := EG abE
       have axN := EH abE
       have axO := iG abE 1
       clear abE as7
       have aoe := zi (J9)
       have aof := zj (J9) fO.length
       obtain ⟨as8, azE, abH⟩ := Kd.VI abG (J9) aoe aof
       cases azE
       replace abH := um HB.out abH
       replace aoe := eq_true aoe
       replace aof := eq_true aof
       have aog := zi (Zu)
       have aoh := zj (Zu) fO.length
       obtain ⟨as9, azF, abI⟩ := Kd.VI abG (Zu) aog aoh
       obtain rfl : as8 = as9 := (by injection azF)
       replace abI := um HB.out abI
       replace aog := eq_true aog
       replace aoh := eq_true aoh
       go_wp2
       repeat (go_quiet (fail); try go_wp2)
       go_ret
       exact ⟨by first | rfl | (simp [yx, yA] <;> rfl) | (simp only [← J_, ← ae9]; first | rfl | (simp [yx, yA] <;> rfl)) | (simp [*, yx, yA] <;> rfl), pX, pY, kh HK.out⟩
def fV.f (k : Nat) (fO : List Int) (kZ : Int) (l1 : List ByteArray) : Option (ByteArray × Int) := (dF.f k fO kZ (l1.length : Int)).bind fun abJ => (if 0 ≤ abJ.1 then (if abJ.1 < (l1.length : Int) then (some (qg ByteArray.empty l1 abJ.1, abJ.2)) else (none)) else (none))
theorem fV.calls {k g c1 : Nat} {fO : List Int} {kZ r2 : Int} {A1 : Option Addr} {l1 : List ByteArray} {r1 : ByteArray} {w : World} (w0 : World) (hI : aI w0 w g fO kZ) (hB : Below w0.heap.size w0 w) (hr1 : Kd.C Kd.string w A1 l1.length l1) (hc1 : l1.length ≤ c1) (hf1 : ∀ ad, A1 = some ad → 0 < l1.length → ad.block ≠ g) (h : fV.f k fO kZ l1 = some (r1, r2)) :
  Calls Tryz.prog 58 #[.pointer (some ⟨g, 0, none⟩), .slice A1 l1.length c1] w fun e w' => e = .returned (.string r1) ∧ aI w0 w' g fO r2 ∧ Below w0.heap.size w0 w' ∧ aJ w w' g none := by
 have HR1 := ak hr1
 have HC1 := ak hc1
 clear hr1 hc1
 have HI0 := ak hI
 have HK := ak (aJ.refl w g none)
 have HL := ak hB.size
 clear hI
 have HW0 := ak hB.size
 have HB := ak hB
 clear hB
 unfold fV.f at h; have H := h
 clear h
 replace H := bd H
 obtain ⟨⟨aoi, aGd⟩, A3, H⟩ := H
 (try dsimp only at H)
 replace H := oN H; obtain ⟨rC, H⟩ := H; replace H := oN H; obtain ⟨nR, H⟩ := H
 obtain ⟨rfl, rfl⟩ := s2 H
 go_enter Tryz.func58, Tryz.ntmps58
 go_wp2_with (refine gL 57 9 Tryz.func57 #[.pointer (some ⟨g, 0, none⟩), .int .i64 (l1.length : Int)] ?_; (with_reducible refine (dF.calls w0 ?gJ ?jf A3.out).mono ?_); (case gJ => exact pX); (case jf => exact pY); rintro e w6 ⟨rfl, hi, hb, hk⟩; refine ⟨_, rfl, ?_⟩; replace HK := kt HK hk; replace HB := ak (hb); replace HI0 := ak (hi); clear hb; (try clear hk); (try clear hi); have aoj : 0 ≤ (aoi : Int) := of_decide_eq_true (by assumption); have aok : aoi < (l1.length : Int) := of_decide_eq_true (by assumption); obtain ⟨ata, azG, abK⟩ := Kd.jI HR1.out aoi aoj aok; cases azG; replace abK := Hu HK.out abK (by first | (rw [add_block]; exact hf1 _ rfl (by omega)) | exact hf1 _ rfl (by omega) | exact hf1 ata rfl (by omega)); replace aoj := eq_true aoj; replace aok := eq_true aok)
 go_ret
 exact ⟨er, pX, pY, kh HK.out⟩
def kW.f (k : Nat) (fO : List Int) (kZ : Int) (l1 : List Int) : Option (Int × Int) := (dF.f k fO kZ (l1.length : Int)).bind fun abL => (if 0 ≤ abL.1 then (if abL.1 < (l1.length : Int) then (some (rd l1 abL.1, abL.2)) else (none)) else (none))
theorem kW.calls {k g c1 : Nat} {fO l1 : List Int} {kZ r1 r2 : Int} {A1 : Option Addr} {w : World} (w0 : World) (hI : aI w0 w g fO kZ) (hB : Below w0.heap.size w0 w) (hr1 : Kd.C (Kd.int .i64) w A1 l1.length l1) (hc1 : l1.length ≤ c1) (hf1 : ∀ ad, A1 = some ad → 0 < l1.length → ad.block ≠ g) (h : kW.f k fO kZ l1 = some (r1, r2)) :
  Calls Tryz.prog 97 #[.pointer (some ⟨g, 0, none⟩), .slice A1 l1.length c1] w fun e w' => e = .returned (.int .i64 r1) ∧ aI w0 w' g fO r2 ∧ Below w0.heap.size w0 w' ∧ aJ w w' g none := by
 have HR1 := ak hr1
 have HC1 := ak hc1
 clear hr1 hc1
 have HI0 := ak hI
 have HK := ak (aJ.refl w g none)
 have HL := ak hB.size
 clear hI
 have HW0 := ak hB.size
 have HB := ak hB
 clear hB
 unfold kW.f at h; have H := h
 clear h
 replace H := bd H
 obtain ⟨⟨aol, aGe⟩, A3, H⟩ := H
 (try dsimp only at H)
 replace H := oN H; obtain ⟨rC, H⟩ := H; replace H := oN H; obtain ⟨nR, H⟩ := H
 obtain ⟨rfl, rfl⟩ := s2 H
 go_enter Tryz.func97, Tryz.ntmps97
 go_wp2_with (refine gL 57 9 Tryz.func57 #[.pointer (some ⟨g, 0, none⟩), .int .i64 (l1.length : Int)] ?_; (with_reducible refine (dF.calls w0 ?gJ ?jf A3.out).mono ?_); (case gJ => exact pX); (case jf => exact pY); rintro e w6 ⟨rfl, hi, hb, hk⟩; refine ⟨_, rfl, ?_⟩; replace HK := kt HK hk; replace HB := ak (hb); replace HI0 := ak (hi); clear hb; (try clear hk); (try clear hi); have aom : 0 ≤ (aol : Int) := of_decide_eq_true (by assumption); have aon : aol < (l1.length : Int) := of_decide_eq_true (by assumption); obtain ⟨atb, azH, abM⟩ := Kd.VI HR1.out aol aom aon; cases azH; replace abM := Hu HK.out abM (by first | (rw [add_block]; exact hf1 _ rfl (by omega)) | exact hf1 _ rfl (by omega) | exact hf1 atb rfl (by omega)); replace aom := eq_true aom; replace aon := eq_true aon)
 go_ret
 exact ⟨er, pX, pY, kh HK.out⟩
def iw.l0 : Nat → ByteArray → Int → Option (Bool)
 | 0, _, _ => none
 | k + 1, x0, x3 => if (wrap64 (x3 + 1)) < (x0.size : Int) then (if 0 ≤ x3 then (if x3 < (x0.size : Int) then (if (bt x0 x3) = 61 then (if 0 ≤ (wrap64 (x3 + 1)) then (if (bt x0 (wrap64 (x3 + 1))) = 63 then (some true) else (iw.l0 k x0 (wrap64 (x3 + 1)))) else (none)) else (iw.l0 k x0 (wrap64 (x3 + 1)))) else (none)) else (none)) else ((aQ.f k x0).bind fun atc => (if atc = true then ((bW.f k x0).bind fun atd => (if atd.toList = x0.toList then (some (decide ((x0.size : Int) > 120))) else (some true))) else (some true)))
def iw.f (k : Nat) (a0 : ByteArray) : Option (Bool) := iw.l0 k a0 0
theorem iw.calls {k : Nat} {a0 : ByteArray} {r : Bool} {w : World} (h : iw.f k a0 = some r) :
  Calls Tryz.prog 207 #[.string a0] w fun e w' => e = .returned (.bool r) ∧ dW w w' := by
 unfold iw.f at h; have H := h
 clear h
 have H' := ak H; clear H
 go_enter Tryz.func207, Tryz.ntmps207
 go_wp2
 go_loopg [3] k (fun kq v3 w' => ∃ (dZ : Int), v3 = .int .i64 dZ ∧ ah (iw.l0 kq a0 dZ = some r) ∧ ah (kq ≤ k) ∧ dW w w')
 case atStart => exact ⟨_, rs, H', ⟨Nat.le_refl _⟩, dn⟩
 case round =>
  clear H'
  obtain ⟨dZ, rfl, HA, yB, ⟨m1, rfl⟩⟩ := hrel
  cases gk with
  | zero => exact zz HA.out
  | succ k1 =>
   obtain ⟨H⟩ := HA
   simp only [iw.l0] at H
   replace H := sp H
   rcases H with ⟨c2, H⟩ | ⟨c2, H⟩
   ·
    have o_ := decide_eq_true c2
    (try (have wu : decide ((dZ + 1) < (a0.size : Int)) = true := decide_eq_true (by have h_ := c2; unfold wrap64 at h_; omega)))
    clear c2
    replace H := oN H; obtain ⟨iP, H⟩ := H; replace H := oN H; obtain ⟨rC, H⟩ := H; replace H := sq H
    rcases H with ⟨oJ, yT, H⟩ | ⟨c6, oJ, yT, H⟩
    ·
     obtain ⟨ji7, PD⟩ : ∃ j_ : Int, (wrap64 (dZ + 1)) = j_ := ⟨_, rfl⟩
     replace H : (if 0 ≤ (ji7) then (if (bt a0 (ji7)) = 63 then (some true) else (iw.l0 k1 a0 ji7)) else (none)) = some r := by first | (rw [PD] at H; exact H) | (simp only [PD] at H ⊢; exact H)
     (try rw [PD] at o_)
     have ate : (IntKind.i64.wrap (dZ + 1)) = ji7 := (eu _).trans PD
     replace H := oN H; obtain ⟨uj, H⟩ := H; replace H := sq H
     rcases H with ⟨pF, uI, H⟩ | ⟨c10, pF, uI, H⟩
     ·
      obtain rfl := s1 H
      obtain ⟨p5, q5, hx5⟩ := bx a0 dZ
      obtain ⟨p9, q9, YP⟩ := bx a0 (ji7)
      go_wp2
      go_ret
      exact ⟨by first | rfl | (simp; done) | (simp only [← PD] <;> (first | rfl | simp)) | (simp [*]; done), dn⟩
     ·
      have H' := ak H; clear H
      obtain ⟨p5, q5, hx5⟩ := bx a0 dZ
      obtain ⟨p9, q9, YP⟩ := bx a0 (ji7)
      go_wp2
      go_roundg k1
      case measure => exact kl
      case rel => exact ⟨_, (by first | rfl | (simp; done) | (simp only [← PD] <;> (first | rfl | simp)) | (simp [*]; done)), H', ⟨kl⟩, dn⟩
    ·
     have H' := ak H; clear H
     obtain ⟨p5, q5, hx5⟩ := bx a0 dZ
     go_wp2
     go_roundg k1
     case measure => exact kl
     case rel => exact ⟨_, rs, H', ⟨kl⟩, dn⟩
   ·
    have o_ := decide_eq_false c2
    (try (have wu : decide ((dZ + 1) < (a0.size : Int)) = false := decide_eq_false (by have h_ := c2; unfold wrap64 at h_; omega)))
    clear c2
    replace H := bd H; obtain ⟨atc, W9, H⟩ := H; replace H := sb H
    rcases H with ⟨rfl, H⟩ | ⟨rfl, H⟩
    ·
     replace H := bd H; obtain ⟨atd, A13, H⟩ := H; replace H := sq H
     rcases H with ⟨rQ, xO, H⟩ | ⟨c14, rQ, xO, H⟩
     ·
      obtain rfl := s1 H
      go_wp2_with (first | (refine gA Tryz.func159 (aQ.calls W9.out) ?_; intro nd) | (go_at_call 179; refine mA (bW.calls A13.out) ?_; intro nd))
      go_ret
      exact ⟨rs, dn⟩
     ·
      obtain rfl := s1 H
      go_wp2_with (first | (refine gA Tryz.func159 (aQ.calls W9.out) ?_; intro nd) | (go_at_call 179; refine mA (bW.calls A13.out) ?_; intro nd))
      go_ret
      exact ⟨rs, dn⟩
    ·
     obtain rfl := s1 H
     go_wp2_with (refine gA Tryz.func159 (aQ.calls W9.out) ?_; intro nd)
     go_ret
     exact ⟨rs, dn⟩
def mg.f (a0 : Int) : Option (ByteArray) := if 0 ≤ (a0 / 16) then (if (a0 / 16) ≤ (((a0 / 16) + 1) % 256) then (if (((a0 / 16) + 1) % 256) ≤ 16 then (if 1 + ((⟨#[48, 49, 50, 51, 52, 53, 54, 55, 56, 57, 65, 66, 67, 68, 69, 70]⟩ : ByteArray).extract ((a0 / 16) : Int).toNat ((((a0 / 16) + 1) % 256) : Int).toNat).size ≤ 9223372036854775807 then (if 0 ≤ (Go.bits .and .u8 a0 15) then (if (Go.bits .and .u8 a0 15) ≤ (((Go.bits .and .u8 a0 15) + 1) % 256) then (if (((Go.bits .and .u8 a0 15) + 1) % 256) ≤ 16 then (if ((⟨#[61]⟩ : ByteArray) ++ ((⟨#[48, 49, 50, 51, 52, 53, 54, 55, 56, 57, 65, 66, 67, 68, 69, 70]⟩ : ByteArray).extract ((a0 / 16) : Int).toNat ((((a0 / 16) + 1) % 256) : Int).toNat)).size + ((⟨#[48, 49, 50, 51, 52, 53, 54, 55, 56, 57, 65, 66, 67, 68, 69, 70]⟩ : ByteArray).extract ((Go.bits .and .u8 a0 15) : Int).toNat ((((Go.bits .and .u8 a0 15) + 1) % 256) : Int).toNat).size ≤ 9223372036854775807 then (some (((⟨#[61]⟩ : ByteArray) ++ ((⟨#[48, 49, 50, 51, 52, 53, 54, 55, 56, 57, 65, 66, 67, 68, 69, 70]⟩ : ByteArray).extract ((a0 / 16) : Int).toNat ((((a0 / 16) + 1) % 256) : Int).toNat)) ++ ((⟨#[48, 49, 50, 51, 52, 53, 54, 55, 56, 57, 65, 66, 67, 68, 69, 70]⟩ : ByteArray).extract ((Go.bits .and .u8 a0 15) : Int).toNat ((((Go.bits .and .u8 a0 15) + 1) % 256) : Int).toNat))) else (none)) else (none)) else (none)) else (none)) else (none)) else (none)) else (none)) else (none)
theorem mg.calls {a0 : Int} {r : ByteArray} {w : World} (h : mg.f a0 = some r) :
  Calls Tryz.prog 221 #[.int .u8 a0] w fun e w' => e = .returned (.string r) ∧ dW w w' := by
 unfold mg.f at h; have H := h
 clear h
 obtain ⟨SY, aoo⟩ : ∃ j_ : Int, (a0 / 16) = j_ := ⟨_, rfl⟩
 replace H : (if 0 ≤ (SY) then (if (SY) ≤ (((SY) + 1) % 256) then (if (((SY) + 1) % 256) ≤ 16 then (if 1 + ((⟨#[48, 49, 50, 51, 52, 53, 54, 55, 56, 57, 65, 66, 67, 68, 69, 70]⟩ : ByteArray).extract ((SY) : Int).toNat ((((SY) + 1) % 256) : Int).toNat).size ≤ 9223372036854775807 then (if 0 ≤ (Go.bits .and .u8 a0 15) then (if (Go.bits .and .u8 a0 15) ≤ (((Go.bits .and .u8 a0 15) + 1) % 256) then (if (((Go.bits .and .u8 a0 15) + 1) % 256) ≤ 16 then (if ((⟨#[61]⟩ : ByteArray) ++ ((⟨#[48, 49, 50, 51, 52, 53, 54, 55, 56, 57, 65, 66, 67, 68, 69, 70]⟩ : ByteArray).extract ((SY) : Int).toNat ((((SY) + 1) % 256) : Int).toNat)).size + ((⟨#[48, 49, 50, 51, 52, 53, 54, 55, 56, 57, 65, 66, 67, 68, 69, 70]⟩ : ByteArray).extract ((Go.bits .and .u8 a0 15) : Int).toNat ((((Go.bits .and .u8 a0 15) + 1) % 256) : Int).toNat).size ≤ 9223372036854775807 then (some (((⟨#[61]⟩ : ByteArray) ++ ((⟨#[48, 49, 50, 51, 52, 53, 54, 55, 56, 57, 65, 66, 67, 68, 69, 70]⟩ : ByteArray).extract ((SY) : Int).toNat ((((SY) + 1) % 256) : Int).toNat)) ++ ((⟨#[48, 49, 50, 51, 52, 53, 54, 55, 56, 57, 65, 66, 67, 68, 69, 70]⟩ : ByteArray).extract ((Go.bits .and .u8 a0 15) : Int).toNat ((((Go.bits .and .u8 a0 15) + 1) % 256) : Int).toNat))) else (none)) else (none)) else (none)) else (none)) else (none)) else (none)) else (none)) else (none)) = some r := by first | (rw [aoo] at H; exact H) | (simp only [aoo] at H ⊢; exact H)
 replace H := Ba H; obtain ⟨iP, yU, H⟩ := H; replace H := nn H; obtain ⟨c4, H⟩ := H
 have rC := eq_true c4
 have Td := decide_eq_true c4
 replace H := nn H; obtain ⟨c5, H⟩ := H
 have nR := eq_true c5
 have Kv := decide_eq_true c5
 replace H := nn H; obtain ⟨c6, H⟩ := H
 have oJ := eq_true c6
 have yT := decide_eq_true c6
 try have aGf : (9223372036854775807 < 1 + (((⟨#[48, 49, 50, 51, 52, 53, 54, 55, 56, 57, 65, 66, 67, 68, 69, 70]⟩ : ByteArray).extract ((SY) : Int).toNat ((((SY) + 1) % 256) : Int).toNat).size)) = False := by have h_ := c6; simp only [ByteArray.size_append, ByteArray.size_extract] at h_; refine eq_false ?_; simp only [decide_eq_true_eq] at *; omega
 try have ahJ : (9223372036854775807 < 1 + ((⟨#[48, 49, 50, 51, 52, 53, 54, 55, 56, 57, 65, 66, 67, 68, 69, 70]⟩ : ByteArray).extract ((SY) : Int).toNat ((((SY) + 1) % 256) : Int).toNat).size) = False := eq_false (Nat.not_lt.2 c6)
 replace H := Ba H; obtain ⟨sH, Nw, H⟩ := H; replace H := nn H; obtain ⟨c8, H⟩ := H
 have uj := eq_true c8
 have DU := decide_eq_true c8
 replace H := nn H; obtain ⟨c9, H⟩ := H
 have zu := eq_true c9
 have Gn := decide_eq_true c9
 replace H := nn H; obtain ⟨c10, H⟩ := H
 have pF := eq_true c10
 have uI := decide_eq_true c10
 try have ark : (9223372036854775807 < (⟨#[61]⟩ : ByteArray).size + (((⟨#[48, 49, 50, 51, 52, 53, 54, 55, 56, 57, 65, 66, 67, 68, 69, 70]⟩ : ByteArray).extract ((SY) : Int).toNat ((((SY) + 1) % 256) : Int).toNat).size) + (((⟨#[48, 49, 50, 51, 52, 53, 54, 55, 56, 57, 65, 66, 67, 68, 69, 70]⟩ : ByteArray).extract ((Go.bits .and .u8 a0 15) : Int).toNat ((((Go.bits .and .u8 a0 15) + 1) % 256) : Int).toNat).size)) = False := by have h_ := c10; simp only [ByteArray.size_append, ByteArray.size_extract] at h_; refine eq_false ?_; simp only [decide_eq_true_eq] at *; omega
 try have akn : (9223372036854775807 < 1 + (((⟨#[48, 49, 50, 51, 52, 53, 54, 55, 56, 57, 65, 66, 67, 68, 69, 70]⟩ : ByteArray).extract ((SY) : Int).toNat ((((SY) + 1) % 256) : Int).toNat).size) + (((⟨#[48, 49, 50, 51, 52, 53, 54, 55, 56, 57, 65, 66, 67, 68, 69, 70]⟩ : ByteArray).extract ((Go.bits .and .u8 a0 15) : Int).toNat ((((Go.bits .and .u8 a0 15) + 1) % 256) : Int).toNat).size)) = False := by have h_ := (eq_false (Nat.not_lt.2 c10) : (9223372036854775807 < ((⟨#[61]⟩ : ByteArray) ++ ((⟨#[48, 49, 50, 51, 52, 53, 54, 55, 56, 57, 65, 66, 67, 68, 69, 70]⟩ : ByteArray).extract ((SY) : Int).toNat ((((SY) + 1) % 256) : Int).toNat)).size + ((⟨#[48, 49, 50, 51, 52, 53, 54, 55, 56, 57, 65, 66, 67, 68, 69, 70]⟩ : ByteArray).extract ((Go.bits .and .u8 a0 15) : Int).toNat ((((Go.bits .and .u8 a0 15) + 1) % 256) : Int).toNat).size) = False); simp only [ByteArray.size_append] at h_; exact h_
 try have aaS : (9223372036854775807 < ((⟨#[61]⟩ : ByteArray) ++ ((⟨#[48, 49, 50, 51, 52, 53, 54, 55, 56, 57, 65, 66, 67, 68, 69, 70]⟩ : ByteArray).extract ((SY) : Int).toNat ((((SY) + 1) % 256) : Int).toNat)).size + ((⟨#[48, 49, 50, 51, 52, 53, 54, 55, 56, 57, 65, 66, 67, 68, 69, 70]⟩ : ByteArray).extract ((Go.bits .and .u8 a0 15) : Int).toNat ((((Go.bits .and .u8 a0 15) + 1) % 256) : Int).toNat).size) = False := eq_false (Nat.not_lt.2 c10)
 obtain rfl := s1 H
 go_enter Tryz.func221, Tryz.ntmps221
 go_wp2
 repeat (go_quiet (fail); try go_wp2)
 go_ret
 exact ⟨by first | rfl | (simp; done) | (simp only [← aoo] <;> (first | rfl | simp)) | (simp [*]; done), dn⟩
def yE.f (a0 : Int) : Option (ByteArray) := if a0 = 32 then (some (⟨#[95]⟩ : ByteArray)) else ((iq.f a0).bind fun atf => (if atf = true then (some (strOfNums (([a0] : List Int)))) else (if a0 = 45 then (some (strOfNums (([a0] : List Int)))) else (if a0 = 46 then (some (strOfNums (([a0] : List Int)))) else ((mg.f a0).bind fun atg => (some atg))))))
theorem yE.calls {a0 : Int} {r : ByteArray} {w : World} (h : yE.f a0 = some r) :
  Calls Tryz.prog 216 #[.int .u8 a0] w fun e w' => e = .returned (.string r) ∧ Below w.heap.size w w' := by
 have HB := ak (Below.refl w.heap.size w)
 unfold yE.f at h; have H := h
 clear h
 replace H := sq H
 rcases H with ⟨o_, wu, H⟩ | ⟨c2, o_, wu, H⟩
 ·
  obtain rfl := s1 H
  go_enter Tryz.func216, Tryz.ntmps216
  go_wp2
  go_ret
  exact ⟨er, ul HB.out⟩
 ·
  replace H := bd H; obtain ⟨atf, A3, H⟩ := H; replace H := sb H
  rcases H with ⟨rfl, H⟩ | ⟨rfl, H⟩
  ·
   obtain ⟨aGg, akL⟩ := nm ([a0] : List Int)
   rw [← akL.out] at H
   obtain rfl := s1 H
   go_enter Tryz.func216, Tryz.ntmps216
   go_wp2_with (first | (refine gA Tryz.func183 (iq.calls A3.out) ?_; intro nd) | (refine SX 16 (Kd.int .u8) 5 [.int .u8 a0] akL (dK.one (show Kd.M (Kd.int .u8) _ _ _ a0 [.int .u8 a0] from rfl) (dK.none _ _)) ?_; intro aGh w5 YI hb; have ath := ak (Kd.aG YI (aj (ul HB.out))); replace HB := bs HB hb; clear hb YI; have aGi := r_ (P := Tryz.prog) Tryz.underlying22 Tryz.underlying5 Tryz.underlying9 (Kd.wI ath.out)))
   go_ret
   exact ⟨er, ul HB.out⟩
  ·
   replace H := sq H
   rcases H with ⟨uj, DU, H⟩ | ⟨c8, uj, DU, H⟩
   ·
    obtain ⟨aGj, akM⟩ := nm ([a0] : List Int)
    rw [← akM.out] at H
    obtain rfl := s1 H
    go_enter Tryz.func216, Tryz.ntmps216
    go_wp2_with (first | (refine gA Tryz.func183 (iq.calls A3.out) ?_; intro nd) | (refine SX 16 (Kd.int .u8) 5 [.int .u8 a0] akM (dK.one (show Kd.M (Kd.int .u8) _ _ _ a0 [.int .u8 a0] from rfl) (dK.none _ _)) ?_; intro aGk w9 PE hb; have ati := ak (Kd.aG PE (aj (ul HB.out))); replace HB := bs HB hb; clear hb PE; have atj := r_ (P := Tryz.prog) Tryz.underlying22 Tryz.underlying5 Tryz.underlying9 (Kd.wI ati.out)))
    go_ret
    exact ⟨er, ul HB.out⟩
   ·
    replace H := sq H
    rcases H with ⟨yV, DV, H⟩ | ⟨c12, yV, DV, H⟩
    ·
     obtain ⟨aGl, akN⟩ := nm ([a0] : List Int)
     rw [← akN.out] at H
     obtain rfl := s1 H
     go_enter Tryz.func216, Tryz.ntmps216
     go_wp2_with (first | (refine gA Tryz.func183 (iq.calls A3.out) ?_; intro nd) | (refine SX 16 (Kd.int .u8) 5 [.int .u8 a0] akN (dK.one (show Kd.M (Kd.int .u8) _ _ _ a0 [.int .u8 a0] from rfl) (dK.none _ _)) ?_; intro aGm w13 ae_ hb; have atl := ak (Kd.aG ae_ (aj (ul HB.out))); replace HB := bs HB hb; clear hb ae_; have atm := r_ (P := Tryz.prog) Tryz.underlying22 Tryz.underlying5 Tryz.underlying9 (Kd.wI atl.out)))
     go_ret
     exact ⟨er, ul HB.out⟩
    ·
     replace H := bd H; obtain ⟨atg, A16, H⟩ := H
     obtain rfl := s1 H
     go_enter Tryz.func216, Tryz.ntmps216
     go_wp2_with (first | (refine gA Tryz.func183 (iq.calls A3.out) ?_; intro nd) | (refine gA Tryz.func221 (mg.calls A16.out) ?_; intro nd))
     go_ret
     exact ⟨er, ul HB.out⟩
def jT.l0 : Nat → ByteArray → ByteArray → Int → Option (ByteArray)
 | 0, _, _, _ => none
 | k + 1, x0, x3, x4 => if x4 < (x0.size : Int) then (if 0 ≤ x4 then ((yE.f (bt x0 x4)).bind fun aiz => (if x3.size + aiz.size ≤ 9223372036854775807 then (jT.l0 k x0 (x3 ++ aiz) (wrap64 (x4 + 1))) else (none))) else (none)) else (some x3)
def jT.f (k : Nat) (a0 : ByteArray) : Option (ByteArray) := jT.l0 k a0 (⟨#[]⟩ : ByteArray) 0
theorem jT.calls {k : Nat} {a0 r : ByteArray} {w : World} (h : jT.f k a0 = some r) :
  Calls Tryz.prog 208 #[.string a0] w fun e w' => e = .returned (.string r) ∧ Below w.heap.size w w' := by
 have HB := ak (Below.refl w.heap.size w)
 unfold jT.f at h; have H := h
 clear h
 have H' := ak H; clear H
 go_enter Tryz.func208, Tryz.ntmps208
 go_wp2
 go_loopg [3, 4] k (fun kq v3 v4 w' => ∃ (dZ : ByteArray) (fG : Int), v3 = .string dZ ∧ v4 = .int .i64 fG ∧ ah (jT.l0 kq a0 dZ fG = some r) ∧ ah (kq ≤ k) ∧ ah (Below w.heap.size w w'))
 case atStart => exact ⟨_, _, rs, rs, H', ⟨Nat.le_refl _⟩, ⟨ul HB.out⟩⟩
 case round =>
  clear H'
  obtain ⟨dZ, fG, rfl, rfl, HA, yB, HB⟩ := hrel
  cases gk with
  | zero => exact zz HA.out
  | succ k1 =>
   obtain ⟨H⟩ := HA
   simp only [jT.l0] at H
   replace H := sd H
   rcases H with ⟨o_, H⟩ | ⟨o_, H⟩
   ·
    replace H := oN H; obtain ⟨iP, H⟩ := H; replace H := bd H; obtain ⟨aiz, A5, H⟩ := H; replace H := nn H; obtain ⟨c6, H⟩ := H
    have oJ := eq_true c6
    have yT := decide_eq_true c6
    try have ahJ : (9223372036854775807 < dZ.size + aiz.size) = False := eq_false (Nat.not_lt.2 c6)
    have H' := ak H; clear H
    obtain ⟨p4, q4, hx4⟩ := bx a0 fG
    go_wp2_with (refine gB Tryz.func216 (yE.calls A5.out) ?_; intro w7 hb; replace HB := bs HB hb; clear hb)
    go_roundg k1
    case measure => exact kl
    case rel => exact ⟨_, _, rs, rs, H', ⟨kl⟩, ⟨ul HB.out⟩⟩
   ·
    obtain rfl := s1 H
    go_wp2
    go_ret
    exact ⟨er, ul HB.out⟩
def iV.j0 : Nat → ByteArray → Bool → Option (ByteArray × Bool)
 | 0, _, _ => none
 | k + 1, x0, x12 => if x12 = true then (some ((⟨#[]⟩ : ByteArray), false)) else ((jT.f k x0).bind fun AA => (if 10 + AA.size ≤ 9223372036854775807 then (if ((⟨#[61, 63, 117, 116, 102, 45, 56, 63, 113, 63]⟩ : ByteArray) ++ AA).size + 2 ≤ 9223372036854775807 then (if ((((⟨#[61, 63, 117, 116, 102, 45, 56, 63, 113, 63]⟩ : ByteArray) ++ AA) ++ (⟨#[63, 61]⟩ : ByteArray)).size : Int) > 40 then (some ((⟨#[]⟩ : ByteArray), false)) else (some (((⟨#[61, 63, 117, 116, 102, 45, 56, 63, 113, 63]⟩ : ByteArray) ++ AA) ++ (⟨#[63, 61]⟩ : ByteArray), true))) else (none)) else (none)))
def iV.f (k : Nat) (a0 : ByteArray) : Option (ByteArray × Bool) := if (a0.size : Int) < 1 then (iV.j0 k a0 true) else (iV.j0 k a0 (decide ((a0.size : Int) > 40)))
theorem iV.calls {k : Nat} {a0 r1 : ByteArray} {r2 : Bool} {w : World} (h : iV.f k a0 = some (r1, r2)) :
  Calls Tryz.prog 209 #[.string a0] w fun e w' => e = .returned (.tuple #[.string r1, .bool r2]) ∧ Below w.heap.size w w' := by
 have HB := ak (Below.refl w.heap.size w)
 unfold iV.f at h; have H := h
 clear h
 have HC2 := ak H
 clear H
 go_enter Tryz.func209, Tryz.ntmps209
 go_upto_region 1 with (fail)
 go_cut [12] (fun v12 wc => ∃ (kq : Nat) (afa : Bool), v12 = .bool afa ∧ ah (iV.j0 kq a0 afa = some (r1, r2)) ∧ ah (kq ≤ k) ∧ ah (Below w.heap.size w wc))
 case first =>
  have H := HC2.out
  clear HC2
  replace H := sp H
  rcases H with ⟨c3, H⟩ | ⟨c3, H⟩
  ·
   have iP := decide_eq_true c3
   have yU : decide (a0.size < 1) = true := decide_eq_true (by omega)
   clear c3
   (first | rw [iP] | (simp only [eu, f_]; rw [iP]) | skip)
   have H' := ak H; clear H
   go_wp2
   go_meet
   case rel => exact ⟨_, _, rs, H', ⟨JF⟩, ⟨ul HB.out⟩⟩
  ·
   have iP := decide_eq_false c3
   have yU : decide (a0.size < 1) = false := decide_eq_false (by omega)
   clear c3
   (first | rw [iP] | (simp only [eu, f_]; rw [iP]) | skip)
   have H' := ak H; clear H
   go_wp2
   go_meet
   case rel => exact ⟨_, _, rs, H', ⟨JF⟩, ⟨ul HB.out⟩⟩
 case rest =>
  clear HC2
  obtain ⟨kq, afa, rfl, HA, HJ1, HB⟩ := hcut
  cases kq with
  | zero => exact zz HA.out
  | succ Py =>
   obtain ⟨H⟩ := HA
   simp only [iV.j0] at H
   replace H := sb H
   rcases H with ⟨rfl, H⟩ | ⟨rfl, H⟩
   ·
    obtain ⟨rfl, rfl⟩ := s2 H
    go_wp2
    go_ret2
    exact ⟨er, ul HB.out⟩
   ·
    replace H := bd H; obtain ⟨AA, A5, H⟩ := H; replace H := nn H; obtain ⟨c6, H⟩ := H
    have oJ := eq_true c6
    have yT := decide_eq_true c6
    try have ahJ : (9223372036854775807 < 10 + AA.size) = False := eq_false (Nat.not_lt.2 c6)
    replace H := nn H; obtain ⟨c7, H⟩ := H
    have sH := eq_true c7
    have Nw := decide_eq_true c7
    try have aGn : (9223372036854775807 < 10 + AA.size + 2) = False := by have h_ := (eq_false (Nat.not_lt.2 c7) : (9223372036854775807 < ((⟨#[61, 63, 117, 116, 102, 45, 56, 63, 113, 63]⟩ : ByteArray) ++ AA).size + 2) = False); simp only [ByteArray.size_append] at h_; exact h_
    try have ayF : (9223372036854775807 < ((⟨#[61, 63, 117, 116, 102, 45, 56, 63, 113, 63]⟩ : ByteArray) ++ AA).size + 2) = False := eq_false (Nat.not_lt.2 c7)
    replace H := sp H
    rcases H with ⟨c8, H⟩ | ⟨c8, H⟩
    ·
     have uj : decide (40 < ((((⟨#[61, 63, 117, 116, 102, 45, 56, 63, 113, 63]⟩ : ByteArray) ++ AA) ++ (⟨#[63, 61]⟩ : ByteArray)).size : Int)) = true := decide_eq_true c8
     have DU : decide (40 < (((⟨#[61, 63, 117, 116, 102, 45, 56, 63, 113, 63]⟩ : ByteArray) ++ AA) ++ (⟨#[63, 61]⟩ : ByteArray)).size) = true := decide_eq_true (by omega)
     (try (have atn : decide (40 < 10 + (AA.size : Int) + 2) = true := decide_eq_true (by have e0_ : (((⟨#[61, 63, 117, 116, 102, 45, 56, 63, 113, 63]⟩ : ByteArray) ++ AA) ++ (⟨#[63, 61]⟩ : ByteArray)).size = 10 + AA.size + 2 := (by first | (simp only [ByteArray.size_append]; rfl) | simp only [ByteArray.size_append]); omega)))
     (try (have azI : decide (40 < 10 + AA.size + 2) = true := decide_eq_true (by have e0_ : (((⟨#[61, 63, 117, 116, 102, 45, 56, 63, 113, 63]⟩ : ByteArray) ++ AA) ++ (⟨#[63, 61]⟩ : ByteArray)).size = 10 + AA.size + 2 := (by first | (simp only [ByteArray.size_append]; rfl) | simp only [ByteArray.size_append]); omega)))
     clear c8
     obtain ⟨rfl, rfl⟩ := s2 H
     go_wp2_with (refine gB Tryz.func208 (jT.calls A5.out) ?_; intro w9 hb; replace HB := bs HB hb; clear hb)
     go_ret2
     exact ⟨er, ul HB.out⟩
    ·
     have uj : decide (40 < ((((⟨#[61, 63, 117, 116, 102, 45, 56, 63, 113, 63]⟩ : ByteArray) ++ AA) ++ (⟨#[63, 61]⟩ : ByteArray)).size : Int)) = false := decide_eq_false c8
     have DU : decide (40 < (((⟨#[61, 63, 117, 116, 102, 45, 56, 63, 113, 63]⟩ : ByteArray) ++ AA) ++ (⟨#[63, 61]⟩ : ByteArray)).size) = false := decide_eq_false (by omega)
     (try (have atn : decide (40 < 10 + (AA.size : Int) + 2) = false := decide_eq_false (by have e0_ : (((⟨#[61, 63, 117, 116, 102, 45, 56, 63, 113, 63]⟩ : ByteArray) ++ AA) ++ (⟨#[63, 61]⟩ : ByteArray)).size = 10 + AA.size + 2 := (by first | (simp only [ByteArray.size_append]; rfl) | simp only [ByteArray.size_append]); omega)))
     (try (have azI : decide (40 < 10 + AA.size + 2) = false := decide_eq_false (by have e0_ : (((⟨#[61, 63, 117, 116, 102, 45, 56, 63, 113, 63]⟩ : ByteArray) ++ AA) ++ (⟨#[63, 61]⟩ : ByteArray)).size = 10 + AA.size + 2 := (by first | (simp only [ByteArray.size_append]; rfl) | simp only [ByteArray.size_append]); omega)))
     clear c8
     obtain ⟨rfl, rfl⟩ := s2 H
     go_wp2_with (refine gB Tryz.func208 (jT.calls A5.out) ?_; intro w10 hb; replace HB := bs HB hb; clear hb)
     go_ret2
     exact ⟨er, ul HB.out⟩
end Go.Proofs.YtncdadcmghglkaaGreatDoor.PFnPartValid
