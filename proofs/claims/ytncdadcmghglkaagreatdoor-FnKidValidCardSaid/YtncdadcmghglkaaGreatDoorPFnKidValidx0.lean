/- Printed walks; conditions: those in each statement. -/
import Derived.Test.YtncdadcmghglkaaGreatDoorVFnKidValidQt
import Derived.Test.YtncdadcmghglkaaGreatDoorProg
import Derived.Test.YtncdadcmghglkaaGreatDoorVFnKidValidXt
import Derived.Below
import Derived.Deep.Draws
import Derived.Deep.AppendLies
import Derived.Maps.AppendAt
import Derived.OwnWalk
import Derived.Laws.BytesArg
import Derived.Laws.MakeOwn
import Derived.Laws.OwnMore
import Derived.Deep.OwnRows
import Derived.Tactics
import Derived.Lib.ConvBytes
import Derived.Laws.Slices
import Derived.WalkKit
import Derived.KernelRfl
import Derived.RowKit3
import Derived.Deep.LoopGhost
import Derived.Deep.QuietTactic
import Derived.BigQuiet
import Derived.WideLaws
import Derived.Deep.DeepCutAuto
import Derived.Deep.CutBlock
import Derived.Deep.RegionHeld3
import Derived.Laws.Rows
import Derived.Lib.AppendStr
import Derived.ArgAppend
import Derived.Laws.IdiomCopy
import Derived.OrdersHeld
import Derived.Laws.BitsLemmas
import Derived.RowKit
import Derived.Test.YtncdadcmghglkaaGreatDoorMx
import Derived.Test.YtncdadcmghglkaaGreatDoorVFnKidValidWords
import Derived.Test.YtncdadcmghglkaaGreatDoorVFnKidValidLast
import Derived.Test.YtncdadcmghglkaaGreatDoorVFnKidValidTab
import Derived.Test.YtncdadcmghglkaaGreatDoorVFnKidValidApart
import Derived.Test.YtncdadcmghglkaaGreatDoorVFnKidValidFoot
import Derived.Test.YtncdadcmghglkaaGreatDoorVFnKidValidKept
import Derived.Test.YtncdadcmghglkaaGreatDoorVFnKidValidShare
import Derived.Test.YtncdadcmghglkaaGreatDoorVFnKidValidN
import Derived.Test.YtncdadcmghglkaaGreatDoorVFnKidValidRepsOne
import Derived.Test.YtncdadcmghglkaaGreatDoorVFnKidValidInv
import Derived.Test.YtncdadcmghglkaaGreatDoorVFnKidValidGuard
import Derived.Test.YtncdadcmghglkaaGreatDoorVFnKidValidMore
import Derived.Test.YtncdadcmghglkaaGreatDoorVFnKidValidYt
-- dense
-- sq
-- sq2
-- short
namespace Go.Proofs.YtncdadcmghglkaaGreatDoor.PFnKidValid
open Go.RowKit Go.Proofs.YtncdadcmghglkaaGreatDoor.X Go.Proofs.YtncdadcmghglkaaGreatDoorW.bI Go.Proofs.YtncdadcmghglkaaGreatDoorW.gq Go.Proofs.YtncdadcmghglkaaGreatDoorW.iJ
attribute [local go_sem] kJ kK mD mF jv jw kL kM   -- for this text's walks alone
set_option linter.unusedVariables false
set_option linter.unusedSimpArgs false
def aph : Option Int → Value
 | none => .nilIface
 | some c => .iface 0 (.int .i64 c)
theorem wS : aph none = .nilIface := rfl
theorem wU (c : Int) : aph (some c) = .iface 0 (.int .i64 c) := rfl
theorem info3 : (Tryz.prog.info? 3).map (fun i => (i.zero, i.size, i.bytes)) = some (some (.int .i64 0), 1, 8) := by kernel_rfl
theorem info5 : (Tryz.prog.info? 5).map (fun i => (i.zero, i.size, i.bytes)) = some (some (.int .u8 0), 1, 1) := by kernel_rfl
theorem info9 : (Tryz.prog.info? 9).map (fun i => (i.zero, i.size, i.bytes)) = some (some (.string ⟨#[]⟩), 1, 16) := by kernel_rfl
theorem info23 : (Tryz.prog.info? 23).map (fun i => (i.zero, i.size, i.bytes)) = some (some (.slice none 0 0), 1, 24) := by kernel_rfl
theorem T_ : (Tryz.prog.info? 28).map (fun i => (i.zero, i.size, i.bytes)) = some (some (.agg #[(.slice none 0 0), (.slice none 0 0), (.slice none 0 0)]), 3, 72) := by kernel_rfl
theorem Dc : (Tryz.prog.info? 69).map (fun i => (i.zero, i.size, i.bytes)) = some (some (.agg #[(.string ⟨#[]⟩), (.string ⟨#[]⟩)]), 2, 32) := by kernel_rfl
-- the values' own types
/-! #### struct type 69 -/
structure gU where
 f0 : ByteArray
 f1 : ByteArray
def z69 : gU := ⟨(⟨#[]⟩ : ByteArray), (⟨#[]⟩ : ByteArray)⟩
def qj : Kd gU := Kd.iso (Kd.pair Kd.string Kd.string) (fun x : gU => (x.f0, x.f1))
theorem adg {w : World} {x : gU} {cs : List Value} (h : qj.K w x cs) : cs = [.string x.f0, .string x.f1] := by
 obtain ⟨_, _, rfl, rfl, rfl⟩ := h
 exact rfl
theorem apg {w : World} {base : Nat} {ok : Nat → Prop} {x : gU} {cs : List Value} (h : qj.M w base ok x cs) : cs = [.string x.f0, .string x.f1] := by
 obtain ⟨_, _, rfl, rfl, rfl⟩ := h
 exact rfl
theorem ayj (w : World) (x : gU)  : qj.K w x [.string x.f0, .string x.f1] := ⟨[.string x.f0], [.string x.f1], rfl, rfl, rfl⟩
theorem wM (w : World) (base : Nat) (ok : Nat → Prop) (x : gU)  : qj.M w base ok x [.string x.f0, .string x.f1] := ⟨[.string x.f0], [.string x.f1], rfl, rfl, rfl⟩
def fB (xs : List gU) (i : Int) : gU := xs.getD i.toNat z69
theorem qX {w : World} {A : Option Addr} {n : Nat} {xs : List gU} (h : Kd.C qj w A n xs) (i : Int) (h0 : 0 ≤ i) (h1 : i < n) : ∃ ad , A = some ad ∧ w.cell? (ad.add (i.toNat * 2)) = some (.string (fB xs i).f0) ∧ w.cell? ⟨(ad.add (i.toNat * 2)).block, (ad.add (i.toNat * 2)).off + 1, none⟩ = some (.string (fB xs i).f1) := by
 obtain ⟨ad, c, e, _, hK, hc0⟩ := Kd.Y9 h z69 i h0 h1
 have hc : ∀ j u, c[j]? = some u → w.cell? (ad.add (i.toNat * 2 + j)) = some u := hc0
 obtain rfl := adg hK
 exact ⟨ad, e, hc 0 _ rfl, by rw [← vS _ _ 1 (by omega)]; exact hc 1 _ rfl⟩
def Y_ (xs : List (List gU)) (i : Int) : (List gU) := xs.getD i.toNat ([] : List gU)
theorem aBA {w : World} {A : Option Addr} {n : Nat} {xs : List (List gU)} (h : Kd.C (Kd.slice 69 qj) w A n xs) (i : Int) (h0 : 0 ≤ i) (h1 : i < n) : ∃ ad A0 c0, A = some ad ∧ w.cell? (ad.add i.toNat) = some (.slice A0 (Y_ xs i).length c0) ∧ (Y_ xs i).length ≤ c0 ∧ qj.C w A0 (Y_ xs i).length (Y_ xs i) := by
 obtain ⟨ad, c, e, _, hK, hc0⟩ := Kd.Y9 h ([] : List gU) i h0 h1
 have hc : ∀ j u, c[j]? = some u → w.cell? (ad.add (i.toNat * 1 + j)) = some u := hc0
 obtain ⟨A0, c0, rfl, l0, g0⟩ := hK
 exact ⟨ad, A0, c0, e, by have hq := hc 0 _ rfl; rwa [Nat.mul_one, Nat.add_zero] at hq, l0, g0⟩
def yt (xs : List (List ByteArray)) (i : Int) : (List ByteArray) := xs.getD i.toNat ([] : List ByteArray)
theorem Jj {w : World} {A : Option Addr} {n : Nat} {xs : List (List ByteArray)} (h : Kd.C (Kd.slice 9 Kd.string) w A n xs) (i : Int) (h0 : 0 ≤ i) (h1 : i < n) : ∃ ad A0 c0, A = some ad ∧ w.cell? (ad.add i.toNat) = some (.slice A0 (yt xs i).length c0) ∧ (yt xs i).length ≤ c0 ∧ Kd.string.C w A0 (yt xs i).length (yt xs i) := by
 obtain ⟨ad, c, e, _, hK, hc0⟩ := Kd.Y9 h ([] : List ByteArray) i h0 h1
 have hc : ∀ j u, c[j]? = some u → w.cell? (ad.add (i.toNat * 1 + j)) = some u := hc0
 obtain ⟨A0, c0, rfl, l0, g0⟩ := hK
 exact ⟨ad, A0, c0, e, by have hq := hc 0 _ rfl; rwa [Nat.mul_one, Nat.add_zero] at hq, l0, g0⟩
/-! #### struct type 28, nested in itself -/
structure mY where
 f0 : (List gU)
 f1 : (List ByteArray)
 f2 : (List mY)
def z28 : mY := ⟨([] : List gU), ([] : List ByteArray), ([] : List mY)⟩
def F28 (d : Kd mY) : Kd mY := Kd.iso (Kd.pair (Kd.slice 69 qj) (Kd.pair (Kd.slice 9 Kd.string) (Kd.slice 28 d))) (fun x : mY => (x.f0, x.f1, x.f2))
theorem Ua : Kd.ER F28 := Kd.adh _ (Kd.Sz (Kd.PG _) (Kd.Sz (Kd.PG _) (Kd.XP 28 Kd.agY)))
theorem apj : Kd.Sub F28 [9, 28, 69] := Kd.agZ _ (Kd.VO (Kd.sub_const _ (by decide)) (Kd.VO (Kd.sub_const _ (by decide)) (Kd.ab5 28 (by decide) Kd.ami)))
theorem amj : ∀ n, (Kd.upto F28 3 [9, 28, 69] n).sz = 3 := Kd.ag0 (fun _ => rfl)
def k28 : Kd mY := Kd.fix F28 3 [9, 28, 69] amj (Kd.adi apj)
theorem adk {w : World} {x : mY} {cs : List Value} (h : k28.K w x cs) : ∃ A0 c0 A1 c1 A2 c2, cs = [.slice A0 x.f0.length c0, .slice A1 x.f1.length c1, .slice A2 x.f2.length c2] ∧ x.f0.length ≤ c0 ∧ qj.C w A0 x.f0.length x.f0 ∧ x.f1.length ≤ c1 ∧ Kd.string.C w A1 x.f1.length x.f1 ∧ x.f2.length ≤ c2 ∧ k28.C w A2 x.f2.length x.f2 := by
 obtain ⟨n, h⟩ := h
 cases n with
 | zero => exact h.elim
 | succ n =>
  obtain ⟨_, _, rfl, ⟨A0, c0, rfl, l0, g0⟩, ⟨_, _, rfl, ⟨A1, c1, rfl, l1, g1⟩, ⟨A2, c2, rfl, l2, g2⟩⟩⟩ := h
  exact ⟨A0, c0, A1, c1, A2, c2, rfl, l0, g0, l1, g1, l2, Kd.apk g2⟩
theorem LQ {w : World} {base : Nat} {ok : Nat → Prop} {x : mY} {cs : List Value} (h : k28.M w base ok x cs) : ∃ v0 v1 v2, cs = [v0, v1, v2] ∧ qj.R 69 w base ok v0 x.f0 ∧ Kd.string.R 9 w base ok v1 x.f1 ∧ k28.R 28 w base ok v2 x.f2 := by
 obtain ⟨n, h⟩ := h
 cases n with
 | zero => exact h.elim
 | succ n =>
  obtain ⟨_, _, rfl, ⟨v0, rfl, g0⟩, ⟨_, _, rfl, ⟨v1, rfl, g1⟩, ⟨v2, rfl, g2⟩⟩⟩ := h
  exact ⟨v0, v1, v2, rfl, g0, g1, Kd.apl g2⟩
theorem ayk (w : World) (x : mY) {A0 : Option Addr} {c0 : Nat} (l0 : x.f0.length ≤ c0) (g0 : qj.C w A0 x.f0.length x.f0) {A1 : Option Addr} {c1 : Nat} (l1 : x.f1.length ≤ c1) (g1 : Kd.string.C w A1 x.f1.length x.f1) {A2 : Option Addr} {c2 : Nat} (l2 : x.f2.length ≤ c2) (g2 : k28.C w A2 x.f2.length x.f2) : k28.K w x [.slice A0 x.f0.length c0, .slice A1 x.f1.length c1, .slice A2 x.f2.length c2] := by
 obtain ⟨n2, q2⟩ := Kd.XQ Ua g2
 have r2 := Kd.ab6 Ua amj (show n2 ≤ n2 by omega) q2
 exact ⟨n2 + 1, ⟨[.slice A0 x.f0.length c0], [.slice A1 x.f1.length c1, .slice A2 x.f2.length c2], rfl, ⟨A0, c0, rfl, l0, g0⟩, ⟨[.slice A1 x.f1.length c1], [.slice A2 x.f2.length c2], rfl, ⟨A1, c1, rfl, l1, g1⟩, ⟨A2, c2, rfl, l2, r2⟩⟩⟩⟩
theorem OY (w : World) (base : Nat) (ok : Nat → Prop) (x : mY) {v0 : Value} (g0 : qj.R 69 w base ok v0 x.f0) {v1 : Value} (g1 : Kd.string.R 9 w base ok v1 x.f1) {v2 : Value} (g2 : k28.R 28 w base ok v2 x.f2) : k28.M w base ok x [v0, v1, v2] := by
 obtain ⟨n2, q2⟩ := Kd.XR Ua g2
 have r2 := Kd.ab7 Ua amj (show n2 ≤ n2 by omega) q2
 exact ⟨n2 + 1, ⟨[v0], [v1, v2], rfl, ⟨v0, rfl, g0⟩, ⟨[v1], [v2], rfl, ⟨v1, rfl, g1⟩, ⟨v2, rfl, r2⟩⟩⟩⟩
def bg (xs : List mY) (i : Int) : mY := xs.getD i.toNat z28
theorem yB {w : World} {A : Option Addr} {n : Nat} {xs : List mY} (h : Kd.C k28 w A n xs) (i : Int) (h0 : 0 ≤ i) (h1 : i < n) : ∃ ad A0 c0 A1 c1 A2 c2, A = some ad ∧ w.cell? (ad.add (i.toNat * 3)) = some (.slice A0 (bg xs i).f0.length c0) ∧ w.cell? ⟨(ad.add (i.toNat * 3)).block, (ad.add (i.toNat * 3)).off + 1, none⟩ = some (.slice A1 (bg xs i).f1.length c1) ∧ w.cell? ⟨(ad.add (i.toNat * 3)).block, (ad.add (i.toNat * 3)).off + 2, none⟩ = some (.slice A2 (bg xs i).f2.length c2) ∧ (bg xs i).f0.length ≤ c0 ∧ qj.C w A0 (bg xs i).f0.length (bg xs i).f0 ∧ (bg xs i).f1.length ≤ c1 ∧ Kd.string.C w A1 (bg xs i).f1.length (bg xs i).f1 ∧ (bg xs i).f2.length ≤ c2 ∧ k28.C w A2 (bg xs i).f2.length (bg xs i).f2 := by
 obtain ⟨ad, c, e, _, hK, hc0⟩ := Kd.Y9 h z28 i h0 h1
 have hc : ∀ j u, c[j]? = some u → w.cell? (ad.add (i.toNat * 3 + j)) = some u := hc0
 obtain ⟨A0, c0, A1, c1, A2, c2, rfl, l0, g0, l1, g1, l2, g2⟩ := adk hK
 exact ⟨ad, A0, c0, A1, c1, A2, c2, e, hc 0 _ rfl, by rw [← vS _ _ 1 (by omega)]; exact hc 1 _ rfl, by rw [← vS _ _ 2 (by omega)]; exact hc 2 _ rfl, l0, g0, l1, g1, l2, g2⟩
set_option maxHeartbeats 8000000
set_option maxRecDepth 100000
mutual
def iE.f : Nat → List (gU) → List ByteArray → List (mY) → Option ((List (gU)) × List ByteArray × (List (mY)))
 | 0, _, _, _ => none
 | k + 1, dh, bU, ay => (some (([] : List (gU)) : List (gU))).bind fun PI => (if PI.length + dh.length < 4398046511104 then ((some (([] : List ByteArray) : List ByteArray)).bind fun PK => (if PK.length + bU.length < 8796093022208 then ((fM.l0 k (([] : List (mY))) ay (ay.length : Int) 0).bind fun VP => (some ((PI ++ dh), (PK ++ bU), VP))) else (none))) else (none))
def fM.l0 : Nat → List (mY) → List (mY) → Int → Int → Option ((List (mY)))
 | 0, _, _, _, _ => none
 | k + 1, x3, x7, x8, x9 => if x9 < x8 then (if 0 ≤ x9 then (if x9 < (x7.length : Int) then ((iE.f k ((bg x7 x9).f0) ((bg x7 x9).f1) ((bg x7 x9).f2)).bind fun adl => (if x3.length < 1954687338268 then (fM.l0 k (x3 ++ [(⟨adl.1, adl.2.1, adl.2.2⟩ : mY)]) x7 x8 (wrap64 (x9 + 1))) else (none))) else (none)) else (none)) else (some x3)
end
def fM.f (k : Nat) (l0 : List (mY)) : Option ((List (mY))) := fM.l0 k (([] : List (mY))) l0 (l0.length : Int) 0
theorem iE.amk (k : Nat) (dh : List (gU)) (bU : List ByteArray) (ay : List (mY)) : iE.f (k + 1) dh bU ay = ((some (([] : List (gU)) : List (gU))).bind fun PI => (if PI.length + dh.length < 4398046511104 then ((some (([] : List ByteArray) : List ByteArray)).bind fun PK => (if PK.length + bU.length < 8796093022208 then ((fM.f k ay).bind fun VP => (some ((PI ++ dh), (PK ++ bU), VP))) else (none))) else (none))) := by simp only [iE.f, fM.f]
theorem iE.pair (k : Nat) : (∀ (iY : Option Addr) (iZ : Nat) (dh : List (gU)) (iU : Option Addr) (iV : Nat) (bU : List ByteArray) (gW : Option Addr) (fA : Nat) (ay : List (mY)) (r1 : List (gU)) (r2 : List ByteArray) (r3 : List (mY)) (w : World) (lW : Kd.C qj w iY dh.length dh) (lX : dh.length ≤ iZ) (lY : Kd.C Kd.string w iU bU.length bU) (lZ : bU.length ≤ iV) (jG : Kd.C k28 w gW ay.length ay) (jH : ay.length ≤ fA) (h : iE.f k dh bU ay = some (r1, r2, r3)),
  Calls Tryz.prog 61 #[.agg #[.slice iY dh.length iZ, .slice iU bU.length iV, .slice gW ay.length fA]] w fun e w' => ∃ ql DT E8 : Value, e = .returned (.agg #[ql, DT, E8]) ∧ Kd.R qj 69 w' w.heap.size (fun _ => True) ql r1 ∧ Kd.R Kd.string 9 w' w.heap.size (fun _ => True) DT r2 ∧ Kd.R k28 28 w' w.heap.size (fun k_ => some k_ ≠ (ql : Value).ownBlock ∧ some k_ ≠ (DT : Value).ownBlock) E8 r3 ∧ Below w.heap.size w w') ∧
  (∀ (A0 : Option Addr) (c0 : Nat) (l0 : List (mY)) (r : List (mY)) (w : World) (hr0 : Kd.C k28 w A0 l0.length l0) (hc0 : l0.length ≤ c0) (h : fM.f k l0 = some r),
  Calls Tryz.prog 104 #[.slice A0 l0.length c0] w fun e w' => ∃ ql : Value, e = .returned (ql) ∧ Kd.R k28 28 w' w.heap.size (fun _ => True) ql r ∧ Below w.heap.size w w') := by
 induction k using Nat.strongRecOn with
 | _ k ih =>
 refine ⟨?_, ?_⟩
 ·
  cases k with
  | zero => intro iY iZ dh iU iV bU gW fA ay r1 r2 r3 w lW lX lY lZ jG jH h; exact absurd h (by simp [iE.f])
  | succ k =>
  have ihB := (ih k (Nat.lt_succ_self k)).2
  clear ih
  intro iY iZ dh iU iV bU gW fA ay r1 r2 r3 w lW lX lY lZ jG jH h
  rw [iE.amk] at h
  have Dj := Tryz.underlying28
  have oP := ak lW
  have pI := ak lX
  clear lW lX
  have rE := ak lY
  have uG := ak lZ
  clear lY lZ
  have jh := ak jG
  have lC := ak jH
  clear jG jH
  have HB := ak (Below.refl w.heap.size w)
  have H : ((some (([] : List (gU)) : List (gU))).bind fun PI => (if PI.length + dh.length < 4398046511104 then ((some (([] : List ByteArray) : List ByteArray)).bind fun PK => (if PK.length + bU.length < 8796093022208 then ((fM.f k ay).bind fun VP => (some ((PI ++ dh), (PK ++ bU), VP))) else (none))) else (none))) = some (r1, r2, r3) := h
  clear h
  replace H := ny H
  obtain ⟨PI, apm, H⟩ := H
  replace H := nl H; obtain ⟨aml, H⟩ := H
  obtain ⟨adn, aja⟩ := nm (PI ++ dh)
  rw [← aja.out] at H
  replace H := ny H
  obtain ⟨PK, apn, H⟩ := H
  replace H := nl H; obtain ⟨ab8, H⟩ := H
  obtain ⟨amm, ajb⟩ := nm (PK ++ bU)
  rw [← ajb.out] at H
  replace H := bd H; obtain ⟨VP, A4, H⟩ := H
  obtain ⟨rfl, rfl, rfl⟩ := s3 H
  go_enter Tryz.func61, Tryz.ntmps61
  go_wp2_with (first | (refine bX HB 1 #[.slice iY dh.length iZ, .slice iU bU.length iV, .slice gW ay.length fA] 28 ?_; intro ado w5 wG aBB hb; replace HB := bs HB hb; clear hb) | (refine bY HB 2 #[.slice none 0 0, .slice none 0 0, .slice none 0 0] 28 ?_; intro Za w6 Dk aBC hg hb; have ab9 := BL wG hg; have ab_ := BM wG hg; replace wG := kb wG hb; replace HB := bz HB hb; clear hb hg) | (refine H7 3 qj 69 apm ?_; intro ayl w7 ho8 hb; have Zb := ak (Kd.aC ho8 (aj bb)); replace wG := kb wG hb; replace Dk := kb Dk hb; replace HB := bz HB hb; clear hb ho8; have aym := ab9.out; have ayn := ab_.out; have z10 := jW wG.out) | ((with_reducible refine eu (b := .append) (xs := #[.tmp 3, .tmp 5]) rfl ?_); at_builtin; refine Kd.qy qj (w0 := w) w.heap.size rfl (.tmp 3) (.tmp 5) 25 69 (.agg #[(.string ⟨#[]⟩), (.string ⟨#[]⟩)]) 32 rfl Tryz.underlying25 Dc rfl (by decide) (by omega) ayl PI dh _ _ _ (fun _ => True) (fun _ => False) rfl rfl ?aO ?aR (fun _ _ h => h) (fun _ h => h.elim) ?aF ?aB ?aS ?aL ?_; (case aR => repeat (first | exact (Kd.aN oP.out HB.out) | (with_reducible refine Kd.jf ?_ _) | (with_reducible refine Kd.jg ?_ _) | (with_reducible refine Kd.kH ?_))); (case aB => exact bb); (case aF => exact (fun _ _ => trivial)); (case aO => exact (ur Zb.out)); (case aS => exact (aj bb)); (case aL => have := aml.out; omega); intro aEp Ub ho hb hg hat; rw [← aja.out] at ho; have NJ := ak (ho); replace wG := ak (dw (g := ado) (o := .cells #[.slice iY dh.length iZ, .slice iU bU.length iV, .slice gW ay.length fA] 28 (0, 0)) (ub wG.out) hg (Kd.oU Zb.out wG.out (by decide))); replace Dk := ak (dw (g := Za) (o := .cells #[.slice none 0 0, .slice none 0 0, .slice none 0 0] 28 (0, 0)) (ub Dk.out) hg (Kd.oU Zb.out Dk.out (by decide))); replace HB := ak (hb); clear ho hb hg hat Zb; obtain ⟨E_, ES, Uc⟩ := Kd.aV NJ.out; subst Uc; have z13 := jW wG.out) | (refine H7 8 Kd.string 9 apn ?_; intro ayo SA Ot hb; have VQ := ak (Kd.aC Ot (aj bb)); replace NJ := rg NJ hb; replace wG := kp wG #[.slice E_ adn.length ES, .slice iU bU.length iV, .slice gW ay.length fA] hb; replace Dk := kp Dk #[.slice none 0 0, .slice none 0 0, .slice none 0 0] hb; replace HB := bz HB hb; clear hb Ot; have z16 := jW wG.out) | ((with_reducible refine eu (b := .append) (xs := #[.tmp 8, .tmp 10]) rfl ?_); at_builtin; refine Kd.qy Kd.string (w0 := w) w.heap.size rfl (.tmp 8) (.tmp 10) 23 9 (.string ⟨#[]⟩) 16 rfl Tryz.underlying23 info9 rfl (by decide) (by omega) ayo PK bU _ _ _ (fun _ => True) (fun _ => False) rfl rfl ?aO ?aR (fun _ _ h => h) (fun _ h => h.elim) ?aF ?aB ?aS ?aL ?_; (case aR => repeat (first | exact (Kd.aN rE.out HB.out) | (with_reducible refine Kd.jf ?_ _) | (with_reducible refine Kd.jg ?_ _) | (with_reducible refine Kd.kH ?_))); (case aB => exact bb); (case aF => exact (fun _ _ => trivial)); (case aO => exact (ur VQ.out)); (case aS => exact (aj bb)); (case aL => have := ab8.out; omega); intro aEq w17 ho hb hg hat; rw [← ajb.out] at ho; have Zc := ak (ho); replace wG := ak (dw (g := ado) (o := .cells #[.slice E_ adn.length ES, .slice iU bU.length iV, .slice gW ay.length fA] 28 (0, 0)) (ub wG.out) hg (Kd.oU VQ.out wG.out (by decide))); replace Dk := ak (dw (g := Za) (o := .cells #[.slice none 0 0, .slice none 0 0, .slice none 0 0] 28 (0, 0)) (ub Dk.out) hg (Kd.oU VQ.out Dk.out (by decide))); replace NJ := ak (Kd.qm (ur NJ.out) (Kd.kQ (ur VQ.out)) (by decide) hg); replace HB := ak (hb); clear ho hb hg hat VQ; obtain ⟨Hg, Hl, acd⟩ := Kd.aV Zc.out; subst acd; have z19 := jW wG.out) | (refine gV Tryz.func104 (ihB _ _ ay VP _ (Kd.aN jh.out bb) lC.out A4.out) ?_; rintro aEr w20 ⟨ho0, hb⟩; have apo := ak (Kd.aC (Kd.nN (Kd.nN (Kd.gK (Kd.gK ho0 (Kd.kU (rh NJ))) (Kd.kU (rh Zc))) (g := ado) (o := .cells #[.slice E_ adn.length ES, .slice Hg amm.length Hl, .slice gW ay.length fA] 28 (0, 0)) bq) (g := Za) (o := .cells #[.slice none 0 0, .slice none 0 0, .slice none 0 0] 28 (0, 0)) bq) (aj bb)); replace NJ := rg NJ hb; replace Zc := rg Zc hb; replace wG := kp wG #[.slice E_ adn.length ES, .slice Hg amm.length Hl, .slice gW ay.length fA] hb; replace Dk := kp Dk #[.slice none 0 0, .slice none 0 0, .slice none 0 0] hb; replace HB := bz HB hb; clear hb; (try clear ho0); obtain ⟨Ou, Ov, XT⟩ := Kd.aV apo.out; subst XT; have z22 := jW wG.out; have z23 := jW Dk.out))
  refine bodyPost_ret (results_cell_row rfl _ _ Za 28 #[.slice E_ adn.length ES, .slice Hg amm.length Hl, .slice Ou VP.length Ov] (0, 0) _ rfl bq Tryz.underlying28 rfl (by kernel_rfl)) rfl ?_
  exact ⟨_, _, _, er, rr, rr, rr, bb⟩
 ·
  intro A0 c0 l0 r w hr0 hc0 h
  have Dj := Tryz.underlying28
  have HR0 := ak hr0
  have yu := ak hc0
  clear hr0 hc0
  have HB := ak (Below.refl w.heap.size w)
  have H : (fM.l0 k (([] : List (mY))) l0 (l0.length : Int) 0) = some r := h
  clear h
  obtain ⟨y101, ajc⟩ := nm ([] : List (mY))
  rw [← ajc.out] at H
  have H' := ak H; clear H
  go_enter Tryz.func104, Tryz.ntmps104
  go_wp2_with (refine H7 6 k28 28 ajc ?_; intro aEs w2 ho3 hb; have apq := ak (Kd.aC ho3 (aj (ul HB.out))); replace HB := bs HB hb; clear hb ho3)
  go_loopg [3, 9] k (fun kq v3 v9 w' => ∃ (dM : List (mY)) (xA : Int), v9 = .int .i64 xA ∧ ah (fM.l0 kq dM l0 (l0.length : Int) xA = some r) ∧ ah (kq ≤ k) ∧ ah (Kd.R k28 28 w' w.heap.size (fun _ => True) v3 dM) ∧ ah (Below w.heap.size w w'))
  case atStart => exact ⟨_, _, rs, H', ⟨Nat.le_refl _⟩, ⟨ur apq.out⟩, ⟨ul HB.out⟩⟩
  case round =>
   clear H'
   obtain ⟨dM, xA, rfl, HA, xG, oV, HB⟩ := hrel
   cases gk with
   | zero => exact zz HA.out
   | succ k1 =>
    obtain ⟨H⟩ := HA
    simp only [fM.l0] at H
    replace H := sd H
    rcases H with ⟨su, H⟩ | ⟨su, H⟩
    ·
     replace H := oL H; obtain ⟨nO, H⟩ := H; replace H := oL H; obtain ⟨oz, H⟩ := H; replace H := bd H
     obtain ⟨⟨adp, t109, adq⟩, A7, H⟩ := H
     (try dsimp only at H)
     replace H := nl H; obtain ⟨amn, H⟩ := H
     obtain ⟨y115, ajd⟩ := nm (dM ++ [(⟨adp, t109, adq⟩ : mY)])
     rw [← ajd.out] at H
     have H' := ak H; clear H
     have amo := zi xA
     have amq := zj xA l0.length
     obtain ⟨aBD, Iw, Iy, Iz, IB, IC, IE, ayp, Zd, Ze, Zf, Zg, Zh, Zi, Zj, Zk, Zl⟩ := yB HR0.out xA amo amq
     cases ayp
     replace Zd := cl HB.out Zd
     replace Ze := cl HB.out Ze
     replace Zf := cl HB.out Zf
     have ag1 := ak Zh
     have ag2 := ak Zg
     clear Zh Zg
     have ag3 := ak Zj
     have ag4 := ak Zi
     clear Zj Zi
     have ag5 := ak Zl
     have ag6 := ak Zk
     clear Zl Zk
     replace amo := eq_true amo
     replace amq := eq_true amq
     go_wp2_with (first | (refine bY HB 5 #[.slice none 0 0, .slice none 0 0, .slice none 0 0] 28 ?_; intro BU w9 NK aBE hg hb; replace oV := ak (Kd.sO (Kd.yZ (ur oV.out) BU (Nat.le_of_eq hg.symm)) hb); replace HB := bs HB hb; clear hb hg; have z10 := jW NK.out) | (refine gL 61 15 Tryz.func61 #[.agg #[.slice Iw ((bg l0 xA).f0).length Iy, .slice Iz ((bg l0 xA).f1).length IB, .slice IC ((bg l0 xA).f2).length IE]] ?_; (with_reducible refine ((ih k1 (by have := xG.out; omega)).1 _ _ ((bg l0 xA).f0) _ _ ((bg l0 xA).f1) _ _ ((bg l0 xA).f2) adp t109 adq _ (Kd.aN ag1.out bb) ag2.out (Kd.aN ag3.out bb) ag4.out (Kd.aN ag5.out bb) ag6.out A7.out).mono ?_); rintro e Ub ⟨v107, aEt, aEu, rfl, ho0, ho1, ho2, hb⟩; refine ⟨_, rfl, ?_⟩; have adr := ak (Kd.aC ho0 (aj bb)); have ads := ak (Kd.aC ho1 (aj bb)); have adt := ak (Kd.aC (Kd.nN (Kd.gK ho2 (Kd.kU (ur (Kd.bn (Kd.lS (p := ⟨BU, 2, none⟩) (Kd.lS (p := ⟨BU, 1, none⟩) (Kd.lS (p := ⟨BU, 0, none⟩) (Kd.bn oV.out (fun k_ hk => (⟨hk, hk.2⟩ : _ ∧ k_ ≠ BU))) (fun _ hk => hk.2) (.slice Iw ((bg l0 xA).f0).length Iy)) (fun _ hk => hk.2) (.slice Iz ((bg l0 xA).f1).length IB)) (fun _ hk => hk.2) (.slice IC ((bg l0 xA).f2).length IE)) (fun _ h_ => h_.1))))) (g := BU) (o := .cells #[.slice Iw ((bg l0 xA).f0).length Iy, .slice Iz ((bg l0 xA).f1).length IB, .slice IC ((bg l0 xA).f2).length IE] 28 (0, 0)) bq) (aj bb)); replace oV := ak (Kd.bn (Kd.tV (Kd.tV (Kd.tV (Kd.adu (ur (Kd.bn (Kd.lS (p := ⟨BU, 2, none⟩) (Kd.lS (p := ⟨BU, 1, none⟩) (Kd.lS (p := ⟨BU, 0, none⟩) (Kd.bn oV.out (fun k_ hk => (⟨hk, hk.2⟩ : _ ∧ k_ ≠ BU))) (fun _ hk => hk.2) (.slice Iw ((bg l0 xA).f0).length Iy)) (fun _ hk => hk.2) (.slice Iz ((bg l0 xA).f1).length IB)) (fun _ hk => hk.2) (.slice IC ((bg l0 xA).f2).length IE)) (fun _ h_ => h_.1))) hb) (Kd.fO ho0)) (Kd.fO ho1)) (Kd.fO ho2)) (fun _ h_ => h_.1)); replace NK := kp NK #[.slice Iw ((bg l0 xA).f0).length Iy, .slice Iz ((bg l0 xA).f1).length IB, .slice IC ((bg l0 xA).f2).length IE] hb; replace HB := bz HB hb; clear hb; (try clear ho0); (try clear ho1); (try clear ho2); obtain ⟨XU, Jk, Ud⟩ := Kd.aV adr.out; subst Ud; obtain ⟨ace, acf, XV⟩ := Kd.aV ads.out; subst XV; obtain ⟨LU, LV, Ue⟩ := Kd.aV adt.out; subst Ue) | ((with_reducible refine eu (b := .append) (xs := #[.tmp 13, .tmp 16]) rfl ?_); at_builtin; refine Kd.qc k28 (w0 := w) w.heap.size rfl (.tmp 13) (.tmp 16) 26 28 (.agg #[(.slice none 0 0), (.slice none 0 0), (.slice none 0 0)]) 72 rfl Tryz.underlying26 T_ rfl (by decide) (by omega) u3 dM (⟨adp, t109, adq⟩ : mY) [.slice XU adp.length Jk, .slice ace t109.length acf, .slice LU adq.length LV] (fun k_ => k_ ≠ BU) (fun k_ => ((fun k_ => k_ ≠ BU)) k_ ∧ some k_ ≠ (u3 : Value).ownBlock) rfl rfl ?aP (fun _ hk => hk) ?aF ?aO ?aB ?aS ?aL ?_; (case aP => exact OY _ _ _ (⟨adp, t109, adq⟩ : mY) (Kd.bn (Kd.mG (Kd.o8 (adr.out) (Kd.kQ oV.out) (by decide)) NK.out (by decide)) (fun k_ hk => ⟨hk.2, hk.1.2⟩)) (Kd.bn (Kd.mG (Kd.o8 (ads.out) (Kd.kQ oV.out) (by decide)) NK.out (by decide)) (fun k_ hk => ⟨hk.2, hk.1.2⟩)) (Kd.bn (adt.out) (fun k_ hk => ⟨hk.2, hk.1.2⟩))); (case aB => exact bb); (case aF => exact (fun k_ hk => Kd.yC (g := BU) (o := .cells #[.slice Iw ((bg l0 xA).f0).length Iy, .slice Iz ((bg l0 xA).f1).length IB, .slice IC ((bg l0 xA).f2).length IE] 28 (0, 0)) (ub NK.out) k_ hk)); (case aO => exact (ur (Kd.bn oV.out (fun _ hk => hk.1.1.1.2)))); (case aS => exact (aj bb)); (case aL => have := amn.out; omega); intro aEv w12 ho hb hg hat; rw [← ajd.out] at ho; have apr := ak (ho); replace NK := ak (dw (g := BU) (o := .cells #[.slice Iw ((bg l0 xA).f0).length Iy, .slice Iz ((bg l0 xA).f1).length IB, .slice IC ((bg l0 xA).f2).length IE] 28 (0, 0)) (ub NK.out) hg (Kd.zD oV.out (fun _ hk => hk.1.1.1.2))); replace HB := ak (hb); clear ho hb hg hat oV adr ads adt))
     go_roundg k1
     case measure => exact kl
     case rel => exact ⟨_, _, rs, H', ⟨kl⟩, ⟨ur (Kd.bn apr.out (fun _ hk => trivial))⟩, ⟨bb⟩⟩
    ·
     obtain rfl := s1 H
     go_wp2
     go_ret
     exact ⟨_, er, ur oV.out, ul HB.out⟩
theorem iE.calls {k iZ iV fA : Nat} {iY iU gW : Option Addr} {dh r1 : List (gU)} {bU r2 : List ByteArray} {ay r3 : List (mY)} {w : World} (lW : Kd.C qj w iY dh.length dh) (lX : dh.length ≤ iZ) (lY : Kd.C Kd.string w iU bU.length bU) (lZ : bU.length ≤ iV) (jG : Kd.C k28 w gW ay.length ay) (jH : ay.length ≤ fA) (h : iE.f k dh bU ay = some (r1, r2, r3)) :
  Calls Tryz.prog 61 #[.agg #[.slice iY dh.length iZ, .slice iU bU.length iV, .slice gW ay.length fA]] w fun e w' => ∃ ql DT E8 : Value, e = .returned (.agg #[ql, DT, E8]) ∧ Kd.R qj 69 w' w.heap.size (fun _ => True) ql r1 ∧ Kd.R Kd.string 9 w' w.heap.size (fun _ => True) DT r2 ∧ Kd.R k28 28 w' w.heap.size (fun k_ => some k_ ≠ (ql : Value).ownBlock ∧ some k_ ≠ (DT : Value).ownBlock) E8 r3 ∧ Below w.heap.size w w' := (iE.pair k).1 iY iZ dh iU iV bU gW fA ay r1 r2 r3 w lW lX lY lZ jG jH h
theorem fM.calls {k c0 : Nat} {A0 : Option Addr} {l0 r : List (mY)} {w : World} (hr0 : Kd.C k28 w A0 l0.length l0) (hc0 : l0.length ≤ c0) (h : fM.f k l0 = some r) :
  Calls Tryz.prog 104 #[.slice A0 l0.length c0] w fun e w' => ∃ ql : Value, e = .returned (ql) ∧ Kd.R k28 28 w' w.heap.size (fun _ => True) ql r ∧ Below w.heap.size w w' := (iE.pair k).2 A0 c0 l0 r w hr0 hc0 h
end Go.Proofs.YtncdadcmghglkaaGreatDoor.PFnKidValid
