/- Printed walks; conditions: those in each statement. -/
import Derived.Test.YtncdadcmghglkaaGreatDoorVFnPartLinesQt
import Derived.Test.YtncdadcmghglkaaGreatDoorProg
import Derived.Test.YtncdadcmghglkaaGreatDoorVFnPartLinesXt
import Derived.Below
import Derived.Deep.Draws
import Derived.Deep.AppendLies
import Derived.Maps.AppendAt
import Derived.OwnWalk
import Derived.Laws.BytesArg
import Derived.Laws.MakeOwn
import Derived.Laws.OwnMore
import Derived.Deep.OwnRows
import Derived.Tactics
import Derived.Lib.ConvBytes
import Derived.Laws.Slices
import Derived.WalkKit
import Derived.KernelRfl
import Derived.RowKit3
import Derived.Deep.LoopGhost
import Derived.Deep.QuietTactic
import Derived.BigQuiet
import Derived.WideLaws
import Derived.Deep.DeepCutAuto
import Derived.Deep.CutBlock
import Derived.Deep.RegionHeld3
import Derived.Laws.Rows
import Derived.Lib.AppendStr
import Derived.ArgAppend
import Derived.Laws.IdiomCopy
import Derived.OrdersHeld
import Derived.Laws.BitsLemmas
import Derived.RowKit
import Derived.Test.YtncdadcmghglkaaGreatDoorMx
import Derived.Test.YtncdadcmghglkaaGreatDoorVFnPartLinesWords
import Derived.Test.YtncdadcmghglkaaGreatDoorVFnPartLinesLast
import Derived.Test.YtncdadcmghglkaaGreatDoorVFnPartLinesTab
import Derived.Test.YtncdadcmghglkaaGreatDoorVFnPartLinesApart
import Derived.Test.YtncdadcmghglkaaGreatDoorVFnPartLinesFoot
import Derived.Test.YtncdadcmghglkaaGreatDoorVFnPartLinesKept
import Derived.Test.YtncdadcmghglkaaGreatDoorVFnPartLinesShare
import Derived.Test.YtncdadcmghglkaaGreatDoorVFnPartLinesN
import Derived.Test.YtncdadcmghglkaaGreatDoorVFnPartLinesRepsOne
import Derived.Test.YtncdadcmghglkaaGreatDoorVFnPartLinesInv
import Derived.Test.YtncdadcmghglkaaGreatDoorVFnPartLinesGuard
import Derived.Test.YtncdadcmghglkaaGreatDoorVFnPartLinesMore
import Derived.Test.YtncdadcmghglkaaGreatDoorVFnPartLinesYt
-- dense
-- sq
-- sq2
-- short
namespace Go.Proofs.YtncdadcmghglkaaGreatDoor.PFnPartLines
open Go.RowKit Go.Proofs.YtncdadcmghglkaaGreatDoor.X Go.Proofs.YtncdadcmghglkaaGreatDoorW.bI Go.Proofs.YtncdadcmghglkaaGreatDoorW.iy Go.Proofs.YtncdadcmghglkaaGreatDoorW.iZ
attribute [local go_sem] kZ lg nK nM jW jX lq lu   -- for this text's walks alone
set_option linter.unusedVariables false
set_option linter.unusedSimpArgs false
def aog : Option Int → Value
 | none => .nilIface
 | some c => .iface 0 (.int .i64 c)
theorem rV : aog none = .nilIface := rfl
theorem rW (c : Int) : aog (some c) = .iface 0 (.int .i64 c) := rfl
theorem info3 : (Tryz.prog.info? 3).map (fun i => (i.zero, i.size, i.bytes)) = some (some (.int .i64 0), 1, 8) := by kernel_rfl
theorem info5 : (Tryz.prog.info? 5).map (fun i => (i.zero, i.size, i.bytes)) = some (some (.int .u8 0), 1, 1) := by kernel_rfl
theorem info9 : (Tryz.prog.info? 9).map (fun i => (i.zero, i.size, i.bytes)) = some (some (.string ⟨#[]⟩), 1, 16) := by kernel_rfl
theorem info23 : (Tryz.prog.info? 23).map (fun i => (i.zero, i.size, i.bytes)) = some (some (.slice none 0 0), 1, 24) := by kernel_rfl
theorem SN : (Tryz.prog.info? 28).map (fun i => (i.zero, i.size, i.bytes)) = some (some (.agg #[(.slice none 0 0), (.slice none 0 0), (.slice none 0 0)]), 3, 72) := by kernel_rfl
theorem Cc : (Tryz.prog.info? 69).map (fun i => (i.zero, i.size, i.bytes)) = some (some (.agg #[(.string ⟨#[]⟩), (.string ⟨#[]⟩)]), 2, 32) := by kernel_rfl
-- the values' own types
/-! #### struct type 69 -/
structure gX where
 f0 : ByteArray
 f1 : ByteArray
def z69 : gX := ⟨(⟨#[]⟩ : ByteArray), (⟨#[]⟩ : ByteArray)⟩
def qI : Kd gX := Kd.iso (Kd.pair Kd.string Kd.string) (fun x : gX => (x.f0, x.f1))
theorem acp {w : World} {x : gX} {cs : List Value} (h : qI.K w x cs) : cs = [.string x.f0, .string x.f1] := by
 obtain ⟨_, _, rfl, rfl, rfl⟩ := h
 exact rfl
theorem aoe {w : World} {base : Nat} {ok : Nat → Prop} {x : gX} {cs : List Value} (h : qI.M w base ok x cs) : cs = [.string x.f0, .string x.f1] := by
 obtain ⟨_, _, rfl, rfl, rfl⟩ := h
 exact rfl
theorem axh (w : World) (x : gX)  : qI.K w x [.string x.f0, .string x.f1] := ⟨[.string x.f0], [.string x.f1], rfl, rfl, rfl⟩
theorem vW (w : World) (base : Nat) (ok : Nat → Prop) (x : gX)  : qI.M w base ok x [.string x.f0, .string x.f1] := ⟨[.string x.f0], [.string x.f1], rfl, rfl, rfl⟩
def fC (xs : List gX) (i : Int) : gX := xs.getD i.toNat z69
theorem qL {w : World} {A : Option Addr} {n : Nat} {xs : List gX} (h : Kd.C qI w A n xs) (i : Int) (h0 : 0 ≤ i) (h1 : i < n) : ∃ ad , A = some ad ∧ w.cell? (ad.add (i.toNat * 2)) = some (.string (fC xs i).f0) ∧ w.cell? ⟨(ad.add (i.toNat * 2)).block, (ad.add (i.toNat * 2)).off + 1, none⟩ = some (.string (fC xs i).f1) := by
 obtain ⟨ad, c, e, _, hK, hc0⟩ := Kd.Yo h z69 i h0 h1
 have hc : ∀ j u, c[j]? = some u → w.cell? (ad.add (i.toNat * 2 + j)) = some u := hc0
 obtain rfl := acp hK
 exact ⟨ad, e, hc 0 _ rfl, by rw [← KW _ _ 1 (by omega)]; exact hc 1 _ rfl⟩
def Yp (xs : List (List gX)) (i : Int) : (List gX) := xs.getD i.toNat ([] : List gX)
theorem aAu {w : World} {A : Option Addr} {n : Nat} {xs : List (List gX)} (h : Kd.C (Kd.slice 69 qI) w A n xs) (i : Int) (h0 : 0 ≤ i) (h1 : i < n) : ∃ ad A0 c0, A = some ad ∧ w.cell? (ad.add i.toNat) = some (.slice A0 (Yp xs i).length c0) ∧ (Yp xs i).length ≤ c0 ∧ qI.C w A0 (Yp xs i).length (Yp xs i) := by
 obtain ⟨ad, c, e, _, hK, hc0⟩ := Kd.Yo h ([] : List gX) i h0 h1
 have hc : ∀ j u, c[j]? = some u → w.cell? (ad.add (i.toNat * 1 + j)) = some u := hc0
 obtain ⟨A0, c0, rfl, l0, g0⟩ := hK
 exact ⟨ad, A0, c0, e, by have hq := hc 0 _ rfl; rwa [Nat.mul_one, Nat.add_zero] at hq, l0, g0⟩
def xH (xs : List (List ByteArray)) (i : Int) : (List ByteArray) := xs.getD i.toNat ([] : List ByteArray)
theorem IQ {w : World} {A : Option Addr} {n : Nat} {xs : List (List ByteArray)} (h : Kd.C (Kd.slice 9 Kd.string) w A n xs) (i : Int) (h0 : 0 ≤ i) (h1 : i < n) : ∃ ad A0 c0, A = some ad ∧ w.cell? (ad.add i.toNat) = some (.slice A0 (xH xs i).length c0) ∧ (xH xs i).length ≤ c0 ∧ Kd.string.C w A0 (xH xs i).length (xH xs i) := by
 obtain ⟨ad, c, e, _, hK, hc0⟩ := Kd.Yo h ([] : List ByteArray) i h0 h1
 have hc : ∀ j u, c[j]? = some u → w.cell? (ad.add (i.toNat * 1 + j)) = some u := hc0
 obtain ⟨A0, c0, rfl, l0, g0⟩ := hK
 exact ⟨ad, A0, c0, e, by have hq := hc 0 _ rfl; rwa [Nat.mul_one, Nat.add_zero] at hq, l0, g0⟩
/-! #### struct type 28, nested in itself -/
structure nG where
 f0 : (List gX)
 f1 : (List ByteArray)
 f2 : (List nG)
def z28 : nG := ⟨([] : List gX), ([] : List ByteArray), ([] : List nG)⟩
def F28 (d : Kd nG) : Kd nG := Kd.iso (Kd.pair (Kd.slice 69 qI) (Kd.pair (Kd.slice 9 Kd.string) (Kd.slice 28 d))) (fun x : nG => (x.f0, x.f1, x.f2))
theorem SQ : Kd.Et F28 := Kd.acr _ (Kd.Q9 (Kd.OM _) (Kd.Q9 (Kd.OM _) (Kd.WX 28 Kd.afY)))
theorem aoh : Kd.Sub F28 [9, 28, 69] := Kd.afZ _ (Kd.U4 (Kd.sub_const _ (by decide)) (Kd.U4 (Kd.sub_const _ (by decide)) (Kd.aa9 28 (by decide) Kd.ak8)))
theorem ak9 : ∀ n, (Kd.upto F28 3 [9, 28, 69] n).sz = 3 := Kd.af0 (fun _ => rfl)
def k28 : Kd nG := Kd.fix F28 3 [9, 28, 69] ak9 (Kd.acs aoh)
theorem acu {w : World} {x : nG} {cs : List Value} (h : k28.K w x cs) : ∃ A0 c0 A1 c1 A2 c2, cs = [.slice A0 x.f0.length c0, .slice A1 x.f1.length c1, .slice A2 x.f2.length c2] ∧ x.f0.length ≤ c0 ∧ qI.C w A0 x.f0.length x.f0 ∧ x.f1.length ≤ c1 ∧ Kd.string.C w A1 x.f1.length x.f1 ∧ x.f2.length ≤ c2 ∧ k28.C w A2 x.f2.length x.f2 := by
 obtain ⟨n, h⟩ := h
 cases n with
 | zero => exact h.elim
 | succ n =>
  obtain ⟨_, _, rfl, ⟨A0, c0, rfl, l0, g0⟩, ⟨_, _, rfl, ⟨A1, c1, rfl, l1, g1⟩, ⟨A2, c2, rfl, l2, g2⟩⟩⟩ := h
  exact ⟨A0, c0, A1, c1, A2, c2, rfl, l0, g0, l1, g1, l2, Kd.aoi g2⟩
theorem aof {w : World} {base : Nat} {ok : Nat → Prop} {x : nG} {cs : List Value} (h : k28.M w base ok x cs) : ∃ v0 v1 v2, cs = [v0, v1, v2] ∧ qI.R 69 w base ok v0 x.f0 ∧ Kd.string.R 9 w base ok v1 x.f1 ∧ k28.R 28 w base ok v2 x.f2 := by
 obtain ⟨n, h⟩ := h
 cases n with
 | zero => exact h.elim
 | succ n =>
  obtain ⟨_, _, rfl, ⟨v0, rfl, g0⟩, ⟨_, _, rfl, ⟨v1, rfl, g1⟩, ⟨v2, rfl, g2⟩⟩⟩ := h
  exact ⟨v0, v1, v2, rfl, g0, g1, Kd.aoj g2⟩
theorem axi (w : World) (x : nG) {A0 : Option Addr} {c0 : Nat} (l0 : x.f0.length ≤ c0) (g0 : qI.C w A0 x.f0.length x.f0) {A1 : Option Addr} {c1 : Nat} (l1 : x.f1.length ≤ c1) (g1 : Kd.string.C w A1 x.f1.length x.f1) {A2 : Option Addr} {c2 : Nat} (l2 : x.f2.length ≤ c2) (g2 : k28.C w A2 x.f2.length x.f2) : k28.K w x [.slice A0 x.f0.length c0, .slice A1 x.f1.length c1, .slice A2 x.f2.length c2] := by
 obtain ⟨n2, q2⟩ := Kd.WY SQ g2
 have r2 := Kd.aa_ SQ ak9 (show n2 ≤ n2 by omega) q2
 exact ⟨n2 + 1, ⟨[.slice A0 x.f0.length c0], [.slice A1 x.f1.length c1, .slice A2 x.f2.length c2], rfl, ⟨A0, c0, rfl, l0, g0⟩, ⟨[.slice A1 x.f1.length c1], [.slice A2 x.f2.length c2], rfl, ⟨A1, c1, rfl, l1, g1⟩, ⟨A2, c2, rfl, l2, r2⟩⟩⟩⟩
theorem Oi (w : World) (base : Nat) (ok : Nat → Prop) (x : nG) {v0 : Value} (g0 : qI.R 69 w base ok v0 x.f0) {v1 : Value} (g1 : Kd.string.R 9 w base ok v1 x.f1) {v2 : Value} (g2 : k28.R 28 w base ok v2 x.f2) : k28.M w base ok x [v0, v1, v2] := by
 obtain ⟨n2, q2⟩ := Kd.WZ SQ g2
 have r2 := Kd.abb SQ ak9 (show n2 ≤ n2 by omega) q2
 exact ⟨n2 + 1, ⟨[v0], [v1, v2], rfl, ⟨v0, rfl, g0⟩, ⟨[v1], [v2], rfl, ⟨v1, rfl, g1⟩, ⟨v2, rfl, r2⟩⟩⟩⟩
def cO (xs : List nG) (i : Int) : nG := xs.getD i.toNat z28
theorem EF {w : World} {A : Option Addr} {n : Nat} {xs : List nG} (h : Kd.C k28 w A n xs) (i : Int) (h0 : 0 ≤ i) (h1 : i < n) : ∃ ad A0 c0 A1 c1 A2 c2, A = some ad ∧ w.cell? (ad.add (i.toNat * 3)) = some (.slice A0 (cO xs i).f0.length c0) ∧ w.cell? ⟨(ad.add (i.toNat * 3)).block, (ad.add (i.toNat * 3)).off + 1, none⟩ = some (.slice A1 (cO xs i).f1.length c1) ∧ w.cell? ⟨(ad.add (i.toNat * 3)).block, (ad.add (i.toNat * 3)).off + 2, none⟩ = some (.slice A2 (cO xs i).f2.length c2) ∧ (cO xs i).f0.length ≤ c0 ∧ qI.C w A0 (cO xs i).f0.length (cO xs i).f0 ∧ (cO xs i).f1.length ≤ c1 ∧ Kd.string.C w A1 (cO xs i).f1.length (cO xs i).f1 ∧ (cO xs i).f2.length ≤ c2 ∧ k28.C w A2 (cO xs i).f2.length (cO xs i).f2 := by
 obtain ⟨ad, c, e, _, hK, hc0⟩ := Kd.Yo h z28 i h0 h1
 have hc : ∀ j u, c[j]? = some u → w.cell? (ad.add (i.toNat * 3 + j)) = some u := hc0
 obtain ⟨A0, c0, A1, c1, A2, c2, rfl, l0, g0, l1, g1, l2, g2⟩ := acu hK
 exact ⟨ad, A0, c0, A1, c1, A2, c2, e, hc 0 _ rfl, by rw [← KW _ _ 1 (by omega)]; exact hc 1 _ rfl, by rw [← KW _ _ 2 (by omega)]; exact hc 2 _ rfl, l0, g0, l1, g1, l2, g2⟩
set_option maxHeartbeats 8000000
set_option maxRecDepth 100000
mutual
def iG.f : Nat → List (gX) → List ByteArray → List (nG) → Option ((List (gX)) × List ByteArray × (List (nG)))
 | 0, _, _, _ => none
 | k + 1, dY, dK, aH => (some (([] : List (gX)) : List (gX))).bind fun OO => (if OO.length + dY.length < 4398046511104 then ((some (([] : List ByteArray) : List ByteArray)).bind fun OQ => (if OQ.length + dK.length < 8796093022208 then ((fP.l0 k (([] : List (nG))) aH (aH.length : Int) 0).bind fun U5 => (some ((OO ++ dY), (OQ ++ dK), U5))) else (none))) else (none))
def fP.l0 : Nat → List (nG) → List (nG) → Int → Int → Option ((List (nG)))
 | 0, _, _, _, _ => none
 | k + 1, x3, x7, x8, x9 => if x9 < x8 then (if 0 ≤ x9 then (if x9 < (x7.length : Int) then ((iG.f k ((cO x7 x9).f0) ((cO x7 x9).f1) ((cO x7 x9).f2)).bind fun acv => (if x3.length < 1954687338268 then (fP.l0 k (x3 ++ [(⟨acv.1, acv.2.1, acv.2.2⟩ : nG)]) x7 x8 (wrap64 (x9 + 1))) else (none))) else (none)) else (none)) else (some x3)
end
def fP.f (k : Nat) (l0 : List (nG)) : Option ((List (nG))) := fP.l0 k (([] : List (nG))) l0 (l0.length : Int) 0
theorem iG.ak_ (k : Nat) (dY : List (gX)) (dK : List ByteArray) (aH : List (nG)) : iG.f (k + 1) dY dK aH = ((some (([] : List (gX)) : List (gX))).bind fun OO => (if OO.length + dY.length < 4398046511104 then ((some (([] : List ByteArray) : List ByteArray)).bind fun OQ => (if OQ.length + dK.length < 8796093022208 then ((fP.f k aH).bind fun U5 => (some ((OO ++ dY), (OQ ++ dK), U5))) else (none))) else (none))) := by simp only [iG.f, fP.f]
theorem iG.pair (k : Nat) : (∀ (jO : Option Addr) (jP : Nat) (dY : List (gX)) (jJ : Option Addr) (jK : Nat) (dK : List ByteArray) (iP : Option Addr) (f_ : Nat) (aH : List (nG)) (r1 : List (gX)) (r2 : List ByteArray) (r3 : List (nG)) (w : World) (oW : Kd.C qI w jO dY.length dY) (oZ : dY.length ≤ jP) (o7 : Kd.C Kd.string w jJ dK.length dK) (o8 : dK.length ≤ jK) (kS : Kd.C k28 w iP aH.length aH) (kT : aH.length ≤ f_) (h : iG.f k dY dK aH = some (r1, r2, r3)),
  Calls Tryz.prog 61 #[.agg #[.slice jO dY.length jP, .slice jJ dK.length jK, .slice iP aH.length f_]] w fun e w' => ∃ oV Di EG : Value, e = .returned (.agg #[oV, Di, EG]) ∧ Kd.R qI 69 w' w.heap.size (fun _ => True) oV r1 ∧ Kd.R Kd.string 9 w' w.heap.size (fun _ => True) Di r2 ∧ Kd.R k28 28 w' w.heap.size (fun k_ => some k_ ≠ (oV : Value).ownBlock ∧ some k_ ≠ (Di : Value).ownBlock) EG r3 ∧ Below w.heap.size w w') ∧
  (∀ (A0 : Option Addr) (c0 : Nat) (l0 : List (nG)) (r : List (nG)) (w : World) (hr0 : Kd.C k28 w A0 l0.length l0) (hc0 : l0.length ≤ c0) (h : fP.f k l0 = some r),
  Calls Tryz.prog 104 #[.slice A0 l0.length c0] w fun e w' => ∃ oV : Value, e = .returned (oV) ∧ Kd.R k28 28 w' w.heap.size (fun _ => True) oV r ∧ Below w.heap.size w w') := by
 induction k using Nat.strongRecOn with
 | _ k ih =>
 refine ⟨?_, ?_⟩
 ·
  cases k with
  | zero => intro jO jP dY jJ jK dK iP f_ aH r1 r2 r3 w oW oZ o7 o8 kS kT h; exact absurd h (by simp [iG.f])
  | succ k =>
  have ihB := (ih k (Nat.lt_succ_self k)).2
  clear ih
  intro jO jP dY jJ jK dK iP f_ aH r1 r2 r3 w oW oZ o7 o8 kS kT h
  rw [iG.ak_] at h
  have EH := Tryz.underlying28
  have qB := ak oW
  have qQ := ak oZ
  clear oW oZ
  have tZ := ak o7
  have wP := ak o8
  clear o7 o8
  have jD := ak kS
  have mQ := ak kT
  clear kS kT
  have HB := ak (Below.refl w.heap.size w)
  have H : ((some (([] : List (gX)) : List (gX))).bind fun OO => (if OO.length + dY.length < 4398046511104 then ((some (([] : List ByteArray) : List ByteArray)).bind fun OQ => (if OQ.length + dK.length < 8796093022208 then ((fP.f k aH).bind fun U5 => (some ((OO ++ dY), (OQ ++ dK), U5))) else (none))) else (none))) = some (r1, r2, r3) := h
  clear h
  replace H := ny H
  obtain ⟨OO, aok, H⟩ := H
  replace H := nl H; obtain ⟨ala, H⟩ := H
  obtain ⟨acw, ahQ⟩ := nm (OO ++ dY)
  rw [← ahQ.out] at H
  replace H := ny H
  obtain ⟨OQ, aol, H⟩ := H
  replace H := nl H; obtain ⟨abd, H⟩ := H
  obtain ⟨alb, ahR⟩ := nm (OQ ++ dK)
  rw [← ahR.out] at H
  replace H := bd H; obtain ⟨U5, A4, H⟩ := H
  obtain ⟨rfl, rfl, rfl⟩ := s3 H
  go_enter Tryz.func61, Tryz.ntmps61
  go_wp2_with (first | (refine bX HB 1 #[.slice jO dY.length jP, .slice jJ dK.length jK, .slice iP aH.length f_] 28 ?_; intro acy w5 vP aAv hb; replace HB := bs HB hb; clear hb) | (refine bY HB 2 #[.slice none 0 0, .slice none 0 0, .slice none 0 0] 28 ?_; intro Yq w6 Cm aAw hg hb; have abe := Ba vP hg; have abf := Bc vP hg; replace vP := kb vP hb; replace HB := bz HB hb; clear hb hg) | (refine Gu 3 qI 69 aok ?_; intro axj w7 ho8 hb; have Yr := ak (Kd.aC ho8 (aj bb)); replace vP := kb vP hb; replace Cm := kb Cm hb; replace HB := bz HB hb; clear hb ho8; have axk := abe.out; have axl := abf.out; have z10 := kK vP.out) | ((with_reducible refine eu (b := .append) (xs := #[.tmp 3, .tmp 5]) rfl ?_); at_builtin; refine Kd.ql qI (w0 := w) w.heap.size rfl (.tmp 3) (.tmp 5) 25 69 (.agg #[(.string ⟨#[]⟩), (.string ⟨#[]⟩)]) 32 rfl Tryz.underlying25 Cc rfl (by decide) (by omega) axj OO dY _ _ _ (fun _ => True) (fun _ => False) rfl rfl ?aO ?aR (fun _ _ h => h) (fun _ h => h.elim) ?aF ?aB ?aS ?aL ?_; (case aR => repeat (first | exact (Kd.bf qB.out HB.out) | (with_reducible refine Kd.ni ?_ _) | (with_reducible refine Kd.nC ?_ _) | (with_reducible refine Kd.pY ?_))); (case aB => exact bb); (case aF => exact (fun _ _ => trivial)); (case aO => exact (ur Yr.out)); (case aS => exact (aj bb)); (case aL => have := ala.out; omega); intro aDg U3 ho hb hg hat; rw [← ahQ.out] at ho; have ML := ak (ho); replace vP := ak (cZ (g := acy) (o := .cells #[.slice jO dY.length jP, .slice jJ dK.length jK, .slice iP aH.length f_] 28 (0, 0)) (ub vP.out) hg (Kd.oG Yr.out vP.out (by decide))); replace Cm := ak (cZ (g := Yq) (o := .cells #[.slice none 0 0, .slice none 0 0, .slice none 0 0] 28 (0, 0)) (ub Cm.out) hg (Kd.oG Yr.out Cm.out (by decide))); replace HB := ak (hb); clear ho hb hg hat Yr; obtain ⟨y7, xP, OT⟩ := Kd.aI ML.out; subst OT; have z13 := kK vP.out) | (refine Gu 8 Kd.string 9 aol ?_; intro axn SS NJ hb; have U6 := ak (Kd.aC NJ (aj bb)); replace ML := rg ML hb; replace vP := kp vP #[.slice y7 acw.length xP, .slice jJ dK.length jK, .slice iP aH.length f_] hb; replace Cm := kp Cm #[.slice none 0 0, .slice none 0 0, .slice none 0 0] hb; replace HB := bz HB hb; clear hb NJ; have z16 := kK vP.out) | ((with_reducible refine eu (b := .append) (xs := #[.tmp 8, .tmp 10]) rfl ?_); at_builtin; refine Kd.ql Kd.string (w0 := w) w.heap.size rfl (.tmp 8) (.tmp 10) 23 9 (.string ⟨#[]⟩) 16 rfl Tryz.underlying23 info9 rfl (by decide) (by omega) axn OQ dK _ _ _ (fun _ => True) (fun _ => False) rfl rfl ?aO ?aR (fun _ _ h => h) (fun _ h => h.elim) ?aF ?aB ?aS ?aL ?_; (case aR => repeat (first | exact (Kd.bf tZ.out HB.out) | (with_reducible refine Kd.ni ?_ _) | (with_reducible refine Kd.nC ?_ _) | (with_reducible refine Kd.pY ?_))); (case aB => exact bb); (case aF => exact (fun _ _ => trivial)); (case aO => exact (ur U6.out)); (case aS => exact (aj bb)); (case aL => have := abd.out; omega); intro aDh w17 ho hb hg hat; rw [← ahR.out] at ho; have Yt := ak (ho); replace vP := ak (cZ (g := acy) (o := .cells #[.slice y7 acw.length xP, .slice jJ dK.length jK, .slice iP aH.length f_] 28 (0, 0)) (ub vP.out) hg (Kd.oG U6.out vP.out (by decide))); replace Cm := ak (cZ (g := Yq) (o := .cells #[.slice none 0 0, .slice none 0 0, .slice none 0 0] 28 (0, 0)) (ub Cm.out) hg (Kd.oG U6.out Cm.out (by decide))); replace ML := ak (Kd.qc (ur ML.out) (Kd.kG (ur U6.out)) (by decide) hg); replace HB := ak (hb); clear ho hb hg hat U6; obtain ⟨Gv, Gw, abg⟩ := Kd.aI Yt.out; subst abg; have z19 := kK vP.out) | (refine gV Tryz.func104 (ihB _ _ aH U5 _ (Kd.bf jD.out bb) mQ.out A4.out) ?_; rintro aDi w20 ⟨ho0, hb⟩; have aom := ak (Kd.aC (Kd.nH (Kd.nH (Kd.dR (Kd.dR ho0 (Kd.jh (rh ML))) (Kd.jh (rh Yt))) (g := acy) (o := .cells #[.slice y7 acw.length xP, .slice Gv alb.length Gw, .slice iP aH.length f_] 28 (0, 0)) bq) (g := Yq) (o := .cells #[.slice none 0 0, .slice none 0 0, .slice none 0 0] 28 (0, 0)) bq) (aj bb)); replace ML := rg ML hb; replace Yt := rg Yt hb; replace vP := kp vP #[.slice y7 acw.length xP, .slice Gv alb.length Gw, .slice iP aH.length f_] hb; replace Cm := kp Cm #[.slice none 0 0, .slice none 0 0, .slice none 0 0] hb; replace HB := bz HB hb; clear hb; (try clear ho0); obtain ⟨KX, KY, SV⟩ := Kd.aI aom.out; subst SV; have z22 := kK vP.out; have z23 := kK Cm.out))
  refine bodyPost_ret (results_cell_row rfl _ _ Yq 28 #[.slice y7 acw.length xP, .slice Gv alb.length Gw, .slice KX U5.length KY] (0, 0) _ rfl bq Tryz.underlying28 rfl (by kernel_rfl)) rfl ?_
  exact ⟨_, _, _, er, rr, rr, rr, bb⟩
 ·
  intro A0 c0 l0 r w hr0 hc0 h
  have EH := Tryz.underlying28
  have HR0 := ak hr0
  have xE := ak hc0
  clear hr0 hc0
  have HB := ak (Below.refl w.heap.size w)
  have H : (fP.l0 k (([] : List (nG))) l0 (l0.length : Int) 0) = some r := h
  clear h
  obtain ⟨y101, ahS⟩ := nm ([] : List (nG))
  rw [← ahS.out] at H
  have H' := ak H; clear H
  go_enter Tryz.func104, Tryz.ntmps104
  go_wp2_with (refine Gu 6 k28 28 ahS ?_; intro aDj w2 ho3 hb; have aon := ak (Kd.aC ho3 (aj (ul HB.out))); replace HB := bs HB hb; clear hb ho3)
  go_loopg [3, 9] k (fun kq v3 v9 w' => ∃ (dW : List (nG)) (wL : Int), v9 = .int .i64 wL ∧ ah (fP.l0 kq dW l0 (l0.length : Int) wL = some r) ∧ ah (kq ≤ k) ∧ ah (Kd.R k28 28 w' w.heap.size (fun _ => True) v3 dW) ∧ ah (Below w.heap.size w w'))
  case atStart => exact ⟨_, _, rs, H', ⟨Nat.le_refl _⟩, ⟨ur aon.out⟩, ⟨ul HB.out⟩⟩
  case round =>
   clear H'
   obtain ⟨dW, wL, rfl, HA, xI, oH, HB⟩ := hrel
   cases gk with
   | zero => exact zz HA.out
   | succ k1 =>
    obtain ⟨H⟩ := HA
    simp only [fP.l0] at H
    replace H := sd H
    rcases H with ⟨qR, H⟩ | ⟨qR, H⟩
    ·
     replace H := oq H; obtain ⟨mW, H⟩ := H; replace H := oq H; obtain ⟨nN, H⟩ := H; replace H := bd H
     obtain ⟨⟨acz, t109, SX⟩, A7, H⟩ := H
     (try dsimp only at H)
     replace H := nl H; obtain ⟨alc, H⟩ := H
     obtain ⟨y115, ahT⟩ := nm (dW ++ [(⟨acz, t109, SX⟩ : nG)])
     rw [← ahT.out] at H
     have H' := ak H; clear H
     have ald := zi wL
     have ale := zj wL l0.length
     obtain ⟨aAx, Hr, Ht, Hu, Hw, Hy, Hz, axo, Yu, Yv, Yw, Yx, Yy, Yz, YA, YB, YC⟩ := EF HR0.out wL ald ale
     cases axo
     replace Yu := cl HB.out Yu
     replace Yv := cl HB.out Yv
     replace Yw := cl HB.out Yw
     have af2 := ak Yy
     have af4 := ak Yx
     clear Yy Yx
     have af5 := ak YA
     have af6 := ak Yz
     clear YA Yz
     have af7 := ak YC
     have af8 := ak YB
     clear YC YB
     replace ald := eq_true ald
     replace ale := eq_true ale
     go_wp2_with (first | (refine bY HB 5 #[.slice none 0 0, .slice none 0 0, .slice none 0 0] 28 ?_; intro xJ w9 GU aoo hg hb; replace oH := ak (Kd.sQ (Kd.yJ (ur oH.out) xJ (Nat.le_of_eq hg.symm)) hb); replace HB := bs HB hb; clear hb hg; have z10 := kK GU.out) | (refine gL 61 15 Tryz.func61 #[.agg #[.slice Hr ((cO l0 wL).f0).length Ht, .slice Hu ((cO l0 wL).f1).length Hw, .slice Hy ((cO l0 wL).f2).length Hz]] ?_; (with_reducible refine ((ih k1 (by have := xI.out; omega)).1 _ _ ((cO l0 wL).f0) _ _ ((cO l0 wL).f1) _ _ ((cO l0 wL).f2) acz t109 SX _ (Kd.bf af2.out bb) af4.out (Kd.bf af5.out bb) af6.out (Kd.bf af7.out bb) af8.out A7.out).mono ?_); rintro e U3 ⟨v107, aDk, aDl, rfl, ho0, ho1, ho2, hb⟩; refine ⟨_, rfl, ?_⟩; have acA := ak (Kd.aC ho0 (aj bb)); have acB := ak (Kd.aC ho1 (aj bb)); have acC := ak (Kd.aC (Kd.nH (Kd.dR ho2 (Kd.jh (ur (Kd.aY (Kd.lK (p := ⟨xJ, 2, none⟩) (Kd.lK (p := ⟨xJ, 1, none⟩) (Kd.lK (p := ⟨xJ, 0, none⟩) (Kd.aY oH.out (fun k_ hk => (⟨hk, hk.2⟩ : _ ∧ k_ ≠ xJ))) (fun _ hk => hk.2) (.slice Hr ((cO l0 wL).f0).length Ht)) (fun _ hk => hk.2) (.slice Hu ((cO l0 wL).f1).length Hw)) (fun _ hk => hk.2) (.slice Hy ((cO l0 wL).f2).length Hz)) (fun _ h_ => h_.1))))) (g := xJ) (o := .cells #[.slice Hr ((cO l0 wL).f0).length Ht, .slice Hu ((cO l0 wL).f1).length Hw, .slice Hy ((cO l0 wL).f2).length Hz] 28 (0, 0)) bq) (aj bb)); replace oH := ak (Kd.aY (Kd.sS (Kd.sS (Kd.sS (Kd.acD (ur (Kd.aY (Kd.lK (p := ⟨xJ, 2, none⟩) (Kd.lK (p := ⟨xJ, 1, none⟩) (Kd.lK (p := ⟨xJ, 0, none⟩) (Kd.aY oH.out (fun k_ hk => (⟨hk, hk.2⟩ : _ ∧ k_ ≠ xJ))) (fun _ hk => hk.2) (.slice Hr ((cO l0 wL).f0).length Ht)) (fun _ hk => hk.2) (.slice Hu ((cO l0 wL).f1).length Hw)) (fun _ hk => hk.2) (.slice Hy ((cO l0 wL).f2).length Hz)) (fun _ h_ => h_.1))) hb) (Kd.bZ ho0)) (Kd.bZ ho1)) (Kd.bZ ho2)) (fun _ h_ => h_.1)); replace GU := kp GU #[.slice Hr ((cO l0 wL).f0).length Ht, .slice Hu ((cO l0 wL).f1).length Hw, .slice Hy ((cO l0 wL).f2).length Hz] hb; replace HB := bz HB hb; clear hb; (try clear ho0); (try clear ho1); (try clear ho2); obtain ⟨W9, IU, SY⟩ := Kd.aI acA.out; subst SY; obtain ⟨abh, abj, Xa⟩ := Kd.aI acB.out; subst Xa; obtain ⟨KZ, K_, S9⟩ := Kd.aI acC.out; subst S9) | ((with_reducible refine eu (b := .append) (xs := #[.tmp 13, .tmp 16]) rfl ?_); at_builtin; refine Kd.pV k28 (w0 := w) w.heap.size rfl (.tmp 13) (.tmp 16) 26 28 (.agg #[(.slice none 0 0), (.slice none 0 0), (.slice none 0 0)]) 72 rfl Tryz.underlying26 SN rfl (by decide) (by omega) u3 dW (⟨acz, t109, SX⟩ : nG) [.slice W9 acz.length IU, .slice abh t109.length abj, .slice KZ SX.length K_] (fun k_ => k_ ≠ xJ) (fun k_ => ((fun k_ => k_ ≠ xJ)) k_ ∧ some k_ ≠ (u3 : Value).ownBlock) rfl rfl ?aP (fun _ hk => hk) ?aF ?aO ?aB ?aS ?aL ?_; (case aP => exact Oi _ _ _ (⟨acz, t109, SX⟩ : nG) (Kd.aY (Kd.lV (Kd.oK (acA.out) (Kd.kG oH.out) (by decide)) GU.out (by decide)) (fun k_ hk => ⟨hk.2, hk.1.2⟩)) (Kd.aY (Kd.lV (Kd.oK (acB.out) (Kd.kG oH.out) (by decide)) GU.out (by decide)) (fun k_ hk => ⟨hk.2, hk.1.2⟩)) (Kd.aY (acC.out) (fun k_ hk => ⟨hk.2, hk.1.2⟩))); (case aB => exact bb); (case aF => exact (fun k_ hk => Kd.xQ (g := xJ) (o := .cells #[.slice Hr ((cO l0 wL).f0).length Ht, .slice Hu ((cO l0 wL).f1).length Hw, .slice Hy ((cO l0 wL).f2).length Hz] 28 (0, 0)) (ub GU.out) k_ hk)); (case aO => exact (ur (Kd.aY oH.out (fun _ hk => hk.1.1.1.2)))); (case aS => exact (aj bb)); (case aL => have := alc.out; omega); intro aDm w12 ho hb hg hat; rw [← ahT.out] at ho; have aop := ak (ho); replace GU := ak (cZ (g := xJ) (o := .cells #[.slice Hr ((cO l0 wL).f0).length Ht, .slice Hu ((cO l0 wL).f1).length Hw, .slice Hy ((cO l0 wL).f2).length Hz] 28 (0, 0)) (ub GU.out) hg (Kd.y8 oH.out (fun _ hk => hk.1.1.1.2))); replace HB := ak (hb); clear ho hb hg hat oH acA acB acC))
     go_roundg k1
     case measure => exact kl
     case rel => exact ⟨_, _, rs, H', ⟨kl⟩, ⟨ur (Kd.aY aop.out (fun _ hk => trivial))⟩, ⟨bb⟩⟩
    ·
     obtain rfl := s1 H
     go_wp2
     go_ret
     exact ⟨_, er, ur oH.out, ul HB.out⟩
theorem iG.calls {k jP jK f_ : Nat} {jO jJ iP : Option Addr} {dY r1 : List (gX)} {dK r2 : List ByteArray} {aH r3 : List (nG)} {w : World} (oW : Kd.C qI w jO dY.length dY) (oZ : dY.length ≤ jP) (o7 : Kd.C Kd.string w jJ dK.length dK) (o8 : dK.length ≤ jK) (kS : Kd.C k28 w iP aH.length aH) (kT : aH.length ≤ f_) (h : iG.f k dY dK aH = some (r1, r2, r3)) :
  Calls Tryz.prog 61 #[.agg #[.slice jO dY.length jP, .slice jJ dK.length jK, .slice iP aH.length f_]] w fun e w' => ∃ oV Di EG : Value, e = .returned (.agg #[oV, Di, EG]) ∧ Kd.R qI 69 w' w.heap.size (fun _ => True) oV r1 ∧ Kd.R Kd.string 9 w' w.heap.size (fun _ => True) Di r2 ∧ Kd.R k28 28 w' w.heap.size (fun k_ => some k_ ≠ (oV : Value).ownBlock ∧ some k_ ≠ (Di : Value).ownBlock) EG r3 ∧ Below w.heap.size w w' := (iG.pair k).1 jO jP dY jJ jK dK iP f_ aH r1 r2 r3 w oW oZ o7 o8 kS kT h
theorem fP.calls {k c0 : Nat} {A0 : Option Addr} {l0 r : List (nG)} {w : World} (hr0 : Kd.C k28 w A0 l0.length l0) (hc0 : l0.length ≤ c0) (h : fP.f k l0 = some r) :
  Calls Tryz.prog 104 #[.slice A0 l0.length c0] w fun e w' => ∃ oV : Value, e = .returned (oV) ∧ Kd.R k28 28 w' w.heap.size (fun _ => True) oV r ∧ Below w.heap.size w w' := (iG.pair k).2 A0 c0 l0 r w hr0 hc0 h
end Go.Proofs.YtncdadcmghglkaaGreatDoor.PFnPartLines
