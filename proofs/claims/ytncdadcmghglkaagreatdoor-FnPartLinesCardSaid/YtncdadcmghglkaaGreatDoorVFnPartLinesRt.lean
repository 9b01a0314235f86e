/- Words of this session for a region whose order is drawn: its operations one behind the other in an order that is told, each that only looks taken first, what looks stay true as long as all that stood at its start stands; no condition beyond those of each statement. -/
import Derived.Test.YtncdadcmghglkaaGreatDoorVFnPartLinesXt
-- dense
namespace Go.Proofs.YtncdadcmghglkaaGreatDoor.X
open Go.RowKit Go.Proofs.YtncdadcmghglkaaGreatDoorW.bI Go.Proofs.YtncdadcmghglkaaGreatDoorW.iy Go.Proofs.YtncdadcmghglkaaGreatDoorW.iZ
/-- Does the operation make or change memory, or run code? -/
def SA : Op → Bool
 | .call { callee := .builtin b, .. } => match b with | .len | .cap | .min | .max => false | _ => true
 | .alloc _ | .box .. | .buildSlice .. | .makeSlice .. | .makeMap .. | .makeChan .. | .store .. | .convert .. | .call _ | .go _ | .defer _ | .panic _ | .send .. | .recv .. | .select .. | .mapUpdate .. | .insert .. | .mapEntry .. | .entryStore .. | .next .. => true
 | _ => false
section
variable {P : Program} {ops : Array Oper} {Q : Exit → Act → World → Prop} {S : World → Prop}
/-- May the operations come one behind the other in this order: one that looks is taken first, any other alone may come up? -/
def afH (ops : Array Oper) : Array Bool → List Nat → Bool
 | l, [] => Region.ready .any ops l == []
 | l, i :: is => (match ops[i]? with
  | some o => if SA o.op then Region.ready .any ops l == [i] else Region.free .any ops l i && (Region.ready .any ops l).contains i && Region.D6 .any ops l
  | none => false) && afH ops (l.setIfInBounds i true) is
/-- The operations in that order. -/
def FX (P : Program) (ops : Array Oper) (Q : Exit → Act → World → Prop) (S : World → Prop) : List Nat → Act → World → Prop
 | [], a, w => Q .normal a w
 | i :: is, a, w => ∃ o, ops[i]? = some o ∧ ((SA o.op = false ∧ ∃ v, YieldsIf P ops S o v a ∧ FX P ops Q S is (a.put o.dst v) w) ∨
   (SA o.op = true ∧ ∀ K : Act → World → Prop, Shut (∀ a' w', S w' → FX P ops Q S is a' w' → K a' w') → if Region.wanted o (yielded ops a.tmps) = true then Oper.wp P o a w K Q else K (a.put o.dst undef) w))
theorem MJ (hs : Region.noSelect ops = true) (hQ : ∀ c a d v w, Q (.panic c) (Act.put a d v) w → Q (.panic c) a w) : ∀ (is : List Nat) (l : Array Bool) (a : Act) (w : World), afH ops l is = true → S w → FX P ops Q S is a w → bV P .any ops Q S [] is.length l a w
 | [], l, a, w, hc, _, h => AY (by simpa [afH] using hc) h 0
 | i :: is, l, a, w, hc, hS, h => by
  obtain ⟨o, ho, h⟩ := h
  simp only [afH, ho, Bool.and_eq_true] at hc
  obtain ⟨hc, hr⟩ := hc
  rcases h with ⟨hq, v, hy, h⟩ | ⟨hq, h⟩
  ·
   rw [hq] at hc
   simp only [Bool.false_eq_true, if_false, Bool.and_eq_true] at hc
   obtain ⟨⟨h1, h2⟩, h3⟩ := hc
   exact AX ho hs h1 h2 h3 (by simp [Region.lastB]) (fun c a' w' h' => hQ c a' _ _ w' h') hy hS (MJ hs hQ is _ _ _ hr hS h)
  ·
   rw [hq] at hc
   simp only [if_true] at hc
   exact qP (by simpa using hc) (by simp) (jM.cons ho (by simp) (fun K hK => h K (fun a' w' hS' h' => hK a' w' hS' (fun an5 => MJ hs hQ is _ _ _ hr an5 h'))) jM.nil)
def av4 (ops : Array Oper) (is : List Nat) : Bool := Region.noSelect ops && (is.length == ops.size) && afH ops (Array.replicate ops.size false) is
/-- The beginning: all that stood then stands. -/
theorem aJu {id : Nat} {a : Act} {w : World} (is : List Nat) (hm : P.follows .mixedOrders = true) (hc : av4 ops is = true) (hQ : ∀ c a d v w, Q (.panic c) (Act.put a d v) w → Q (.panic c) a w)
  (h : ∀ wd : World, Below w.heap.size w wd → ah (Below wd.heap.size wd wd) → FX P ops Q (fun w' => Below wd.heap.size wd w') is a wd) : (Code.region id ops true).wp P Q a w := by
 simp only [av4, Bool.and_eq_true, beq_iff_eq] at hc
 obtain ⟨⟨h1, h2⟩, h3⟩ := hc
 refine AZ (S := fun w' => Below w.drew.heap.size w.drew w') (ds := []) hm ?_
 have := MJ h1 hQ is _ a w.drew h3 (Below.refl _ _) (h _ (fQ (Below.refl _ _)) ⟨Below.refl _ _⟩)
 rwa [h2] at this
theorem axc {a : Act} {w : World} (h : Q .normal a w) : FX P ops Q S [] a w := h
/-- One that looks. -/
theorem av5 {i : Nat} {is : List Nat} {o : Oper} {v : Value} {a : Act} {w : World} (ho : ops[i]? = some o) (hq : SA o.op = false) (hw : Region.wanted o (yielded ops a.tmps) = true) (hy : ∀ w', S w' → (execOp a.eval o).run P w' = .ok (.value v) w') {a' : Act} (ha : a.put o.dst v = a') (h : FX P ops Q S is a' w) : FX P ops Q S (i :: is) a w := by
 subst ha
 exact ⟨o, ho, .inl ⟨hq, v, .inl ⟨hw, hy⟩, h⟩⟩
/-- One whose guard is off. -/
theorem axd {i : Nat} {is : List Nat} {o : Oper} {a a' : Act} {w : World} (ho : ops[i]? = some o) (hq : SA o.op = false) (hw : Region.wanted o (yielded ops a.tmps) = false) (ha : a.put o.dst undef = a') (h : FX P ops Q S is a' w) : FX P ops Q S (i :: is) a w := by
 subst ha
 exact ⟨o, ho, .inl ⟨hq, undef, .inr ⟨hw, rfl⟩, h⟩⟩
/-- Any other. -/
theorem av6 {i : Nat} {is : List Nat} {o : Oper} {a : Act} {w : World} (ho : ops[i]? = some o) (hq : SA o.op = true) (h : ∀ K : Act → World → Prop, Shut (∀ a' w', S w' → FX P ops Q S is a' w' → K a' w') → if Region.wanted o (yielded ops a.tmps) = true then Oper.wp P o a w K Q else K (a.put o.dst undef) w) : FX P ops Q S (i :: is) a w := ⟨o, ho, .inr ⟨hq, h⟩⟩
/-- What is read at the region's start is read later. -/
theorem axe {w w' : World} (h : Below w.heap.size w w') (a : Addr) : (w.cell? a).isSome = true → w'.cell? a = w.cell? a := fun hs => by
 obtain ⟨v, hv⟩ := Option.isSome_iff_exists.1 hs
 exact h.cell (World.block_lt_of_cell? w _ hv)
end
end Go.Proofs.YtncdadcmghglkaaGreatDoor.X
