/- Short words of this session for what the printed walks close again and again: a fact on a world holds in the world that is drawn out of it; no condition beyond those of each statement. -/
import Derived.Test.YtncdadcmghglkaaGreatDoorVFnPartSameXt
-- dense
namespace Go.Proofs.YtncdadcmghglkaaGreatDoor.X
open Go.RowKit Go.Proofs.YtncdadcmghglkaaGreatDoorW.PrintWords Go.Proofs.YtncdadcmghglkaaGreatDoorW.PrintLast Go.Proofs.YtncdadcmghglkaaGreatDoorW.PrintMore
/-- The world b is a with more laid and drawn. -/
class Up (a b : World) : Prop where
 up : Below a.heap.size a b
instance up_refl {a : World} : Up a a := ⟨Below.refl _ _⟩
instance up_alloc {a b : World} [h : Up a b] (o : Obj) : Up a (b.alloc o) := ⟨below_alloc h.up o⟩
instance up_drewN {a b : World} [h : Up a b] (n : Nat) : Up a (b.drewN n) := ⟨pw_below_drewN h.up n⟩
instance up_drew {a b : World} [h : Up a b] : Up a b.drew := ⟨below_drew1 h.up⟩
theorem ub {a b : World} {g : Nat} {o : Obj} [u : Up a b] (h : a.heap[g]? = some o) : b.heap[g]? = some o := blk_below h u.up
theorem ur {α : Type} {d : Kd α} {e : Nat} {a b : World} {base : Nat} {ok : Nat → Prop} {v : Value} {xs : List α} [u : Up a b] (h : Kd.R d e a base ok v xs) : Kd.R d e b base ok v xs := Kd.R_below h u.up
theorem ul {w a b : World} [u : Up a b] (h : Below w.heap.size w a) : Below w.heap.size w b := below_step h u.up
theorem bb {p : Prop} (h : p := by repeat (first | (with_reducible first | exact Aside0.out (by assumption) | apply below_alloc | apply pw_below_drewN | apply below_drew1 | refine below_set ?_ (Aside0.out (by assumption))) | exact Aside0.out (by assumption))) : p := h
theorem kk {p : Prop} (h : p := by repeat (first | (with_reducible first | exact Aside0.out (by assumption) | apply KeepBut.set_ | apply keep_drewN | apply keep_drew | apply keep_alloc | refine keep_far ?_ (Aside0.out (by assumption)) _) | exact Aside0.out (by assumption))) : p := h
theorem ma {p : Prop} (h : p := by (try simp only [List.map_toArray, List.map_cons, List.map_nil]); first | done | rfl | (simp only [List.length_drop, List.length_take]; rfl)) : p := h
theorem l_a {α : Type} (l : List α) (i : Nat) (a : α) : l.toArray.setIfInBounds i a = (l.set i a).toArray := List.setIfInBounds_toArray l i a
theorem l_b {α : Type} (a b : α) (l : List α) : (a :: l).set 0 b = b :: l := rfl
theorem l_c {α : Type} (a b : α) (l : List α) (n : Nat) : (a :: l).set (n + 1) b = a :: l.set n b := rfl
theorem er {p : Prop} (h : p := by first | rfl | (simp [errW_none, errW_some] <;> rfl) | (simp [*, errW_none, errW_some] <;> rfl)) : p := h
theorem rs {p : Prop} (h : p := by first | rfl | (simp; done) | (simp [*]; done) | (simp; rfl)) : p := h
/-- What is read of a block of three cells; of two. -/
theorem cz3 {w : World} {g t : Nat} {a b c : Value} (h : w.heap[g]? = some (.cells #[a, b, c] t (0, 0))) : w.cell? ⟨g, 0, none⟩ = some a ∧ w.cell? ⟨g, 1, none⟩ = some b ∧ w.cell? ⟨g, 2, none⟩ = some c ∧ w.frozen? ⟨g, 0, none⟩ = false ∧ w.frozen? ⟨g, 1, none⟩ = false ∧ w.frozen? ⟨g, 2, none⟩ = false :=
 ⟨(blk_cell h 0).trans rfl, (blk_cell h 1).trans rfl, (blk_cell h 2).trans rfl, blk_frozen h 0, blk_frozen h 1, blk_frozen h 2⟩
theorem cz2 {w : World} {g t : Nat} {a b : Value} (h : w.heap[g]? = some (.cells #[a, b] t (0, 0))) : w.cell? ⟨g, 0, none⟩ = some a ∧ w.cell? ⟨g, 1, none⟩ = some b ∧ w.frozen? ⟨g, 0, none⟩ = false ∧ w.frozen? ⟨g, 1, none⟩ = false :=
 ⟨(blk_cell h 0).trans rfl, (blk_cell h 1).trans rfl, blk_frozen h 0, blk_frozen h 1⟩
/-- A fact whose beginning is named: the rest is found. -/
theorem bh {w a b : World} (_h0 : Below w.heap.size w a) (h : Below w.heap.size w b := by repeat (first | (with_reducible first | exact Aside0.out (by assumption) | apply below_alloc | apply pw_below_drewN | apply below_drew1 | refine below_set ?_ (Aside0.out (by assumption))) | exact Aside0.out (by assumption))) : Below w.heap.size w b := h
theorem kh {w a b : World} {g : Nat} {row : Option Nat} (_h0 : KeepBut w a g row) (h : KeepBut w b g row := by repeat (first | (with_reducible first | exact Aside0.out (by assumption) | apply KeepBut.set_ | apply keep_drewN | apply keep_drew | apply keep_alloc | refine keep_far ?_ (Aside0.out (by assumption)) _) | exact Aside0.out (by assumption))) : KeepBut w b g row := h
end Go.Proofs.YtncdadcmghglkaaGreatDoor.X
