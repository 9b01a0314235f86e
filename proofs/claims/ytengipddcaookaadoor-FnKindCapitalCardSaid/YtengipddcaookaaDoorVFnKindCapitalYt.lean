/- Short words of this session for what the printed walks close again and again: a fact on a world holds in the world that is drawn out of it; no condition beyond those of each statement. -/
import Derived.Test.YtengipddcaookaaDoorVFnKindCapitalXt
namespace Go.Proofs.YtengipddcaookaaDoor.X
open Go.RowKit Go.Proofs.YtengipddcaookaaDoorW.PrintWords Go.Proofs.YtengipddcaookaaDoorW.PrintLast Go.Proofs.YtengipddcaookaaDoorW.PrintMore
/-- The world b is a with more laid and drawn. -/
class Up (a b : World) : Prop where
  up : Below a.heap.size a b
instance up_refl {a : World} : Up a a := ⟨Below.refl _ _⟩
instance up_alloc {a b : World} [h : Up a b] (o : Obj) : Up a (b.alloc o) := ⟨below_alloc h.up o⟩
instance up_drewN {a b : World} [h : Up a b] (n : Nat) : Up a (b.drewN n) := ⟨pw_below_drewN h.up n⟩
instance up_drew {a b : World} [h : Up a b] : Up a b.drew := ⟨below_drew1 h.up⟩
theorem ub {a b : World} {g : Nat} {o : Obj} [u : Up a b] (h : a.heap[g]? = some o) : b.heap[g]? = some o := blk_below h u.up
theorem ur {α : Type} {d : Kd α} {e : Nat} {a b : World} {base : Nat} {ok : Nat → Prop} {v : Value} {xs : List α} [u : Up a b] (h : Kd.R d e a base ok v xs) : Kd.R d e b base ok v xs := Kd.R_below h u.up
theorem ul {w a b : World} [u : Up a b] (h : Below w.heap.size w a) : Below w.heap.size w b := below_step h u.up
theorem bb {p : Prop} (h : p := by repeat (first | (with_reducible first | exact Aside0.out (by assumption) | apply below_alloc | apply pw_below_drewN | apply below_drew1 | refine below_set ?_ (Aside0.out (by assumption))) | exact Aside0.out (by assumption))) : p := h
theorem kk {p : Prop} (h : p := by repeat (first | (with_reducible first | exact Aside0.out (by assumption) | apply KeepBut.set_ | apply keep_drewN | apply keep_drew | apply keep_alloc | refine keep_far ?_ (Aside0.out (by assumption)) _) | exact Aside0.out (by assumption))) : p := h
theorem ma {p : Prop} (h : p := by (try simp only [List.map_toArray, List.map_cons, List.map_nil]); first | done | rfl | (simp only [List.length_drop, List.length_take]; rfl)) : p := h
end Go.Proofs.YtengipddcaookaaDoor.X
