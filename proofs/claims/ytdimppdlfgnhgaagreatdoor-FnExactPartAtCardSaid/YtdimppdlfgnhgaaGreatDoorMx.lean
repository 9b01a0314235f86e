/- Plain words of this session: the cell of internal/bytealg.MaxLen holds an int, and goes on holding one while what lay there stays as it was; no condition beyond those of each statement. -/
import Derived.Test.YtdimppdlfgnhgaaGreatDoorShelf
import Derived.Below
import Derived.Lib.ReplaceLaws
namespace Go.Proofs.YtdimppdlfgnhgaaGreatDoor.X
open Go.RowKit
/-- The cell of internal/bytealg.MaxLen holds some int. -/
def MaxOk (w : World) : Prop := ∃ m, w.cell? ⟨0, 0, none⟩ = some (.int .i64 m)
theorem cell_block_lt {w : World} {a : Addr} {v : Value} (h : w.cell? a = some v) : a.block < w.heap.size := by
  rcases Nat.lt_or_ge a.block w.heap.size with h1 | h1
  · exact h1
  · exfalso
    unfold World.cell? at h
    rw [Array.getElem?_eq_none h1] at h
    cases h
theorem MaxOk.below {w w' : World} (h : MaxOk w) (hb : Below w.heap.size w w') : MaxOk w' := by
  obtain ⟨m, hm⟩ := h
  exact ⟨m, (hb.cell (cell_block_lt hm)).trans hm⟩
theorem MaxOk.drewN {w : World} (h : MaxOk w) (n : Nat) : MaxOk (w.drewN n) := h
theorem MaxOk.drew {w : World} (h : MaxOk w) : MaxOk w.drew := h
theorem MaxOk.of_shaped {w : World} (h : w.ShapedOpen Tryz.prog) : MaxOk w := Tryz.laysM145.s1_3 w h
end Go.Proofs.YtdimppdlfgnhgaaGreatDoor.X
