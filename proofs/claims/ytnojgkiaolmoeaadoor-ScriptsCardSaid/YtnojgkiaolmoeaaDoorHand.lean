/- Small plain facts for walks by hand: rows read from cells, rows that are written into, what a literal's memory holds; nothing of the program. -/
import Derived.Test.YtnojgkiaolmoeaaDoorWMore
import Derived.Test.YtnojgkiaolmoeaaDoorWApart
import Derived.Outline
import Derived.Laws.CopyRow
import Derived.Laws.CopyOwn
namespace Go.Proofs.YtnojgkiaolmoeaaDoor.Hand
open Go.RowKit Go.Proofs.YtnojgkiaolmoeaaDoorW.PrintWords Go.Proofs.YtnojgkiaolmoeaaDoorW.PrintLast Go.Proofs.YtnojgkiaolmoeaaDoorW.PrintMore
set_option linter.unusedVariables false
set_option linter.unusedSimpArgs false
theorem hk_drawn {w w1 : World} (h : Drawn0 w w1) : Below w.heap.size w w1 := by
  obtain ⟨nd, rfl⟩ := h
  exact pw_below_drewN (Below.refl _ _) _
/-- A cell that holds a number and may be written. -/
structure IntAt (w : World) (a : Addr) : Prop where
  cell : ∃ x, w.cell? a = some (.int .i64 x)
  free : w.frozen? a = false
theorem IntAt.set {w : World} {a : Addr} (h : IntAt w a) (p : Addr) (y : Int) : IntAt (w.setCell p (.int .i64 y)) a := by
  obtain ⟨x, hx⟩ := h.cell
  refine ⟨?_, by rw [World.frozen?_setCell]; exact h.free⟩
  by_cases hp : p = a
  · subst hp
    exact ⟨y, World.cell?_setCell_same _ _ _ hx⟩
  · exact ⟨x, by rw [World.cell?_setCell_other _ _ _ _ hp]; exact hx⟩
theorem IntAt.same {w w1 : World} {a : Addr} (h : IntAt w a) (hb : w1.heap[a.block]? = w.heap[a.block]?) : IntAt w1 a :=
  ⟨by rw [World.cell?_of_block hb]; exact h.cell, by rw [World.frozen?_of_block hb]; exact h.free⟩
theorem IntAt.drewN {w : World} {a : Addr} (h : IntAt w a) (n : Nat) : IntAt (w.drewN n) a := ⟨h.cell, h.free⟩
theorem IntAt.alloc {w : World} {a : Addr} (h : IntAt w a) (o : Obj) : IntAt (w.alloc o) a := by
  obtain ⟨x, hx⟩ := h.cell
  exact h.same (Below.heap_alloc w o _ (World.block_lt_of_cell? w a hx))
end Go.Proofs.YtnojgkiaolmoeaaDoor.Hand
