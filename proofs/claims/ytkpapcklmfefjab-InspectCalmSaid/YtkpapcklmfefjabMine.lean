/- A cell that is written twice holds what was written last. Condition: the cell is there. -/
import Derived.Laws.Entries
import Derived.WalkKit
namespace Go.Proofs.Ytkpapcklmfefjab.Mine
open Go
theorem cell_again (w : World) (a : Addr) (x y : Value) (h : (w.cell? a).isSome = true) : ((w.setCell a x).setCell a y).cell? a = some y :=
  World.cell?_setCell_same' _ _ _ (by rw [World.cell?_setCell_same' _ _ _ h]; rfl)
end Go.Proofs.Ytkpapcklmfefjab.Mine
