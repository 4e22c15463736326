/- How a law's argument that is a slice of bools is opened: a value that can be read is a list. Condition: the value can be read. -/
import Derived.Deep.Grids
import Derived.Test.YtkpapcklmfefjaaWWords
namespace Go.Proofs.Ytkpapcklmfefjaa.Open
open Go.ChangeShapes Go.WideShapes Go.Deep Go.RowKit Go.Proofs.YtkpapcklmfefjaaW.PrintWords
theorem open_list {H : Type} {enc : TypeId × Value → H} {P : Program} {W : World} {t e : TypeId} {fuel : Nat} {a : Option Addr} {len cap : Nat} {x : DataW H × List MemPlace} (ht : P.underlying t = some (.slice e)) (he : P.underlying e = some .bool) (hc : P.cellsOf e = 1)
    (hf : DataW.trod enc P W 0 (fun _ => true) true fuel t [.slice a len cap] = some x) : ∃ l : List Bool, len = l.length ∧ Kd.C Kd.bool W a l.length l ∧ l.length ≤ cap := by
  rcases open_bools ht he hc hf with ⟨hcs, _⟩ | ⟨ad, n, c, B, hcs, _, hl, hm, _, hcell⟩
  · simp at hcs
    obtain ⟨rfl, rfl, rfl⟩ := hcs
    exact ⟨[], rfl, Kd.C_of_reads (d := false) (h1 := fun _ => rfl) ⟨rfl, by simp, fun h => absurd h (by simp)⟩, by simp⟩
  · simp at hcs
    obtain ⟨rfl, rfl, rfl⟩ := hcs
    have hn : ((List.range len).map B).length = len := by simp
    refine ⟨(List.range len).map B, hn.symm, Kd.C_of_reads (d := false) (h1 := fun _ => rfl) ⟨rfl, by unfold maxLen at hm; omega, fun _ => ⟨ad, rfl, fun j hj => ?_⟩⟩, by omega⟩
    rw [hcell j (by omega)]
    simp [List.getD_eq_getElem?_getD, List.getElem?_map, List.getElem?_range (show j < len by omega)]
end Go.Proofs.Ytkpapcklmfefjaa.Open
