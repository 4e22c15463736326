/- How arguments of the laws' struct types are opened: a value of the type that can be read is so many whole numbers. Conditions: the value can be read. -/
import Derived.Test.YtkpapcklmfefjaaProg
import Derived.Lib.SmallJoins
import Derived.Deep.Strs
import Derived.Deep.Grids
import Derived.ChangeArms
import Derived.ChangeSame
import Derived.KernelRfl
namespace Go.Proofs.Ytkpapcklmfefjaa.Open
open Go.ChangeShapes Go.WideShapes Go.Joins Go.Deep
variable {H : Type} {enc : TypeId × Value → H} {W : World} {base b0 : Nat} {spare : Nat → Bool} {held : Bool} {r : Reach} {v : Value} {d : DataW H} {p : List MemPlace}
theorem cells3 : Try.prog.cellsOf 3 = 1 := by kernel_rfl
theorem cells23 : Try.prog.cellsOf 23 = 2 := by kernel_rfl
theorem cells24 : Try.prog.cellsOf 24 = 2 := by kernel_rfl
theorem cells33 : Try.prog.cellsOf 33 = 3 := by kernel_rfl
theorem cells50 : Try.prog.cellsOf 50 = 6 := by kernel_rfl
/-- A repeat is two numbers. -/
theorem open_repeat (hv : Value.okWide Try.prog W r b0 23 v) (h : DataW.Trod enc Try.prog W base spare held 23 v d p) : ∃ x y : Int, v = .agg #[.int .i64 x, .int .i64 y] := by
  obtain ⟨c0, c1, y0, y1, m, rfl, rfl, rfl, h0, h1⟩ := open_agg2 Try.underlying23 (by kernel_rfl) cells23 hv h
  obtain ⟨x, e0, _, _⟩ := DataW.trod_int Try.underlying3 h0
  obtain ⟨y, e1, _, _⟩ := DataW.trod_int Try.underlying3 h1
  simp only [List.cons.injEq, and_true] at e0 e1
  exact ⟨x, y, by rw [e0, e1]⟩
/-- A point is two numbers. -/
theorem open_spot (hv : Value.okWide Try.prog W r b0 24 v) (h : DataW.Trod enc Try.prog W base spare held 24 v d p) : ∃ x y : Int, v = .agg #[.int .i64 x, .int .i64 y] := by
  obtain ⟨c0, c1, y0, y1, m, rfl, rfl, rfl, h0, h1⟩ := open_agg2 Try.underlying24 (by kernel_rfl) cells24 hv h
  obtain ⟨x, e0, _, _⟩ := DataW.trod_int Try.underlying3 h0
  obtain ⟨y, e1, _, _⟩ := DataW.trod_int Try.underlying3 h1
  simp only [List.cons.injEq, and_true] at e0 e1
  exact ⟨x, y, by rw [e0, e1]⟩
/-- A regime is three numbers, each of its kind. -/
theorem open_regime (hv : Value.okWide Try.prog W r b0 33 v) (h : DataW.Trod enc Try.prog W base spare held 33 v d p) :
    ∃ x y z : Int, v = .agg #[.int .i64 x, .int .i64 y, .int .i64 z] ∧ (Lit.int .i64 x).wf = true ∧ (Lit.int .i64 y).wf = true ∧ (Lit.int .i64 z).wf = true := by
  obtain ⟨c0, c1, c2, y0, y1, y2, m, rfl, rfl, rfl, h0, h1, h2⟩ := open_agg3 Try.underlying33 (by kernel_rfl) cells33 hv h
  obtain ⟨x, e0, _, w0⟩ := DataW.trod_int Try.underlying3 h0
  obtain ⟨y, e1, _, w1⟩ := DataW.trod_int Try.underlying3 h1
  obtain ⟨z, e2, _, w2⟩ := DataW.trod_int Try.underlying3 h2
  simp only [List.cons.injEq, and_true] at e0 e1 e2
  exact ⟨x, y, z, by rw [e0, e1, e2], w0, w1, w2⟩
theorem spot_cells {fuel : Nat} {c0 c1 : Value} {x : DataW H × List MemPlace} (h : DataW.trod enc Try.prog W base spare held fuel 24 [c0, c1] = some x) : ∃ a b : Int, c0 = .int .i64 a ∧ c1 = .int .i64 b := by
  obtain ⟨y0, y1, n, _, _, h0, h1⟩ := trod_struct2 Try.underlying24 h
  rw [cells3] at h0 h1
  obtain ⟨a, e0, _, _⟩ := DataW.trod_int Try.underlying3 h0
  obtain ⟨b, e1, _, _⟩ := DataW.trod_int Try.underlying3 h1
  simp at e0 e1
  exact ⟨a, b, e0, e1⟩
/-- Three points are six numbers. -/
theorem open_three (hv : Value.okWide Try.prog W r b0 50 v) (h : DataW.Trod enc Try.prog W base spare held 50 v d p) : ∃ a b c d e f : Int, v = .agg #[.int .i64 a, .int .i64 b, .int .i64 c, .int .i64 d, .int .i64 e, .int .i64 f] := by
  obtain ⟨⟨cs⟩, rfl, hsz⟩ := okWide_struct Try.underlying50 hv
  obtain ⟨fuel, hf⟩ := h
  obtain ⟨y0, y1, y2, n, _, _, h0, h1, h2⟩ := trod_struct3 Try.underlying50 hf
  rw [cells50] at hsz
  simp only [List.size_toArray] at hsz
  rw [cells24] at h0 h1 h2
  match cs, hsz with
  | [c0, c1, c2, c3, c4, c5], _ =>
    obtain ⟨a, b, rfl, rfl⟩ := spot_cells (c0 := c0) (c1 := c1) (by simpa [Value.cells] using h0)
    obtain ⟨c, d, rfl, rfl⟩ := spot_cells (c0 := c2) (c1 := c3) (by simpa [Value.cells] using h1)
    obtain ⟨e, f, rfl, rfl⟩ := spot_cells (c0 := c4) (c1 := c5) (by simpa [Value.cells] using h2)
    exact ⟨a, b, c, d, e, f, rfl⟩
end Go.Proofs.Ytkpapcklmfefjaa.Open
