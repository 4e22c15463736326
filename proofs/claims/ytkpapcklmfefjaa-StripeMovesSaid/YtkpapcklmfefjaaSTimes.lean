/- The helper 'times' of the laws about stripes: where four or two times a point is not far, the point is near. -/
import Derived.Test.YtkpapcklmfefjaaSPure
import Derived.Test.YtkpapcklmfefjaaS13
namespace Go.Proofs.Ytkpapcklmfefjaa.S
open Go.RowKit Go.Proofs.YtkpapcklmfefjaaW.PrintWords Go.Proofs.YtkpapcklmfefjaaW.PrintLast Go.Proofs.YtkpapcklmfefjaaW.PrintMore
/-- The number from -2^30 to 2^30 that is nearest. -/
def bnd (n : Int) : Int := mn (mx n (-1073741824)) 1073741824
theorem bnd_bd (n : Int) : -1073741824 ≤ bnd n ∧ bnd n ≤ 1073741824 := by unfold bnd mn mx; (repeat' split) <;> omega
theorem bnd_eq {n : Int} (h : -1073741824 ≤ n) (h' : n ≤ 1073741824) : bnd n = n := by unfold bnd mn mx; (repeat' split) <;> omega
theorem bnd_cases (n : Int) : bnd n = n ∨ bnd n = 1073741824 ∨ bnd n = -1073741824 := by unfold bnd mn mx; (repeat' split) <;> omega
theorem times_eq (a b c d : Int) : garmentlaw28_times.f a b c d = some (wrap64 (bnd a * bnd c), wrap64 (bnd b * bnd d)) := rfl
theorem times_four (a b : Int) : garmentlaw28_times.f a b 4 4 = some (4 * bnd a, 4 * bnd b) := by
  have h1 := bnd_bd a; have h2 := bnd_bd b
  rw [times_eq, bnd_eq (n := 4) (by omega) (by omega), w_eq (n := bnd a * 4) (by omega) (by omega), w_eq (n := bnd b * 4) (by omega) (by omega), Int.mul_comm 4, Int.mul_comm 4]
theorem times_two (a b : Int) : garmentlaw28_times.f a b 2 2 = some (2 * bnd a, 2 * bnd b) := by
  have h1 := bnd_bd a; have h2 := bnd_bd b
  rw [times_eq, bnd_eq (n := 2) (by omega) (by omega), w_eq (n := bnd a * 2) (by omega) (by omega), w_eq (n := bnd b * 2) (by omega) (by omega), Int.mul_comm 2, Int.mul_comm 2]
theorem near_four {a b : Int} (h : ¬ ¬ (-1048576 ≤ 4 * bnd a ∧ 4 * bnd a ≤ 1048576 ∧ -1048576 ≤ 4 * bnd b ∧ 4 * bnd b ≤ 1048576)) : -262144 ≤ a ∧ a ≤ 262144 ∧ -262144 ≤ b ∧ b ≤ 262144 := by
  have h := Decidable.not_not.mp h
  have h1 := bnd_cases a; have h2 := bnd_cases b
  omega
theorem near_two {a b : Int} (h : ¬ ¬ (-1048576 ≤ 2 * bnd a ∧ 2 * bnd a ≤ 1048576 ∧ -1048576 ≤ 2 * bnd b ∧ 2 * bnd b ≤ 1048576)) : -524288 ≤ a ∧ a ≤ 524288 ∧ -524288 ≤ b ∧ b ≤ 524288 := by
  have h := Decidable.not_not.mp h
  have h1 := bnd_cases a; have h2 := bnd_cases b
  omega
end Go.Proofs.Ytkpapcklmfefjaa.S
