/- The law StripeBounds in plain words: its mirror answers true, for any repeat and point. -/
import Derived.Test.YtkpapcklmfefjaaSPure
import Derived.Test.YtkpapcklmfefjaaS11
namespace Go.Proofs.Ytkpapcklmfefjaa.S
open Go.RowKit Go.Proofs.YtkpapcklmfefjaaW.PrintWords Go.Proofs.YtkpapcklmfefjaaW.PrintLast Go.Proofs.YtkpapcklmfefjaaW.PrintMore
theorem ph_in (n p : Int) (h0 : 0 ≤ p) (h1 : p ≤ 1048576) : 0 ≤ ph n p ∧ ph n p ≤ mx (wrap64 (p - 1)) 0 := by
  rw [w_eq (by omega) (by omega)]
  by_cases hp : p = 0
  · subst hp; rw [ph_zero]; decide
  · have := ph_bd n (p := p) (by omega)
    unfold mx; split <;> omega
theorem ph_ph (n p : Int) (h0 : 0 ≤ p) (h1 : p ≤ 1048576) : ph (ph n p) p = ph n p := by
  by_cases hp : p = 0
  · subst hp; rfl
  · have b := ph_bd n (p := p) (by omega)
    rw [ph_pos (ph n p) (by omega), lim_eq (by omega) (by omega), Int.emod_eq_of_lt b.1 b.2]
theorem StripeBounds_pure (x y a b : Int) : garmentlaw28_StripeBounds.f x y a b = some true := by
  have hx := per_bd x; have hy := per_bd y
  have i1 := ph_in a _ hx.1 hx.2; have i2 := ph_in b _ hy.1 hy.2
  have j1 := ph_ph a _ hx.1 hx.2; have j2 := ph_ph b _ hy.1 hy.2
  unfold garmentlaw28_StripeBounds.f
  rw [Phase_eq, Option.bind_some, Norm_eq, Option.bind_some]
  dsimp only
  rw [if_pos i1.1, if_pos i2.1, if_pos i1.2, if_pos i2.2, Phase_eq, Option.bind_some, if_pos (by simp [j1, j2]), Same_eq, Option.bind_some, if_pos (by simp [j1, j2]), Norm_eq, Option.bind_some, if_pos (by simp [per_per]), Phase_eq, Option.bind_some, if_pos (by simp [per_per]), alive_true, Option.bind_some]
end Go.Proofs.Ytkpapcklmfefjaa.S
