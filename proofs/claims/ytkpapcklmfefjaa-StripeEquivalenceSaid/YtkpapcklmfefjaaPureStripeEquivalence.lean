/- The law StripeEquivalence in plain words: its mirror answers true, for any repeat and points. -/
import Derived.Test.YtkpapcklmfefjaaSPure
import Derived.Test.YtkpapcklmfefjaaS12
namespace Go.Proofs.Ytkpapcklmfefjaa.S
open Go.RowKit Go.Proofs.YtkpapcklmfefjaaW.PrintWords Go.Proofs.YtkpapcklmfefjaaW.PrintLast Go.Proofs.YtkpapcklmfefjaaW.PrintMore
theorem StripeEquivalence_pure (x y a b c d e f : Int) : garmentlaw28_StripeEquivalence.f x y a b c d e f = some true := by
  unfold garmentlaw28_StripeEquivalence.f
  simp only [Same_eq, Phase_eq, alive_true, Option.bind_some]
  generalize ph a (per x) = A; generalize ph b (per y) = B; generalize ph c (per x) = C; generalize ph d (per y) = D; generalize ph e (per x) = E; generalize ph f (per y) = F
  rw [if_pos (by simp), if_pos (by rw [beq_iff_eq, Bool.eq_iff_iff]; simp; omega)]
  by_cases h1 : (A == C && B == D) = true
  · rw [if_pos h1]
    by_cases h2 : (C == E && D == F) = true
    · rw [if_pos h2]
      simp only [Bool.and_eq_true, beq_iff_eq] at h1 h2
      rw [if_pos (by simp; omega), if_pos (by simp)]
    · rw [if_neg h2, if_pos (by simp)]
  · rw [if_neg h1, if_pos (by simp)]
end Go.Proofs.Ytkpapcklmfefjaa.S
