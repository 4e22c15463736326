/- The law StripePhases in plain words: its mirror answers true, for any repeat and point. -/
import Derived.Test.YtkpapcklmfefjaaSPure
import Derived.Test.YtkpapcklmfefjaaS8
namespace Go.Proofs.Ytkpapcklmfefjaa.S
open Go.RowKit Go.Proofs.YtkpapcklmfefjaaW.PrintWords Go.Proofs.YtkpapcklmfefjaaW.PrintLast Go.Proofs.YtkpapcklmfefjaaW.PrintMore
theorem refnorm_eq (n : Int) : garmentref28_norm.f n = some (per n) := by unfold garmentref28_norm.f per; (repeat' split) <;> rfl
theorem refNorm_eq (x y : Int) : garmentref28_Norm.f x y = some (per x, per y) := by unfold garmentref28_Norm.f; simp [refnorm_eq]
theorem per_self {n : Int} (h : ¬ per n = 0) : per n = n ∧ 0 < n ∧ n ≤ 1048576 := by
  unfold per at *; (repeat' split at h) <;> simp at * <;> omega
theorem refphase_eq (by_ n : Int) : garmentref28_phase.f by_ n = some (ph n (per by_)) := by
  unfold garmentref28_phase.f
  rw [refnorm_eq, Option.bind_some]
  by_cases hz : per by_ = 0
  · rw [if_pos hz, hz]; rfl
  · obtain ⟨e, h0, h1⟩ := per_self hz
    have b := tmod_bd (lim n) h0
    rw [if_neg hz, show garmentref28_within.f n = some (lim n) from rfl, Option.bind_some, if_neg (by omega), e, ph_pos _ h0]
    by_cases hn : (lim n).tmod by_ < 0
    · have u : lim n % by_ = (lim n).tmod by_ + by_ := by
        rw [← tmod_up (lim n) h0, Int.tmod_eq_emod_of_nonneg (a := (lim n).tmod by_ + by_) (by omega), Int.emod_eq_of_lt (by omega) (by omega)]
      rw [if_pos hn, w_eq (by omega) (by omega), u]
    · rw [if_neg hn, ← tmod_emod, Int.emod_eq_of_lt (by omega) (by omega)]
theorem refPhase_eq (x y a b : Int) : garmentref28_Phase.f x y a b = some (ph a (per x), ph b (per y)) := by
  unfold garmentref28_Phase.f
  rw [refphase_eq, Option.bind_some, refphase_eq, Option.bind_some]
theorem StripePhases_pure (x y a b : Int) : garmentlaw28_StripePhases.f x y a b = some true := by
  unfold garmentlaw28_StripePhases.f
  rw [Norm_eq, Option.bind_some, refNorm_eq, Option.bind_some, if_pos (by simp), Phase_eq, Option.bind_some, refPhase_eq, Option.bind_some, if_pos (by simp), alive_true, Option.bind_some]
end Go.Proofs.Ytkpapcklmfefjaa.S
