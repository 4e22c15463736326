/- The law StripeAgain in plain words: its mirror answers true, for any repeat and points. -/
import Derived.Test.YtkpapcklmfefjaaSTimes
import Derived.Test.YtkpapcklmfefjaaS15
namespace Go.Proofs.Ytkpapcklmfefjaa.S
open Go.RowKit Go.Proofs.YtkpapcklmfefjaaW.PrintWords Go.Proofs.YtkpapcklmfefjaaW.PrintLast Go.Proofs.YtkpapcklmfefjaaW.PrintMore
/-- From a on, the number b that has the phase of c and is less than a period away. -/
theorem nx_rest {a : Int} (b p : Int) (h0 : 0 < p) (ha : lim a = a) : a ≤ nx a b p ∧ nx a b p < a + p ∧ nx a b p % p = ph b p := by
  have hp : p ≠ 0 := by omega
  have b2 := ph_bd b h0
  have b4 := Int.emod_nonneg (ph b p - ph a p) hp; have b5 := Int.emod_lt_of_pos (ph b p - ph a p) h0
  unfold nx
  rw [if_neg hp, ha]
  refine ⟨by omega, by omega, ?_⟩
  rw [Int.add_emod_emod, ph_pos a h0, ha, show a + (ph b p - a % p) = (a + ph b p) - a % p by omega, Int.sub_emod_emod, show a + ph b p - a = ph b p by omega, Int.emod_eq_of_lt b2.1 b2.2]
theorem nx_mono {a d : Int} (b p : Int) (h0 : 0 ≤ p) (ha : lim a = a) (hd : 0 ≤ d) (had : lim (a + d) = a + d) : nx a b p ≤ nx (a + d) b p := by
  by_cases hp : p = 0
  · subst hp; unfold nx; rw [if_pos rfl, if_pos rfl, ha, had]; omega
  · obtain ⟨p1, p2, p3⟩ := nx_rest b p (by omega) ha
    obtain ⟨q1, _, q3⟩ := nx_rest b p (by omega) had
    apply Int.not_lt.1
    intro hlt
    have z : (nx a b p - nx (a + d) b p) % p = 0 := Int.emod_eq_emod_iff_emod_sub_eq_zero.1 (p3.trans q3.symm)
    rw [Int.emod_eq_of_lt (by omega) (by omega)] at z
    omega
theorem nx_again {a : Int} (b p : Int) (h0 : 0 ≤ p) (ha : lim a = a) (hn : lim (nx a b p) = nx a b p) : nx (nx a b p) b p = nx a b p := by
  by_cases hp : p = 0
  · subst hp; unfold nx at *; rw [if_pos rfl] at *; rw [if_pos rfl, lim_lim]
  · obtain ⟨_, _, p3⟩ := nx_rest b p (by omega) ha
    have e : ph (nx a b p) p = ph b p := by rw [ph_pos _ (by omega), hn, p3]
    have u : nx (nx a b p) b p = lim (nx a b p) + (ph b p - ph (nx a b p) p) % p := by rw [nx.eq_def (nx a b p) b p, if_neg hp]
    rw [u, hn, e, show ph b p - ph b p = 0 by omega, Int.zero_emod, Int.add_zero]
theorem StripeAgain_pure (x y a b c d e f : Int) : garmentlaw28_StripeAgain.f 1 x y a b c d e f = some true := by
  have hx := per_bd x; have hy := per_bd y
  unfold garmentlaw28_StripeAgain.f
  simp only [times_two, far_eq, Option.bind_some, decide_eq_true_eq]
  by_cases h1 : ¬ (-1048576 ≤ 2 * bnd a ∧ 2 * bnd a ≤ 1048576 ∧ -1048576 ≤ 2 * bnd b ∧ 2 * bnd b ≤ 1048576)
  · rw [if_pos h1]; simp only [garmentlaw28_StripeAgain.j0, if_true, alive_true, Option.bind_some]
  · rw [if_neg h1]
    by_cases h2 : ¬ (-1048576 ≤ 2 * bnd c ∧ 2 * bnd c ≤ 1048576 ∧ -1048576 ≤ 2 * bnd d ∧ 2 * bnd d ≤ 1048576)
    · rw [if_pos h2]; simp only [garmentlaw28_StripeAgain.j0, if_true, alive_true, Option.bind_some]
    · rw [if_neg h2]
      by_cases h3 : ¬ (-1048576 ≤ 2 * bnd e ∧ 2 * bnd e ≤ 1048576 ∧ -1048576 ≤ 2 * bnd f ∧ 2 * bnd f ≤ 1048576)
      · rw [if_pos h3]; simp only [garmentlaw28_StripeAgain.j0, if_true, alive_true, Option.bind_some]
      · rw [if_neg h3]
        by_cases h4 : e < 0
        · rw [if_pos h4]; simp only [garmentlaw28_StripeAgain.j0, if_true, alive_true, Option.bind_some]
        · rw [if_neg h4]
          by_cases h5 : f < 0
          · rw [decide_eq_true h5]; simp only [garmentlaw28_StripeAgain.j0, if_true, alive_true, Option.bind_some]
          · rw [decide_eq_false h5]
            have n1 := near_two h1; have n3 := near_two h3
            have la : lim a = a := lim_eq (by omega) (by omega)
            have lb : lim b = b := lim_eq (by omega) (by omega)
            have lae : lim (a + e) = a + e := lim_eq (by omega) (by omega)
            have lbf : lim (b + f) = b + f := lim_eq (by omega) (by omega)
            have w1 : wrap64 (a + e) = a + e := w_eq (by omega) (by omega)
            have w2 : wrap64 (b + f) = b + f := w_eq (by omega) (by omega)
            have m1 := nx_mono c (per x) hx.1 la (d := e) (by omega) lae
            have m2 := nx_mono d (per y) hy.1 lb (d := f) (by omega) lbf
            simp only [garmentlaw28_StripeAgain.j0, Next_eq, far_eq, alive_true, Option.bind_some, decide_eq_true_eq, w1, w2]
            rw [if_neg (by decide)]
            by_cases h6 : ¬ (-1048576 ≤ nx a c (per x) ∧ nx a c (per x) ≤ 1048576 ∧ -1048576 ≤ nx b d (per y) ∧ nx b d (per y) ≤ 1048576)
            · rw [if_pos h6, if_pos m1, if_pos m2]
            · obtain ⟨l1, l2⟩ := near_lim h6
              rw [if_neg h6, if_pos (by simp [nx_again c (per x) hx.1 la l1, nx_again d (per y) hy.1 lb l2]), if_pos m1, if_pos m2]
end Go.Proofs.Ytkpapcklmfefjaa.S
