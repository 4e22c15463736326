/- The law StripeNext in plain words: one of its two mirrors answers true, for any repeat and points. -/
import Derived.Test.YtkpapcklmfefjaaSPure
import Derived.Test.YtkpapcklmfefjaaS10
import Derived.Test.YtkpapcklmfefjaaSNextB
namespace Go.Proofs.Ytkpapcklmfefjaa.S
open Go.RowKit Go.Proofs.YtkpapcklmfefjaaW.PrintWords Go.Proofs.YtkpapcklmfefjaaW.PrintLast Go.Proofs.YtkpapcklmfefjaaW.PrintMore
theorem nx_in {a : Int} (b p : Int) (h0 : 0 ≤ p) (h1 : p ≤ 1048576) (ha : lim a = a) : a ≤ nx a b p ∧ wrap64 (nx a b p - a) ≤ mx (wrap64 (p - 1)) 0 := by
  have hl := lim_bd a
  unfold nx; rw [ha] at hl ⊢
  by_cases hp : p = 0
  · subst hp; rw [if_pos rfl, show a - a = 0 by omega, w_eq (n := 0) (by omega) (by omega)]; exact ⟨by omega, by unfold mx; split <;> omega⟩
  · have b4 := Int.emod_nonneg (ph b p - ph a p) hp; have b5 := Int.emod_lt_of_pos (ph b p - ph a p) (b := p) (by omega)
    rw [if_neg hp, w_eq (n := p - 1) (by omega) (by omega), w_eq (by omega) (by omega)]
    unfold mx; constructor
    · omega
    · split <;> omega
theorem nx_ph {a : Int} (b p : Int) (h0 : 0 ≤ p) (ha : lim a = a) (hn : lim (nx a b p) = nx a b p) : ph (nx a b p) p = ph b p := by
  by_cases hp : p = 0
  · subst hp; rfl
  · have hp' : 0 < p := by omega
    have b2 := ph_bd b hp'
    rw [ph_pos (nx a b p) hp', hn]
    unfold nx
    rw [if_neg hp, ha, Int.add_emod_emod, ph_pos a hp', ha]
    rw [show a + (ph b p - a % p) = (a + ph b p) - a % p by omega, Int.sub_emod_emod, show a + ph b p - a = ph b p by omega, Int.emod_eq_of_lt b2.1 b2.2]
theorem nx_self {a : Int} (b p : Int) (h0 : 0 ≤ p) (ha : lim a = a) : nx a b p = a ↔ ph a p = ph b p := by
  unfold nx
  by_cases hp : p = 0
  · subst hp; rw [if_pos rfl, ha]; simp [ph_zero]
  · have hp' : 0 < p := by omega
    have b1 := ph_bd a hp'; have b2 := ph_bd b hp'
    rw [if_neg hp, ha]
    constructor
    · intro h
      have z : (ph b p - ph a p) % p = 0 := by omega
      have e : ph b p % p = ph a p % p := Int.emod_eq_emod_iff_emod_sub_eq_zero.2 z
      rw [Int.emod_eq_of_lt b2.1 b2.2, Int.emod_eq_of_lt b1.1 b1.2] at e
      exact e.symm
    · intro h
      rw [h, show ph b p - ph b p = 0 by omega, Int.zero_emod]; omega
theorem StripeNext_pure (x y a b c d : Int) : garmentlaw28_StripeNext.f 1 x y a b c d = some true ∨ garmentlaw28_StripeNextB.f 1 x y a b c d = some true := by
  have hx := per_bd x; have hy := per_bd y
  unfold garmentlaw28_StripeNext.f garmentlaw28_StripeNextB.f
  simp only [far_eq, Option.bind_some, decide_eq_true_eq]
  by_cases h1 : ¬ (-1048576 ≤ a ∧ a ≤ 1048576 ∧ -1048576 ≤ b ∧ b ≤ 1048576)
  · left; rw [if_pos h1]; simp only [garmentlaw28_StripeNext.j0, if_true, alive_true, Option.bind_some]
  · rw [if_neg h1, if_neg h1]
    by_cases h2 : ¬ (-1048576 ≤ c ∧ c ≤ 1048576 ∧ -1048576 ≤ d ∧ d ≤ 1048576)
    · left; rw [decide_eq_true h2]; simp only [garmentlaw28_StripeNext.j0, if_true, alive_true, Option.bind_some]
    · obtain ⟨ha, hb⟩ := near_lim h1
      have i1 := nx_in c (per x) hx.1 hx.2 ha; have i2 := nx_in d (per y) hy.1 hy.2 hb
      have s1 := nx_self c (per x) hx.1 ha; have s2 := nx_self d (per y) hy.1 hb
      rw [decide_eq_false h2]
      simp only [garmentlaw28_StripeNext.j0, garmentlaw28_StripeNextB.j0, Next_eq, Norm_eq, Same_eq, far_eq, alive_true, Option.bind_some, decide_eq_true_eq]
      have E : ((nx a c (per x) == a && nx b d (per y) == b) == (ph a (per x) == ph c (per x) && ph b (per y) == ph d (per y))) = true := by
        rw [beq_iff_eq, Bool.eq_iff_iff]; simp only [Bool.and_eq_true, beq_iff_eq, s1, s2]
      by_cases h3 : ¬ (-1048576 ≤ nx a c (per x) ∧ nx a c (per x) ≤ 1048576 ∧ -1048576 ≤ nx b d (per y) ∧ nx b d (per y) ≤ 1048576)
      · left
        rw [if_neg (by decide), if_pos i1.1, if_pos i2.1, if_pos i1.2, if_pos i2.2, if_pos h3, if_pos E]
      · right
        obtain ⟨hn, hm⟩ := near_lim h3
        rw [if_neg (by decide), if_pos i1.1, if_pos i2.1, if_pos i1.2, if_pos i2.2, if_neg h3, if_pos (by simp [nx_ph c (per x) hx.1 ha hn, nx_ph d (per y) hy.1 hb hm]), if_pos E]
end Go.Proofs.Ytkpapcklmfefjaa.S
