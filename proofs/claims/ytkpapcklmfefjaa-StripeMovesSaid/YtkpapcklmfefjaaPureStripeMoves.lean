/- The law StripeMoves in plain words: one of its two mirrors answers true, for any repeat, any points and any number of repeats that an int8 holds. -/
import Derived.Test.YtkpapcklmfefjaaSTimes
import Derived.Test.YtkpapcklmfefjaaS14
import Derived.Test.YtkpapcklmfefjaaSMovesB
namespace Go.Proofs.Ytkpapcklmfefjaa.S
open Go.RowKit Go.Proofs.YtkpapcklmfefjaaW.PrintWords Go.Proofs.YtkpapcklmfefjaaW.PrintLast Go.Proofs.YtkpapcklmfefjaaW.PrintMore
theorem same_moved {a b d p : Int} (ha : -262144 ≤ a ∧ a ≤ 262144) (hb : -262144 ≤ b ∧ b ≤ 262144) (hd : -262144 ≤ d ∧ d ≤ 262144) (h0 : 0 ≤ p) : ph a p = ph b p ↔ ph (a + d) p = ph (b + d) p := by
  by_cases hp : p = 0
  · subst hp; simp [ph_zero]
  · have hp' : 0 < p := by omega
    rw [ph_pos _ hp', ph_pos _ hp', ph_pos _ hp', ph_pos _ hp', lim_eq (n := a) (by omega) (by omega), lim_eq (n := b) (by omega) (by omega), lim_eq (n := a + d) (by omega) (by omega), lim_eq (n := b + d) (by omega) (by omega)]
    rw [Int.emod_eq_emod_iff_emod_sub_eq_zero, Int.emod_eq_emod_iff_emod_sub_eq_zero, show a + d - (b + d) = a - b by omega]
theorem whole_moved {a k p : Int} (ha : -262144 ≤ a ∧ a ≤ 262144) (h0 : 0 ≤ p) (hm : lim (a + p * k) = a + p * k) : ph a p = ph (a + p * k) p := by
  by_cases hp : p = 0
  · subst hp; rfl
  · have hp' : 0 < p := by omega
    rw [ph_pos _ hp', ph_pos _ hp', hm, lim_eq (n := a) (by omega) (by omega), Int.add_mul_emod_self_left]
theorem whole_bd {p k : Int} (h0 : 0 ≤ p) (h1 : p ≤ 1048576) (hk : -128 ≤ k) (hk' : k ≤ 127) : -134217728 ≤ p * k ∧ p * k ≤ 134217728 := by
  constructor
  · have : p * (-128) ≤ p * k := Int.mul_le_mul_of_nonneg_left hk h0
    omega
  · have : p * k ≤ p * 127 := Int.mul_le_mul_of_nonneg_left hk' h0
    omega
theorem StripeMoves_pure (x y a b c d e f m : Int) (hm : -128 ≤ m ∧ m ≤ 127) : garmentlaw28_StripeMoves.f 1 x y a b c d e f m = some true ∨ garmentlaw28_StripeMovesB.f 1 x y a b c d e f m = some true := by
  have hx := per_bd x; have hy := per_bd y
  unfold garmentlaw28_StripeMoves.f garmentlaw28_StripeMovesB.f
  simp only [times_four, far_eq, Option.bind_some, decide_eq_true_eq]
  by_cases h1 : ¬ (-1048576 ≤ 4 * bnd a ∧ 4 * bnd a ≤ 1048576 ∧ -1048576 ≤ 4 * bnd b ∧ 4 * bnd b ≤ 1048576)
  · left; rw [if_pos h1]; simp only [garmentlaw28_StripeMoves.j0, if_true, alive_true, Option.bind_some]
  · rw [if_neg h1, if_neg h1]
    by_cases h2 : ¬ (-1048576 ≤ 4 * bnd c ∧ 4 * bnd c ≤ 1048576 ∧ -1048576 ≤ 4 * bnd d ∧ 4 * bnd d ≤ 1048576)
    · left; rw [if_pos h2]; simp only [garmentlaw28_StripeMoves.j0, if_true, alive_true, Option.bind_some]
    · rw [if_neg h2, if_neg h2]
      by_cases h3 : ¬ (-1048576 ≤ 4 * bnd e ∧ 4 * bnd e ≤ 1048576 ∧ -1048576 ≤ 4 * bnd f ∧ 4 * bnd f ≤ 1048576)
      · left; rw [decide_eq_true h3]; simp only [garmentlaw28_StripeMoves.j0, if_true, alive_true, Option.bind_some]
      · rw [decide_eq_false h3]
        have n1 := near_four h1; have n2 := near_four h2; have n3 := near_four h3
        have g1 := whole_bd hx.1 hx.2 hm.1 hm.2; have g2 := whole_bd hy.1 hy.2 hm.1 hm.2
        have E1 := same_moved (a := a) (b := c) (d := e) (p := per x) (by omega) (by omega) (by omega) hx.1
        have E2 := same_moved (a := b) (b := d) (d := f) (p := per y) (by omega) (by omega) (by omega) hy.1
        have E : ((ph a (per x) == ph c (per x) && ph b (per y) == ph d (per y)) != (ph (a + e) (per x) == ph (c + e) (per x) && ph (b + f) (per y) == ph (d + f) (per y))) = false := by
          rw [bne_eq_false_iff_eq, Bool.eq_iff_iff]; simp only [Bool.and_eq_true, beq_iff_eq, E1, E2]
        have w1 : wrap64 (a + e) = a + e := w_eq (by omega) (by omega)
        have w2 : wrap64 (b + f) = b + f := w_eq (by omega) (by omega)
        have w3 : wrap64 (c + e) = c + e := w_eq (by omega) (by omega)
        have w4 : wrap64 (d + f) = d + f := w_eq (by omega) (by omega)
        have w5 : wrap64 m = m := w_eq (by omega) (by omega)
        have w6 : wrap64 (per x * m) = per x * m := w_eq (by omega) (by omega)
        have w7 : wrap64 (per y * m) = per y * m := w_eq (by omega) (by omega)
        have w8 : wrap64 (a + per x * m) = a + per x * m := w_eq (by omega) (by omega)
        have w9 : wrap64 (b + per y * m) = b + per y * m := w_eq (by omega) (by omega)
        have b1 : bnd (per x) = per x := bnd_eq (by omega) (by omega)
        have b2 : bnd (per y) = per y := bnd_eq (by omega) (by omega)
        have b3 : bnd m = m := bnd_eq (by omega) (by omega)
        simp only [garmentlaw28_StripeMoves.j0, garmentlaw28_StripeMovesB.j0, Norm_eq, Same_eq, far_eq, alive_true, times_eq, Option.bind_some, decide_eq_true_eq, w1, w2, w3, w4, w5, b1, b2, b3, w6, w7, w8, w9]
        by_cases h4 : ¬ (-1048576 ≤ a + per x * m ∧ a + per x * m ≤ 1048576 ∧ -1048576 ≤ b + per y * m ∧ b + per y * m ≤ 1048576)
        · left
          rw [if_neg (by decide), if_neg (by rw [E]; decide), if_pos h4]
        · right
          obtain ⟨l1, l2⟩ := near_lim h4
          have P1 := whole_moved (a := a) (k := m) (by omega) hx.1 l1
          have P2 := whole_moved (a := b) (k := m) (by omega) hy.1 l2
          rw [if_neg (by decide), if_neg (by rw [E]; decide), if_neg h4, if_pos (by simp only [← P1, ← P2, beq_self_eq_true, Bool.and_self])]
end Go.Proofs.Ytkpapcklmfefjaa.S
