/- What the functions of package stripe compute, in plain words about whole numbers. Conditions: a period within its bounds, where one is handed over. -/
import Derived.Test.YtkpapcklmfefjaaS7
import Derived.Test.YtkpapcklmfefjaaS9
namespace Go.Proofs.Ytkpapcklmfefjaa.S
open Go.RowKit Go.Proofs.YtkpapcklmfefjaaW.PrintWords Go.Proofs.YtkpapcklmfefjaaW.PrintLast Go.Proofs.YtkpapcklmfefjaaW.PrintMore

/-- A period as it counts. -/
def per (n : Int) : Int := if n < 1 then 0 else if n > 1048576 then 0 else n
/-- A coordinate as it counts. -/
def lim (n : Int) : Int := mn (mx n (-1048576)) 1048576
/-- The place of a coordinate within a period. -/
def ph (n p : Int) : Int := if p = 0 then 0 else lim n % p
/-- The next coordinate from a on with the phase of b. -/
def nx (a b p : Int) : Int := if p = 0 then lim a else lim a + (ph b p - ph a p) % p

theorem per_bd (n : Int) : 0 ≤ per n ∧ per n ≤ 1048576 := by unfold per; split <;> (try split) <;> omega
theorem per_per (n : Int) : per (per n) = per n := by unfold per; (repeat' split) <;> omega
theorem lim_bd (n : Int) : -1048576 ≤ lim n ∧ lim n ≤ 1048576 := by unfold lim mn mx; (repeat' split) <;> omega
theorem lim_eq {n : Int} (h : -1048576 ≤ n) (h' : n ≤ 1048576) : lim n = n := by unfold lim mn mx; (repeat' split) <;> omega
theorem lim_lim (n : Int) : lim (lim n) = lim n := lim_eq (lim_bd n).1 (lim_bd n).2

theorem w_eq {n : Int} (h : -9223372036854775808 ≤ n) (h' : n ≤ 9223372036854775807) : wrap64 n = n := by unfold wrap64; omega

theorem tmod_bd (n : Int) {p : Int} (hp : 0 < p) : -p < n.tmod p ∧ n.tmod p < p := ⟨Int.lt_tmod_of_pos n hp, Int.tmod_lt_of_pos n hp⟩
theorem tmod_emod (n p : Int) : n.tmod p % p = n % p := by rw [Int.tmod_def, Int.sub_mul_emod_self_left]
theorem tmod_up (n : Int) {p : Int} (hp : 0 < p) : (n.tmod p + p).tmod p = n % p := by
  have := tmod_bd n hp
  rw [Int.tmod_eq_emod_of_nonneg (by omega), Int.add_emod_right, tmod_emod]

theorem ph_bd (n : Int) {p : Int} (hp : 0 < p) : 0 ≤ ph n p ∧ ph n p < p := by
  unfold ph; rw [if_neg (by omega)]; exact ⟨Int.emod_nonneg _ (by omega), Int.emod_lt_of_pos _ hp⟩
theorem ph_zero (n : Int) : ph n 0 = 0 := rfl
theorem ph_pos (n : Int) {p : Int} (hp : 0 < p) : ph n p = lim n % p := by unfold ph; rw [if_neg (by omega)]

theorem period_eq (n : Int) : stripe_period.f n = some (per n) := by unfold stripe_period.f per; (repeat' split) <;> rfl
theorem Norm_eq (x y : Int) : stripe_Norm.f x y = some (per x, per y) := by unfold stripe_Norm.f; simp [period_eq]
theorem limited_eq (n : Int) : stripe_limited.f n = some (lim n) := rfl
theorem phase_eq (n p : Int) (h0 : 0 ≤ p) (h1 : p ≤ 1048576) : stripe_phase.f n p = some (ph n p) := by
  unfold stripe_phase.f ph
  by_cases hp : p = 0
  · rw [if_pos hp, if_pos hp]
  · have b := tmod_bd (lim n) (p := p) (by omega)
    rw [if_neg hp, if_neg hp, limited_eq, Option.bind_some, w_eq (by omega) (by omega), tmod_up _ (by omega)]
theorem Phase_eq (x y a b : Int) : stripe_Phase.f x y a b = some (ph a (per x), ph b (per y)) := by
  have := per_bd x; have := per_bd y
  unfold stripe_Phase.f
  rw [Norm_eq, Option.bind_some]
  show (stripe_phase.f a (per x)).bind _ = _
  rw [phase_eq _ _ (by omega) (by omega), Option.bind_some]
  show (stripe_phase.f b (per y)).bind _ = _
  rw [phase_eq _ _ (by omega) (by omega), Option.bind_some]
theorem ph_lim (n p : Int) : ph (lim n) p = ph n p := by unfold ph; rw [lim_lim]
theorem next_eq (a b p : Int) (h0 : 0 ≤ p) (h1 : p ≤ 1048576) : stripe_next.f a b p = some (nx a b p) := by
  unfold stripe_next.f nx
  rw [limited_eq, Option.bind_some]
  by_cases hp : p = 0
  · rw [if_pos hp, if_pos hp]
  · have hp' : 0 < p := by omega
    have b1 := ph_bd a hp'; have b2 := ph_bd b hp'; have b3 := lim_bd a
    rw [if_neg hp, if_neg hp, phase_eq _ _ h0 h1, Option.bind_some, phase_eq _ _ h0 h1, Option.bind_some, ph_lim, w_eq (n := ph b p - ph a p) (by omega) (by omega), w_eq (n := ph b p - ph a p + p) (by omega) (by omega), Int.tmod_eq_emod_of_nonneg (by omega), Int.add_emod_right]
    have b4 := Int.emod_nonneg (ph b p - ph a p) hp; have b5 := Int.emod_lt_of_pos (ph b p - ph a p) hp'
    rw [w_eq (by omega) (by omega)]
theorem Next_eq (x y a b c d : Int) : stripe_Next.f x y a b c d = some (nx a c (per x), nx b d (per y)) := by
  have := per_bd x; have := per_bd y
  unfold stripe_Next.f
  rw [Norm_eq, Option.bind_some]
  show (stripe_next.f a c (per x)).bind _ = _
  rw [next_eq _ _ _ (by omega) (by omega), Option.bind_some]
  show (stripe_next.f b d (per y)).bind _ = _
  rw [next_eq _ _ _ (by omega) (by omega), Option.bind_some]
theorem Same_eq (x y a b c d : Int) : stripe_Same.f x y a b c d = some (ph a (per x) == ph c (per x) && (ph b (per y) == ph d (per y))) := by
  unfold stripe_Same.f
  rw [Phase_eq, Option.bind_some, Phase_eq, Option.bind_some]
theorem alive_true : garmentlaw28_alive.f = some true := by
  unfold garmentlaw28_alive.f
  simp only [Norm_eq, Phase_eq, Next_eq, Same_eq, Option.bind_some]
  decide
theorem far_eq (x y : Int) : garmentlaw28_far.f x y = some (decide (¬ (-1048576 ≤ x ∧ x ≤ 1048576 ∧ -1048576 ≤ y ∧ y ≤ 1048576))) := by
  unfold garmentlaw28_far.f
  (repeat' split) <;> simp only [Option.some.injEq] <;> (first | (symm; rw [decide_eq_true_eq]; omega) | (rw [decide_eq_decide]; omega))
theorem near_lim {x y : Int} (h : ¬ ¬ (-1048576 ≤ x ∧ x ≤ 1048576 ∧ -1048576 ≤ y ∧ y ≤ 1048576)) : lim x = x ∧ lim y = y := by
  have h := Decidable.not_not.mp h
  exact ⟨lim_eq h.1 h.2.1, lim_eq h.2.2.1 h.2.2.2⟩
end Go.Proofs.Ytkpapcklmfefjaa.S
