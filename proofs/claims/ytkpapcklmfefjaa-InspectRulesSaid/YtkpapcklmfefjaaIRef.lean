/- What the reference of the levels of inspection computes, in the plain words. Conditions: enough rounds, where there is a loop. -/
import Derived.Test.YtkpapcklmfefjaaIPure
import Derived.Test.YtkpapcklmfefjaaI14
import Derived.Test.YtkpapcklmfefjaaI15
import Derived.Test.YtkpapcklmfefjaaI16
import Derived.Test.YtkpapcklmfefjaaI17
namespace Go.Proofs.Ytkpapcklmfefjaa.I
open Go.RowKit Go.Proofs.YtkpapcklmfefjaaW.PrintWords Go.Proofs.YtkpapcklmfefjaaW.PrintLast Go.Proofs.YtkpapcklmfefjaaW.PrintMore
theorem Right_eq {k : Nat} (hk : 2 ≤ k) (l a r : Int) : garmentref54_Right.f k l a r = some (vld l a r) := by
  obtain ⟨m, rfl⟩ := more hk
  unfold garmentref54_Right.f
  simp only [garmentref54_Right.j0, garmentref54_Right.j1]
  repeat' split
  all_goals
    rw [Option.some.injEq, Bool.eq_iff_iff, vld_iff]
    (try simp at *)
    (try omega)
theorem normal_eq {l a r : Int} (y : Bool) (v : vld l a r = true) (e : l = 2) : garmentref54_normal.f l a r y = some (if y = true then acc l a r else rej l r) := by
  have v := vld_iff.1 v
  unfold garmentref54_normal.f acc rej
  rw [w_eq (n := a + 1) (by omega) (by omega), w_eq (n := r + 1) (by omega) (by omega)]
  repeat' split
  all_goals
    (try simp at *)
    (try omega)
theorem tightened_eq {l a r : Int} (y : Bool) (v : vld l a r = true) (e : l = 3) : garmentref54_tightened.f l a r y = some (if y = true then acc l a r else rej l r) := by
  have v := vld_iff.1 v
  unfold garmentref54_tightened.f acc rej
  rw [w_eq (n := a + 1) (by omega) (by omega), w_eq (n := r + 1) (by omega) (by omega)]
  repeat' split
  all_goals
    (try simp at *)
    (try omega)
theorem refSwitch_eq {k : Nat} (hk : 2 ≤ k) (l a r : Int) (y : Bool) : garmentref54_Switch.f k l a r y = some (sw l a r y) := by
  unfold garmentref54_Switch.f sw
  rw [Right_eq hk, Option.bind_some]
  by_cases v : vld l a r = true
  · rw [if_pos v, if_pos v]
    by_cases e4 : l = 4
    · rw [if_pos e4, if_pos e4]
    · rw [if_neg e4, if_neg e4]
      by_cases e2 : l = 2
      · rw [if_pos e2, normal_eq y v e2, Option.bind_some]
        split <;> rfl
      · rw [if_neg e2]
        by_cases e3 : l = 3
        · rw [if_pos e3, tightened_eq y v e3, Option.bind_some]
          split <;> rfl
        · have v := vld_iff.1 v
          obtain ⟨rfl, rfl, rfl⟩ : l = 1 ∧ a = 0 ∧ r = 0 := by omega
          rw [if_neg e3]
          cases y <;> rfl
  · rw [if_neg v, if_neg v]
theorem root_loop (s : Int) (hs : s ≤ 800) : ∀ (d k : Nat) (x : Int), 1 ≤ x → x + d = 41 → d < k → garmentref54_root.l0 k s x = some (up s d x) := by
  intro d
  induction d with
  | zero =>
    intro k x h1 h2 hk
    obtain ⟨k, rfl⟩ : ∃ m, k = m + 1 := ⟨k - 1, by omega⟩
    have hx : x = 41 := by omega
    subst hx
    simp only [garmentref54_root.l0, up]
    rw [w_eq (by omega) (by omega), if_neg (by omega)]
  | succ d ih =>
    intro k x h1 h2 hk
    obtain ⟨k, rfl⟩ : ∃ m, k = m + 1 := ⟨k - 1, by omega⟩
    have hx : x ≤ 41 := by omega
    have hxx : x * x ≤ 41 * 41 := Int.mul_le_mul hx hx (by omega) (by omega)
    have hx0 : 0 ≤ x * x := Int.mul_nonneg (by omega) (by omega)
    simp only [garmentref54_root.l0, up]
    rw [w_eq (n := x * x) (by omega) (by omega), w_eq (n := x + 1) (by omega) (by omega)]
    by_cases hlt : x * x < s
    · rw [if_pos hlt, if_pos hlt, ih k (x + 1) (by omega) (by omega) (by omega)]
    · rw [if_neg hlt, if_neg hlt]
theorem root_eq {k : Nat} (hk : 50 ≤ k) {s : Int} (h0 : 0 < s) (hs : s ≤ 800) : garmentref54_root.f k s = some (rt s) := by
  obtain ⟨m, rfl⟩ := more hk
  unfold garmentref54_root.f
  simp only [garmentref54_root.l0]
  rw [show wrap64 (0 * 0) = 0 from w_eq (n := 0) (by omega) (by omega), if_pos h0, show wrap64 (0 + 1) = 1 from w_eq (n := 1) (by omega) (by omega)]
  exact root_loop s hs 40 (m + 49) 1 (by omega) (by omega) (by omega)
theorem refPlan_eq {k : Nat} (hk : 60 ≤ k) (l a r lot : Int) : garmentref54_Plan.f k l a r lot = some (pl l a r lot) := by
  obtain ⟨m, rfl⟩ := more hk
  unfold garmentref54_Plan.f pl
  rw [Right_eq (by omega), Option.bind_some]
  by_cases v : vld l a r = true
  · rw [if_pos v, if_pos v]
    simp only [garmentref54_Plan.j0]
    by_cases b0 : lot < 2
    · rw [if_pos b0, if_pos trivial, if_pos (Or.inl b0)]
    · rw [if_neg b0]
      by_cases b1 : lot > 200
      · rw [decide_eq_true b1, if_pos rfl, if_pos (Or.inr b1)]
      · have h4 : wrap64 (4 * lot) = 4 * lot := w_eq (by omega) (by omega)
        have q : ∀ s y : Int, 0 ≤ s → s ≤ 41 → (y = 5 ∨ y = 10) → wrap64 (Int.tdiv s y) = s / y := by
          intro s y h0 h1 hy
          rw [Int.tdiv_eq_ediv_of_nonneg h0, w_eq]
          · rcases hy with rfl | rfl <;> omega
          · rcases hy with rfl | rfl <;> omega
        have b := smp_bd (l := l) (lot := lot) (by omega) (by omega)
        rw [decide_eq_false b1, if_neg (by decide), if_neg (show ¬ (lot < 2 ∨ 200 < lot) by omega), h4, root_eq (by omega) (by omega) (by omega), root_eq (by omega) (by omega) (by omega)]
        simp only [Option.bind_some, mn_lo]
        by_cases e4 : l = 4
        · rw [if_pos e4, if_pos e4]
        · rw [if_neg e4, if_neg e4]
          by_cases e1 : l = 1
          · rw [show smp l lot = lo (rt lot) lot by unfold smp; rw [if_pos e1]] at *
            rw [if_pos e1, if_neg (by omega), q _ _ (by omega) (by omega) (by omega)]
          · rw [show smp l lot = lo (rt (4 * lot)) lot by unfold smp; rw [if_neg e1]] at *
            rw [if_neg e1]
            by_cases e3 : l = 3
            · rw [if_pos e3, if_pos e3, q _ _ (by omega) (by omega) (by omega)]
            · rw [if_neg e3, if_neg e3, q _ _ (by omega) (by omega) (by omega)]
  · rw [if_neg v, if_neg v]
end Go.Proofs.Ytkpapcklmfefjaa.I
