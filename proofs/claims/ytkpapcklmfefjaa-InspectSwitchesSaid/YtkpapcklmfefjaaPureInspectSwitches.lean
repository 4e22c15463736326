/- The law InspectSwitches in plain words: its mirror answers true, for any regime and decision. -/
import Derived.Test.YtkpapcklmfefjaaIPure
import Derived.Test.YtkpapcklmfefjaaI22
namespace Go.Proofs.Ytkpapcklmfefjaa.I
open Go.RowKit Go.Proofs.YtkpapcklmfefjaaW.PrintWords Go.Proofs.YtkpapcklmfefjaaW.PrintLast Go.Proofs.YtkpapcklmfefjaaW.PrintMore
/-- What a switch leads to: a regime, not stricter after an accepted lot, not less strict after a rejected one, with counts 0 where the level has changed; stopped only by a rejected lot. -/
theorem sw_next {l a r : Int} (y : Bool) (v : vld l a r = true) (e : l ≠ 4) : vld (sw l a r y).1 (sw l a r y).2.1 (sw l a r y).2.2.1 = true ∧ (y = true → (sw l a r y).1 ≤ l ∧ (sw l a r y).1 ≠ 4) ∧ (y = false → l ≤ (sw l a r y).1) ∧
    ((sw l a r y).1 ≠ l → (sw l a r y).2.1 = 0 ∧ (sw l a r y).2.2.1 = 0) := by
  have u : sw l a r y = if y = true then ((acc l a r).1, (acc l a r).2.1, (acc l a r).2.2, 0) else ((rej l r).1, (rej l r).2.1, (rej l r).2.2, 0) := by unfold sw; rw [if_pos v, if_neg e]
  rw [u, vld_iff]
  have v := vld_iff.1 v
  cases y
  · rw [if_neg (by decide)]
    unfold rej
    (repeat' split) <;> simp <;> omega
  · rw [if_pos rfl]
    unfold acc
    (repeat' split) <;> simp <;> omega
theorem InspectSwitches_pure (l a r : Int) (y : Bool) (_hl : (Lit.int .i64 l).wf = true) (_ha : (Lit.int .i64 a).wf = true) (_hr : (Lit.int .i64 r).wf = true) : ∃ k, garmentlaw54_InspectSwitches.f k l a r y = some true := by
  refine ⟨100, ?_⟩
  unfold garmentlaw54_InspectSwitches.f
  rw [Switch_eq (by omega), Option.bind_some]
  by_cases v : vld l a r = true
  · by_cases e : l = 4
    · rw [show sw l a r y = (0, 0, 0, 8) by unfold sw; rw [if_pos v, if_pos e]]
      simp [e, alive_true]
    · obtain ⟨n1, n2, n3, n4⟩ := sw_next y v e
      have ok := sw_ok y v e
      have J : garmentlaw54_InspectSwitches.j0 100 y false l a r (sw l a r y).1 (sw l a r y).2.1 (sw l a r y).2.2.1 = some true := by
        have J1 : garmentlaw54_InspectSwitches.j1 99 y false (sw l a r y).1 (sw l a r y).2.1 (sw l a r y).2.2.1 = some true := by
          simp only [garmentlaw54_InspectSwitches.j1]
          rw [if_neg (by decide), Switch_eq (by omega), Option.bind_some]
          by_cases f : (sw l a r y).1 = 4
          · have h8 : sw (sw l a r y).1 (sw l a r y).2.1 (sw l a r y).2.2.1 true = (0, 0, 0, 8) := by
              generalize sw l a r y = z at *
              unfold sw; rw [if_pos n1, if_pos f]
            rw [h8]
            have hy : y = false := by cases y; rfl; exact absurd f (n2 rfl).2
            subst hy
            simp [f, alive_true]
          · have h0 := sw_ok true n1 f
            rw [if_pos h0, if_neg f, alive_true (by omega), Option.bind_some]
        simp only [garmentlaw54_InspectSwitches.j0]
        rw [if_neg (by decide)]
        by_cases g : (sw l a r y).1 = l
        · rw [if_pos g, J1]
        · obtain ⟨z1, z2⟩ := n4 g
          rw [if_neg g, if_pos z1, show ((sw l a r y).2.2.1 != 0) = false by rw [z2]; rfl, J1]
      rw [if_pos ok]
      by_cases hy : y = true
      · have := (n2 hy).1
        rw [if_pos hy, if_neg (by omega), J]
      · have := n3 (by simpa using hy)
        rw [if_neg hy, decide_eq_false (by omega), J]
  · rw [show sw l a r y = (0, 0, 0, 1) by unfold sw; rw [if_neg v]]
    simp [alive_true]
end Go.Proofs.Ytkpapcklmfefjaa.I
