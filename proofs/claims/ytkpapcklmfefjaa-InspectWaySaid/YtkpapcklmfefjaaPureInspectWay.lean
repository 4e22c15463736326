/- The law InspectWay in plain words: its mirror answers true, for any list of decisions (at most 300, as the law asks itself). -/
import Derived.Test.YtkpapcklmfefjaaIPure
import Derived.Test.YtkpapcklmfefjaaI23
namespace Go.Proofs.Ytkpapcklmfefjaa.I
open Go.RowKit Go.Proofs.YtkpapcklmfefjaaW.PrintWords Go.Proofs.YtkpapcklmfefjaaW.PrintLast Go.Proofs.YtkpapcklmfefjaaW.PrintMore
/-- The number of rejected lots that the law counts, after a lot. -/
def cnt (l : Int) (y : Bool) (n : Int) : Int := if l = 3 then (if y = true then n else n + 1) else 0
/-- The law's own count is the regime's, as long as the level is Tightened; and five rejected lots stop the inspection. -/
theorem sw_count {l a r n : Int} (y : Bool) (v : vld l a r = true) (e : l ≠ 4) (hn : l = 3 → n = r) : vld (sw l a r y).1 (sw l a r y).2.1 (sw l a r y).2.2.1 = true ∧ ((sw l a r y).1 = 4 → cnt l y n = 5) ∧
    ((sw l a r y).1 = 3 → cnt l y n = (sw l a r y).2.2.1 ∧ cnt l y n ≤ 4) := by
  have u : sw l a r y = if y = true then ((acc l a r).1, (acc l a r).2.1, (acc l a r).2.2, 0) else ((rej l r).1, (rej l r).2.1, (rej l r).2.2, 0) := by unfold sw; rw [if_pos v, if_neg e]
  rw [u, vld_iff]
  have v := vld_iff.1 v
  have hl : l = 1 ∨ l = 2 ∨ l = 3 := by omega
  unfold cnt
  rcases hl with rfl | rfl | rfl
  · cases y <;> simp [acc, rej]
  · cases y
    · simp only [Bool.false_eq_true, if_false, rej]
      (repeat' split) <;> simp <;> omega
    · simp only [if_true, acc]
      (repeat' split) <;> simp <;> omega
  · have hn := hn rfl
    subst hn
    cases y
    · simp only [Bool.false_eq_true, if_false, if_true, rej]
      (repeat' split) <;> simp <;> omega
    · simp only [if_true, acc]
      (repeat' split) <;> simp <;> omega
theorem Way_loop (ys : List Bool) (hm : ys.length ≤ 300) : ∀ (d k i : Nat) (l a r n : Int), i + d = ys.length → 3 * d + 80 < k → vld l a r = true → (l = 3 → n = r) → 0 ≤ n → n ≤ 1000 - d →
    garmentlaw54_InspectWay.l0 k ys n (i : Int) l a r = some true := by
  intro d
  induction d with
  | zero =>
    intro k i l a r n hi hk v hn h0 h1
    obtain ⟨k, rfl⟩ : ∃ m, k = m + 1 := ⟨k - 1, by omega⟩
    simp only [garmentlaw54_InspectWay.l0]
    rw [if_neg (by omega), alive_true (by omega), Option.bind_some]
  | succ d ih =>
    intro k i l a r n hi hk v hn h0 h1
    obtain ⟨k, rfl⟩ : ∃ m, k = m + 3 := ⟨k - 3, by omega⟩
    simp only [garmentlaw54_InspectWay.l0]
    rw [if_pos (by omega), if_pos (by omega), Switch_eq (by omega), Option.bind_some]
    by_cases e : l = 4
    · rw [if_pos e, show sw l a r (rdOf false ys (i : Int)) = (0, 0, 0, 8) by unfold sw; rw [if_pos v, if_pos e], if_pos rfl, alive_true (by omega), Option.bind_some]
    · obtain ⟨n1, n2, n3⟩ := sw_count (n := n) (rdOf false ys (i : Int)) v e hn
      have ok := sw_ok (rdOf false ys (i : Int)) v e
      have hc : 0 ≤ cnt l (rdOf false ys (i : Int)) n ∧ cnt l (rdOf false ys (i : Int)) n ≤ 1000 - d := by
        unfold cnt; (repeat' split) <;> omega
      have J : garmentlaw54_InspectWay.j1 (k + 2) ys (cnt l (rdOf false ys (i : Int)) n) (i : Int) (sw l a r (rdOf false ys (i : Int))).1 (sw l a r (rdOf false ys (i : Int))).2.1 (sw l a r (rdOf false ys (i : Int))).2.2.1 = some true := by
        have J2 : garmentlaw54_InspectWay.j2 (k + 1) ys (cnt l (rdOf false ys (i : Int)) n) (i : Int) false (sw l a r (rdOf false ys (i : Int))).1 (sw l a r (rdOf false ys (i : Int))).2.1 (sw l a r (rdOf false ys (i : Int))).2.2.1 = some true := by
          simp only [garmentlaw54_InspectWay.j2]
          rw [if_neg (by decide), w_eq (n := (i : Int) + 1) (by omega) (by omega)]
          exact ih k (i + 1) _ _ _ _ (by omega) (by omega) n1 (fun h => (n3 h).1) hc.1 hc.2
        simp only [garmentlaw54_InspectWay.j1]
        by_cases f4 : (sw l a r (rdOf false ys (i : Int))).1 = 4
        · rw [if_pos f4, if_pos (n2 f4), if_neg (by omega), J2]
        · rw [if_neg f4]
          by_cases f3 : (sw l a r (rdOf false ys (i : Int))).1 = 3
          · rw [if_pos f3, decide_eq_false (by have := (n3 f3).2; omega), J2]
          · rw [if_neg f3, J2]
      rw [if_neg e, if_pos ok]
      by_cases e3 : l = 3
      · rw [if_pos e3]
        by_cases hy : rdOf false ys (i : Int) = true
        · rw [if_pos hy]
          rw [show cnt l (rdOf false ys (i : Int)) n = n by unfold cnt; rw [if_pos e3, if_pos hy]] at J
          exact J
        · rw [if_neg hy, w_eq (n := n + 1) (by omega) (by omega)]
          rw [show cnt l (rdOf false ys (i : Int)) n = n + 1 by unfold cnt; rw [if_pos e3, if_neg hy]] at J
          exact J
      · rw [if_neg e3]
        rw [show cnt l (rdOf false ys (i : Int)) n = 0 by unfold cnt; rw [if_neg e3]] at J
        exact J
theorem InspectWay_pure (ys : List Bool) : ∃ k, garmentlaw54_InspectWay.f k ys = some true := by
  refine ⟨1000, ?_⟩
  unfold garmentlaw54_InspectWay.f
  by_cases hm : (ys.length : Int) > 300
  · rw [if_pos hm, alive_true (by omega), Option.bind_some]
  · rw [if_neg hm]
    simp only [inspect_Start.f, Option.bind_some]
    have h := Way_loop ys (by omega) ys.length 1000 0 2 0 0 0 (by omega) (by omega) (by decide) (by omega) (by omega) (by omega)
    have z : ((0 : Nat) : Int) = 0 := rfl
    rw [z] at h
    exact h
end Go.Proofs.Ytkpapcklmfefjaa.I
