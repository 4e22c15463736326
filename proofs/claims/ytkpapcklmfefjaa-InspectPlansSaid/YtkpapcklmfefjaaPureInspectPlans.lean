/- The law InspectPlans in plain words: its mirror answers true, for any regime and any number that a uint8 holds. -/
import Derived.Test.YtkpapcklmfefjaaIPure
import Derived.Test.YtkpapcklmfefjaaI12
namespace Go.Proofs.Ytkpapcklmfefjaa.I
open Go.RowKit Go.Proofs.YtkpapcklmfefjaaW.PrintWords Go.Proofs.YtkpapcklmfefjaaW.PrintLast Go.Proofs.YtkpapcklmfefjaaW.PrintMore
/-- What the law asks of the sample: large enough, or the lot; and no larger than needed. -/
theorem lo_least {s n : Int} (h0 : 0 < s) (h : s ≤ 800) (hn : 2 ≤ n) : 1 ≤ lo (rt s) n ∧ lo (rt s) n ≤ 41 ∧ (lo (rt s) n < n → s ≤ lo (rt s) n * lo (rt s) n) ∧ (lo (rt s) n - 1) * (lo (rt s) n - 1) < s := by
  obtain ⟨b1, b2, b3, b4⟩ := rt_bd h0 h
  have h1 := lo_le (rt s) n; have h2 := lo_or (rt s) n
  refine ⟨by omega, by omega, fun hlt => ?_, ?_⟩
  · have e : lo (rt s) n = rt s := by omega
    rw [e]; exact b3
  · have := Int.mul_le_mul (a := lo (rt s) n - 1) (b := lo (rt s) n - 1) (c := rt s - 1) (d := rt s - 1) (by omega) (by omega) (by omega) (by omega)
    omega
theorem Plans_end {k : Nat} (hk : 80 ≤ k) {l n s : Int} (b c : Int) (h0 : 2 ≤ n) (h1 : n ≤ 200) (hs : smp l n = lo (rt s) n) (hs1 : n ≤ s) (hs2 : s ≤ 4 * n) (hs3 : l = 3 → s = 4 * n) :
    garmentlaw54_InspectPlans.j0 k n s l b c (smp l n) (if l = 3 then smp l n / 10 else smp l n / 5) = some true := by
  obtain ⟨m, rfl⟩ := more hk
  obtain ⟨e1, e2, e3, e4⟩ := lo_least (s := s) (n := n) (by omega) (by omega) h0
  have p := (plan_chk (l := l) h0 h1).1
  rw [← hs] at e1 e2 e3 e4
  have q0 : 0 ≤ (smp l n - 1) * (smp l n - 1) := Int.mul_nonneg (by omega) (by omega)
  have q1 : smp l n * smp l n ≤ 41 * 41 := Int.mul_le_mul e2 e2 (by omega) (by omega)
  have q2 : 0 ≤ smp l n * smp l n := Int.mul_nonneg (by omega) (by omega)
  have u : smp l n ≤ smp 2 n := by rw [hs]; exact lo_mono n (up_mono (by omega) 40 1)
  have u3 : l = 3 → smp l n = smp 2 n := fun e => by rw [hs, hs3 e]; rfl
  have J : ∀ (z : Int), garmentlaw54_InspectPlans.j1 (m + 79) n (decide ((smp l n - 1) * (smp l n - 1) ≥ s)) l b c (smp l n) z = garmentlaw54_InspectPlans.j1 (m + 79) n false l b c (smp l n) z := fun z => by rw [decide_eq_false (by omega)]
  simp only [garmentlaw54_InspectPlans.j0]
  rw [Check_eq (by omega), Option.bind_some, p, if_pos rfl, w_eq (n := smp l n - 1) (by omega) (by omega), w_eq (n := (smp l n - 1) * (smp l n - 1)) (by omega) (by omega), w_eq (n := smp l n * smp l n) (by omega) (by omega), J]
  have F : garmentlaw54_InspectPlans.j1 (m + 79) n false l b c (smp l n) (if l = 3 then smp l n / 10 else smp l n / 5) = some true := by
    simp only [garmentlaw54_InspectPlans.j1, inspect_Start.f, Option.bind_some]
    rw [if_neg (by decide), Plan_eq (by omega), Option.bind_some]
    have g : pl 2 0 0 n = (smp 2 n, smp 2 n / 5, 0) := by
      unfold pl; rw [if_pos (by decide), if_neg (by omega), if_neg (by decide), if_neg (by decide)]
    rw [g]
    dsimp only
    rw [if_pos rfl, if_pos u]
    by_cases l3 : l = 3
    · have := u3 l3
      rw [if_pos l3, if_pos this, if_pos (by rw [if_pos l3]; omega), alive_true (by omega), Option.bind_some]
    · rw [if_neg l3, alive_true (by omega), Option.bind_some]
  by_cases hlt : smp l n < n
  · rw [if_pos hlt, if_neg (by have := e3 hlt; omega), F]
  · rw [if_neg hlt, F]
theorem InspectPlans_pure (l b c m : Int) (_hl : (Lit.int .i64 l).wf = true) (_hb : (Lit.int .i64 b).wf = true) (_hc : (Lit.int .i64 c).wf = true) (hm : (Lit.int .u8 m).wf = true) : ∃ k, garmentlaw54_InspectPlans.f k l b c m = some true := by
  refine ⟨100, ?_⟩
  have hm : 0 ≤ m ∧ m ≤ 255 := by simpa [Lit.wf, IntKind.min, IntKind.max, IntKind.signed, IntKind.bits] using hm
  obtain ⟨n, hn, h0, h1⟩ : ∃ n, wrap64 (2 + Int.tmod (wrap64 m) 199) = n ∧ 2 ≤ n ∧ n ≤ 200 := by
    refine ⟨_, rfl, ?_⟩
    rw [w_eq (n := m) (by omega) (by omega), Int.tmod_eq_emod_of_nonneg hm.1, w_eq (by omega) (by omega)]
    omega
  unfold garmentlaw54_InspectPlans.f
  rw [hn, Plan_eq (by omega), Option.bind_some]
  by_cases hp : (pl l b c n).2.2 = 0
  · obtain ⟨v, _, _, e4, e⟩ := pl_ok hp
    rw [if_pos hp, e]
    dsimp only
    by_cases l1 : l = 1
    · rw [if_pos l1]
      exact Plans_end (by omega) b c h0 h1 (by unfold smp; rw [if_pos l1]) (by omega) (by omega) (fun e => by omega)
    · rw [if_neg l1, w_eq (n := 4 * n) (by omega) (by omega)]
      exact Plans_end (by omega) b c h0 h1 (by unfold smp; rw [if_neg l1]) (by omega) (by omega) (fun _ => rfl)
  · rw [if_neg hp]
    have e : pl l b c n = (0, 0, 1) ∨ pl l b c n = (0, 0, 8) := by
      unfold pl at hp ⊢
      by_cases v : vld l b c = true
      · rw [if_pos v, if_neg (by omega)] at hp ⊢
        by_cases l4 : l = 4
        · right; rw [if_pos l4]
        · rw [if_neg l4] at hp; split at hp <;> exact absurd rfl hp
      · left; rw [if_neg v]
    rcases e with e | e <;> rw [e] <;> simp [alive_true]
end Go.Proofs.Ytkpapcklmfefjaa.I
