/- The law InspectDecides in plain words: its mirror answers true, for any lots and findings (at most 100 lots, as the law asks itself). -/
import Derived.Test.YtkpapcklmfefjaaIPure
import Derived.Test.YtkpapcklmfefjaaI13
namespace Go.Proofs.Ytkpapcklmfefjaa.I
open Go.RowKit Go.Proofs.YtkpapcklmfefjaaW.PrintWords Go.Proofs.YtkpapcklmfefjaaW.PrintLast Go.Proofs.YtkpapcklmfefjaaW.PrintMore
theorem dec_ok {N C f : Int} (h : (dec N C f).2 = 0) : 0 ≤ f ∧ f ≤ N ∧ (dec N C f).1 = decide (f ≤ C) := by
  unfold dec at *
  by_cases c : chk N C N = 0 ∧ 0 ≤ f ∧ f ≤ N
  · rw [if_pos c]; exact ⟨c.2.1, c.2.2, rfl⟩
  · rw [if_neg c] at h; simp at h
/-- The law's own loop goes over what Run has decided, and finds the same. -/
theorem Decides_loop (lots found : List Int) (outs : List Bool) (L A R : Int) (hlen : lots.length = found.length) (hm : lots.length ≤ 100) (ho : outs.length = lots.length) : ∀ (d k i : Nat) (out : List Bool) (l a r : Int), i + d = lots.length → out.length = i → 2 * d + 80 < k →
    run ((lots.zip found).drop i) out l a r = (outs, L, A, R, 0) → garmentlaw54_InspectDecides.l0 k lots found outs (i : Int) L A R l a r = some true := by
  intro d
  induction d with
  | zero =>
    intro k i out l a r hi hol hk hrun
    obtain ⟨k, rfl⟩ : ∃ m, k = m + 1 := ⟨k - 1, by omega⟩
    rw [List.drop_eq_nil_of_le (by simp; omega)] at hrun
    simp only [run, Prod.mk.injEq] at hrun
    obtain ⟨_, rfl, rfl, rfl, _⟩ := hrun
    simp only [garmentlaw54_InspectDecides.l0]
    rw [if_neg (by omega), if_pos (by simp), alive_true (by omega), Option.bind_some]
  | succ d ih =>
    intro k i out l a r hi hol hk hrun
    obtain ⟨k, rfl⟩ : ∃ m, k = m + 2 := ⟨k - 2, by omega⟩
    have h1 : i < lots.length := by omega
    have h2 : i < found.length := by omega
    rw [zip_drop lots found hlen i h1 h2] at hrun
    unfold run at hrun
    by_cases hp : (pl l a r lots[i]).2.2 = 0
    · obtain ⟨v, _, _, e4, _⟩ := pl_ok hp
      rw [if_pos hp] at hrun
      by_cases hd : (dec (pl l a r lots[i]).1 (pl l a r lots[i]).2.1 found[i]).2 = 0
      · rw [if_pos hd] at hrun
        obtain ⟨d1, d2, d3⟩ := dec_ok hd
        have hout := (run_out ((lots.zip found).drop (i + 1)) (out ++ [(dec (pl l a r lots[i]).1 (pl l a r lots[i]).2.1 found[i]).1]) (sw l a r (dec (pl l a r lots[i]).1 (pl l a r lots[i]).2.1 found[i]).1).1 (sw l a r (dec (pl l a r lots[i]).1 (pl l a r lots[i]).2.1 found[i]).1).2.1 (sw l a r (dec (pl l a r lots[i]).1 (pl l a r lots[i]).2.1 found[i]).1).2.2.1).1
        rw [hrun] at hout
        obtain ⟨t, ht, _⟩ := hout rfl
        have hi3 : i < outs.length := by omega
        have e : rdOf false outs (i : Int) = (dec (pl l a r lots[i]).1 (pl l a r lots[i]).2.1 found[i]).1 := by
          rw [rdOf_at _ _ hi3]
          simp only at ht
          subst hol
          simp only [ht, List.append_assoc, List.singleton_append]
          simp
        simp only [garmentlaw54_InspectDecides.l0]
        rw [if_pos (by omega), if_pos (by omega), rd_at _ _ h1, rd_at _ _ h2, Plan_eq (by omega), Option.bind_some, if_pos hp, if_pos (by omega), if_pos (by omega), e, if_neg (by rw [d3]; simp), if_neg (by omega), decide_eq_false (by omega)]
        simp only [garmentlaw54_InspectDecides.j2]
        rw [if_neg (by decide), if_pos (by omega), if_pos (by omega), e, Switch_eq (by omega), Option.bind_some, if_pos (sw_ok _ v e4), w_eq (by omega) (by omega)]
        exact ih k (i + 1) _ _ _ _ (by omega) (by simp [hol]) (by omega) hrun
      · rw [if_neg hd] at hrun; simp only [Prod.mk.injEq] at hrun; exact absurd hrun.2.2.2.2 hd
    · rw [if_neg hp] at hrun; simp only [Prod.mk.injEq] at hrun; exact absurd hrun.2.2.2.2 hp
theorem Decides_any (lots found : List Int) : garmentlaw54_InspectDecides.f 400 lots found = some true := by
  unfold garmentlaw54_InspectDecides.f
  have alive : garmentlaw54_InspectDecides.j0 400 lots found true = some true := by
    simp only [garmentlaw54_InspectDecides.j0, if_true]
    rw [alive_true (by omega), Option.bind_some]
  by_cases hm : (lots.length : Int) > 100
  · rw [if_pos hm, alive]
  · rw [if_neg hm]
    by_cases hl : lots.length = found.length
    · rw [show ((found.length : Int) != (lots.length : Int)) = false by simp [hl]]
      simp only [garmentlaw54_InspectDecides.j0]
      rw [if_neg (by decide), Run_eq lots found (by omega) (by omega), Option.bind_some, if_pos hl]
      have ro := run_out (lots.zip found) [] 2 0 0
      by_cases he : (run (lots.zip found) [] 2 0 0).2.2.2.2 = 0
      · obtain ⟨t, ht, htl⟩ := ro.1 he
        have ho : (run (lots.zip found) [] 2 0 0).1.length = lots.length := by rw [ht]; simp [htl]; omega
        rw [if_pos he, if_pos (by omega)]
        simp only [inspect_Start.f, Option.bind_some]
        exact Decides_loop lots found _ _ _ _ hl (by omega) ho lots.length 399 0 [] 2 0 0 (by omega) rfl (by omega) (by rw [List.drop_zero]; exact Prod.ext rfl (Prod.ext rfl (Prod.ext rfl (Prod.ext rfl he))))
      · obtain ⟨r1, r2, r3, r4⟩ := ro.2 he
        rw [if_neg he, if_pos (by rw [r1]; rfl), if_pos (by rw [r2, r3, r4]; decide), alive_true (by omega), Option.bind_some]
    · rw [show ((found.length : Int) != (lots.length : Int)) = true by simp; omega, alive]
end Go.Proofs.Ytkpapcklmfefjaa.I
namespace Go.Proofs.Ytkpapcklmfefjaa.Pure
open Go.Proofs.Ytkpapcklmfefjaa.I
theorem InspectDecides : garmentlaw54_InspectDecides.Pure := fun lots found _ _ _ _ _ _ => ⟨400, Decides_any lots found⟩
end Go.Proofs.Ytkpapcklmfefjaa.Pure
