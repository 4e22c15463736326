/- The law InspectRuns in plain words: its mirror answers true, for any lots and findings (at most 200 each, as the law asks itself). -/
import Derived.Test.YtkpapcklmfefjaaIRef
import Derived.Test.YtkpapcklmfefjaaI21
namespace Go.Proofs.Ytkpapcklmfefjaa.I
open Go.RowKit Go.Proofs.YtkpapcklmfefjaaW.PrintWords Go.Proofs.YtkpapcklmfefjaaW.PrintLast Go.Proofs.YtkpapcklmfefjaaW.PrintMore
theorem refCheck_eq {k : Nat} (hk : 2 ≤ k) (N C lot : Int) : garmentref53_Check.f k N C lot = some (chk N C lot) := by
  obtain ⟨m, rfl⟩ := more hk
  unfold garmentref53_Check.f chk
  simp only [garmentref53_Check.j0]
  repeat' split
  all_goals
    (try simp at *)
    (try omega)
theorem refDecide_eq {k : Nat} (hk : 2 ≤ k) (N C f : Int) : garmentref53_Decide.f k N C f = some (dec N C f) := by
  obtain ⟨m, rfl⟩ := more hk
  unfold garmentref53_Decide.f dec
  rw [refCheck_eq (by omega), Option.bind_some]
  simp only [garmentref53_Decide.j0]
  repeat' split
  all_goals
    (try simp at *)
    (try omega)
theorem refRun_loop (lots found : List Int) (hlen : lots.length = found.length) (hm : lots.length ≤ 1000) : ∀ (d k i : Nat) (out : List Bool) (l a r : Int), i + d = lots.length → out.length = i → d + 60 < k →
    garmentref54_Run.l0 k lots found out (i : Int) l a r = some (run ((lots.zip found).drop i) out l a r) := by
  intro d
  induction d with
  | zero =>
    intro k i out l a r hi ho hk
    obtain ⟨k, rfl⟩ : ∃ m, k = m + 1 := ⟨k - 1, by omega⟩
    have e : (lots.zip found).drop i = [] := List.drop_eq_nil_of_le (by simp; omega)
    simp only [garmentref54_Run.l0]
    rw [if_neg (by omega), e]; rfl
  | succ d ih =>
    intro k i out l a r hi ho hk
    obtain ⟨k, rfl⟩ : ∃ m, k = m + 1 := ⟨k - 1, by omega⟩
    have h1 : i < lots.length := by omega
    have h2 : i < found.length := by omega
    simp only [garmentref54_Run.l0]
    rw [if_pos (by omega), if_pos (by omega), rd_at _ _ h1, rd_at _ _ h2, zip_drop lots found hlen i h1 h2, refPlan_eq (by omega), Option.bind_some]
    unfold run
    by_cases hp : (pl l a r lots[i]).2.2 = 0
    · rw [if_pos hp, if_pos hp, if_pos (by omega), refDecide_eq (by omega), Option.bind_some]
      by_cases hd : (dec (pl l a r lots[i]).1 (pl l a r lots[i]).2.1 found[i]).2 = 0
      · rw [if_pos hd, if_pos hd, refSwitch_eq (by omega), Option.bind_some, if_pos (by omega), w_eq (by omega) (by omega)]
        exact ih k (i + 1) _ _ _ _ (by omega) (by simp [ho]) (by omega)
      · rw [if_neg hd, if_neg hd]
    · rw [if_neg hp, if_neg hp]
theorem refRun_eq {k : Nat} (lots found : List Int) (hm : lots.length ≤ 1000) (hk : lots.length + 61 ≤ k) :
    garmentref54_Run.f k lots found = some (if lots.length = found.length then run (lots.zip found) [] 2 0 0 else ([], 0, 0, 0, 1)) := by
  unfold garmentref54_Run.f
  by_cases h : lots.length = found.length
  · have e := refRun_loop lots found h hm lots.length k 0 [] 2 0 0 (by omega) rfl (by omega)
    have z : ((0 : Nat) : Int) = 0 := rfl
    rw [z, List.drop_zero] at e
    rw [if_pos (by omega), if_pos h, ← e]; rfl
  · rw [if_neg (by omega), if_neg h]
theorem run_len (zs : List (Int × Int)) (l a r : Int) : (run zs [] l a r).1.length ≤ zs.length := by
  have ro := run_out zs [] l a r
  by_cases he : (run zs [] l a r).2.2.2.2 = 0
  · obtain ⟨t, ht, hl⟩ := ro.1 he
    rw [ht]; simp [hl]
  · rw [(ro.2 he).1]; simp
theorem Runs_any (lots found : List Int) : garmentlaw54_InspectRuns.f 400 lots found = some true := by
  unfold garmentlaw54_InspectRuns.f
  have alive : garmentlaw54_InspectRuns.j0 400 lots found true = some true := by
    simp only [garmentlaw54_InspectRuns.j0, if_true]
    rw [alive_true (by omega), Option.bind_some]
  by_cases hm : (lots.length : Int) > 200
  · rw [if_pos hm, alive]
  · rw [if_neg hm]
    by_cases hf : (found.length : Int) > 200
    · rw [decide_eq_true hf, alive]
    · rw [decide_eq_false hf]
      simp only [garmentlaw54_InspectRuns.j0]
      rw [if_neg (by decide), Run_eq lots found (by omega) (by omega), Option.bind_some, refRun_eq lots found (by omega) (by omega), Option.bind_some]
      have hz : (if lots.length = found.length then run (lots.zip found) [] 2 0 0 else ([], 0, 0, 0, 1)).1.length ≤ 200 := by
        split
        · have := run_len (lots.zip found) 2 0 0
          simp at this; omega
        · simp
      generalize (if lots.length = found.length then run (lots.zip found) [] 2 0 0 else ([], 0, 0, 0, 1)) = z at *
      rw [Same_eq z.1 (by omega) (by omega), Option.bind_some, if_pos rfl, if_pos (by simp), if_pos rfl, alive_true (by omega), Option.bind_some]
end Go.Proofs.Ytkpapcklmfefjaa.I
namespace Go.Proofs.Ytkpapcklmfefjaa.Pure
open Go.Proofs.Ytkpapcklmfefjaa.I
theorem InspectRuns : garmentlaw54_InspectRuns.Pure := fun lots found _ _ _ _ _ _ => ⟨400, Runs_any lots found⟩
end Go.Proofs.Ytkpapcklmfefjaa.Pure
