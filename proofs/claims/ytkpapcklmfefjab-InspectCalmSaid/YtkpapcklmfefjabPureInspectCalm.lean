/- The law InspectCalm in plain words: its mirror answers true, for any lots (at most 200, as the law asks itself). -/
import Derived.Test.YtkpapcklmfefjabIPure
import Derived.Test.YtkpapcklmfefjabI12
namespace Go.Proofs.Ytkpapcklmfefjab.I
open Go.RowKit Go.Proofs.YtkpapcklmfefjabW.PrintWords Go.Proofs.YtkpapcklmfefjabW.PrintLast Go.Proofs.YtkpapcklmfefjabW.PrintMore
/-- The level, and the number of accepted lots that count, after so many accepted lots. -/
def lev (i : Nat) : Int := if i < 10 then 2 else 1
def num (i : Nat) : Int := if i < 10 then (i : Int) else 0
theorem lev_vld (i : Nat) : vld (lev i) (num i) 0 = true ∧ lev i ≠ 4 ∧ lev i ≠ 3 := by
  rw [vld_iff]; unfold lev num; split <;> omega
theorem lev_pl (i : Nat) {lot : Int} (h0 : 2 ≤ lot) (h1 : lot ≤ 200) : pl (lev i) (num i) 0 lot = (smp (lev i) lot, smp (lev i) lot / 5, 0) := by
  obtain ⟨v, e4, e3⟩ := lev_vld i
  unfold pl; rw [if_pos v, if_neg (by omega), if_neg e4, if_neg e3]
theorem lev_dec (i : Nat) {lot : Int} (h0 : 2 ≤ lot) (h1 : lot ≤ 200) : dec (smp (lev i) lot) (smp (lev i) lot / 5) 0 = (true, 0) := by
  obtain ⟨_, _, e3⟩ := lev_vld i
  have p := (plan_chk (l := lev i) h0 h1).2
  rw [if_neg e3] at p
  have b := smp_bd (l := lev i) h0 h1
  unfold dec; rw [if_pos ⟨p, by omega, by omega⟩, decide_eq_true (by omega)]
theorem lev_sw (i : Nat) : sw (lev i) (num i) 0 true = (lev (i + 1), num (i + 1), 0, 0) := by
  obtain ⟨v, e4, _⟩ := lev_vld i
  unfold sw; rw [if_pos v, if_neg e4, if_pos rfl]
  unfold acc lev num
  (repeat' split) <;> simp <;> omega
theorem calm_run : ∀ (lots : List Int) (_ : ∀ x ∈ lots, 2 ≤ x ∧ x ≤ 200) (i : Nat) (out : List Bool), run (lots.zip (List.replicate lots.length 0)) out (lev i) (num i) 0 = (out ++ List.replicate lots.length true, lev (i + lots.length), num (i + lots.length), 0, 0)
  | [], _, i, out => by simp [run]
  | x :: t, h, i, out => by
    have hx := h x (by simp)
    have ih := calm_run t (fun y hy => h y (by simp [hy])) (i + 1) (out ++ [true])
    rw [List.length_cons, List.replicate_succ, List.zip_cons_cons]
    unfold run
    simp only [lev_pl i hx.1 hx.2, lev_dec i hx.1 hx.2, lev_sw i, if_true]
    rw [ih, List.append_assoc, show i + 1 + t.length = i + (t.length + 1) by omega]
    rfl
theorem all_loop (k0 : Nat) (lots : List Int) (n : Nat) (s1 s2 s3 : Int) (hn : n ≤ 200) (hs : garmentlaw54_InspectCalm.l1 (k0 + 1) lots (List.replicate n true) (n : Int) s1 s2 s3 = some true) : ∀ (d i : Nat), i + d = n → garmentlaw54_InspectCalm.l1 (k0 + 1 + d) lots (List.replicate n true) (i : Int) s1 s2 s3 = some true := by
  intro d
  induction d with
  | zero =>
    intro i hi
    obtain rfl : i = n := by omega
    exact hs
  | succ d ih =>
    intro i hi
    have hi2 : i < (List.replicate n true).length := by simp; omega
    have e : rdOf false (List.replicate n true) (i : Int) = true := by rw [rdOf_at _ _ hi2]; simp
    have step : garmentlaw54_InspectCalm.l1 (k0 + 1 + (d + 1)) lots (List.replicate n true) (i : Int) s1 s2 s3 = garmentlaw54_InspectCalm.l1 (k0 + 1 + d) lots (List.replicate n true) (wrap64 ((i : Int) + 1)) s1 s2 s3 := by
      rw [show k0 + 1 + (d + 1) = (k0 + 1 + d) + 1 by omega]
      conv => lhs; rw [garmentlaw54_InspectCalm.l1]
      rw [if_pos (by omega), if_pos (by omega), if_pos e]
    rw [step, w_eq (by omega) (by omega)]
    exact ih (i + 1) (by omega)
theorem calm_end {k : Nat} (hk : 600 ≤ k) (lots : List Int) (hm : lots.length ≤ 200) : garmentlaw54_InspectCalm.l1 k lots (List.replicate lots.length true) 0 (lev lots.length) (num lots.length) 0 = some true := by
  obtain ⟨m, rfl⟩ : ∃ m, k = m + 100 + 1 + lots.length := ⟨k - 101 - lots.length, by omega⟩
  have h := all_loop (m + 100) lots lots.length (lev lots.length) (num lots.length) 0 hm ?_ lots.length 0 (by omega)
  · have z : ((0 : Nat) : Int) = 0 := rfl
    rw [z] at h
    exact h
  · rw [garmentlaw54_InspectCalm.l1, if_neg (by simp)]
    unfold lev num
    by_cases h10 : lots.length < 10
    · rw [if_neg (by omega), if_pos h10, if_pos h10, garmentlaw54_InspectCalm.j3, if_pos (by simp), alive_true (by omega), Option.bind_some]
    · rw [if_pos (by omega), if_neg h10, if_neg h10, garmentlaw54_InspectCalm.j3, if_pos (by simp), alive_true (by omega), Option.bind_some]
theorem calm_loop (lots : List Int) (hm : lots.length ≤ 200) : ∀ (d k i : Nat), i + d = lots.length → d + 700 < k → (∀ j (hj : j < lots.length), j < i → 2 ≤ lots[j] ∧ lots[j] ≤ 200) → garmentlaw54_InspectCalm.l0 k lots (i : Int) = some true := by
  intro d
  induction d with
  | zero =>
    intro k i hi hk hin
    obtain ⟨k, rfl⟩ : ∃ m, k = m + 2 := ⟨k - 2, by omega⟩
    have hall : ∀ x ∈ lots, 2 ≤ x ∧ x ≤ 200 := by
      intro x hx
      obtain ⟨j, hj, rfl⟩ := List.getElem_of_mem hx
      exact hin j hj (by omega)
    have hr : run (lots.zip (List.replicate lots.length 0)) [] 2 0 0 = (List.replicate lots.length true, lev lots.length, num lots.length, 0, 0) := by
      have := calm_run lots hall 0 []
      rw [Nat.zero_add, List.nil_append] at this
      exact this
    simp only [garmentlaw54_InspectCalm.l0]
    rw [if_neg (by omega), if_pos (by omega), Int.toNat_natCast, if_pos (by omega), Run_eq _ _ (by omega) (by omega), Option.bind_some, if_pos (show lots.length = (List.replicate lots.length (0 : Int)).length by simp), hr]
    simp only [if_true, List.length_replicate]
    rw [show ((lots.length : Int) != (lots.length : Int)) = false by simp]
    simp only [garmentlaw54_InspectCalm.j1]
    rw [if_neg (by decide), calm_end (by omega) lots hm]
  | succ d ih =>
    intro k i hi hk hin
    obtain ⟨k, rfl⟩ : ∃ m, k = m + 1 := ⟨k - 1, by omega⟩
    have h1 : i < lots.length := by omega
    simp only [garmentlaw54_InspectCalm.l0]
    rw [if_pos (by omega), if_pos (by omega), rd_at _ _ h1]
    by_cases c0 : lots[i] < 2
    · rw [if_pos c0, alive_true (by omega), Option.bind_some]
    · rw [if_neg c0]
      by_cases c1 : lots[i] > 200
      · rw [if_pos c1, alive_true (by omega), Option.bind_some]
      · rw [if_neg c1, w_eq (by omega) (by omega)]
        refine ih k (i + 1) (by omega) (by omega) (fun j hj hji => ?_)
        by_cases hjj : j = i
        · subst hjj; omega
        · exact hin j hj (by omega)
theorem Calm_any (lots : List Int) : garmentlaw54_InspectCalm.f 1000 lots = some true := by
  unfold garmentlaw54_InspectCalm.f
  by_cases hm : (lots.length : Int) > 200
  · rw [if_pos hm, alive_true (by omega), Option.bind_some]
  · rw [if_neg hm]
    have h := calm_loop lots (by omega) lots.length 1000 0 (by omega) (by omega) (fun j _ h => absurd h (by omega))
    have z : ((0 : Nat) : Int) = 0 := rfl
    rw [z] at h
    exact h
end Go.Proofs.Ytkpapcklmfefjab.I
namespace Go.Proofs.Ytkpapcklmfefjab.Pure
open Go.Proofs.Ytkpapcklmfefjab.I
theorem InspectCalm : garmentlaw54_InspectCalm.Pure := fun lots _ _ _ => ⟨1000, Calm_any lots⟩
end Go.Proofs.Ytkpapcklmfefjab.Pure
