/- What the functions of packages inspect and sampling compute, in the plain words. Conditions: enough rounds, where there is a loop; numbers of their kind. -/
import Derived.Test.YtkpapcklmfefjabIPlain
import Derived.Test.YtkpapcklmfefjabI11
namespace Go.Proofs.Ytkpapcklmfefjab.I
open Go.RowKit Go.Proofs.YtkpapcklmfefjabW.PrintWords Go.Proofs.YtkpapcklmfefjabW.PrintLast Go.Proofs.YtkpapcklmfefjabW.PrintMore

theorem more {k n : Nat} (h : n ≤ k) : ∃ m, k = m + n := ⟨k - n, by omega⟩
theorem mn_lo (a b : Int) : mn a b = lo a b := rfl

theorem valid_eq {k : Nat} (hk : 2 ≤ k) (l a r : Int) : inspect_valid.f k l a r = some (vld l a r) := by
  obtain ⟨m, rfl⟩ := more hk
  unfold inspect_valid.f
  simp only [inspect_valid.j0, inspect_valid.j1]
  repeat' split
  all_goals
    rw [Option.some.injEq, Bool.eq_iff_iff, vld_iff]
    (try simp at *)
    (try omega)

theorem accept_eq {k : Nat} (hk : 2 ≤ k) {l a r : Int} (v : vld l a r = true) (e : l ≠ 4) : inspect_accept.f k l a r = some (acc l a r) := by
  obtain ⟨m, rfl⟩ := more hk
  have v := vld_iff.1 v
  have w : wrap64 (a + 1) = a + 1 := w_eq (by omega) (by omega)
  unfold inspect_accept.f acc
  simp only [inspect_accept.j0, inspect_accept.j1, w, inspect_Start.f]
  repeat' split
  all_goals
    (try simp at *)
    (try omega)

theorem reject_eq {k : Nat} (hk : 2 ≤ k) {l a r : Int} (v : vld l a r = true) (e : l ≠ 4) : inspect_reject.f k l a r = some (rej l r) := by
  obtain ⟨m, rfl⟩ := more hk
  have v := vld_iff.1 v
  have w : wrap64 (r + 1) = r + 1 := w_eq (by omega) (by omega)
  unfold inspect_reject.f rej
  simp only [inspect_reject.j0, w, inspect_Start.f]
  repeat' split
  all_goals
    (try simp at *)
    (try omega)

theorem Switch_eq {k : Nat} (hk : 2 ≤ k) (l a r : Int) (y : Bool) : inspect_Switch.f k l a r y = some (sw l a r y) := by
  unfold inspect_Switch.f sw
  rw [valid_eq hk, Option.bind_some]
  by_cases v : vld l a r = true
  · rw [if_pos v, if_pos v]
    by_cases e : l = 4
    · rw [if_pos e, if_pos e]
    · rw [if_neg e, if_neg e, accept_eq hk v e, reject_eq hk v e, Option.bind_some, Option.bind_some]
      split <;> rfl
  · rw [if_neg v, if_neg v]

theorem Plan_loop (lot s share : Int) (hs : s ≤ 800) (hsh : share = 5 ∨ share = 10) (hl : 0 ≤ lot) : ∀ (d k : Nat) (x : Int), 1 ≤ x → x + d = 41 → d < k →
    inspect_Plan.l0 k lot s share x = some (lo (up s d x) lot, lo (up s d x) lot / share, 0) := by
  have q : ∀ y : Int, 1 ≤ y → y ≤ 41 → wrap64 (Int.tdiv (lo y lot) share) = lo y lot / share := by
    intro y h0 h1
    have := lo_le y lot; have := lo_or y lot
    have hn : 0 ≤ lo y lot := by omega
    rw [Int.tdiv_eq_ediv_of_nonneg hn, w_eq]
    · rcases hsh with rfl | rfl <;> omega
    · rcases hsh with rfl | rfl <;> omega
  intro d
  induction d with
  | zero =>
    intro k x h1 h2 hk
    obtain ⟨k, rfl⟩ : ∃ m, k = m + 1 := ⟨k - 1, by omega⟩
    have hx : x = 41 := by omega
    subst hx
    simp only [inspect_Plan.l0, up, mn_lo]
    rw [w_eq (by omega) (by omega), if_neg (by omega), if_neg (by omega), q 41 (by omega) (by omega)]
  | succ d ih =>
    intro k x h1 h2 hk
    obtain ⟨k, rfl⟩ : ∃ m, k = m + 1 := ⟨k - 1, by omega⟩
    have hx : x ≤ 41 := by omega
    have hxx : x * x ≤ 41 * 41 := Int.mul_le_mul hx hx (by omega) (by omega)
    have hx0 : 0 ≤ x * x := Int.mul_nonneg (by omega) (by omega)
    simp only [inspect_Plan.l0, up, mn_lo]
    rw [w_eq (n := x * x) (by omega) (by omega), w_eq (n := x + 1) (by omega) (by omega)]
    by_cases hlt : x * x < s
    · rw [if_pos hlt, if_pos hlt, ih k (x + 1) (by omega) (by omega) (by omega)]
    · rw [if_neg hlt, if_neg hlt, if_neg (by omega), q x h1 hx]

theorem Plan_eq {k : Nat} (hk : 60 ≤ k) (l a r lot : Int) : inspect_Plan.f k l a r lot = some (pl l a r lot) := by
  obtain ⟨m, rfl⟩ := more hk
  unfold inspect_Plan.f pl
  rw [valid_eq (by omega), Option.bind_some]
  by_cases v : vld l a r = true
  · rw [if_pos v, if_pos v]
    simp only [inspect_Plan.j0, inspect_Plan.j1, inspect_Plan.j2]
    by_cases b0 : lot < 2
    · rw [if_pos b0, if_pos trivial, if_pos (Or.inl b0)]
    · rw [if_neg b0]
      by_cases b1 : lot > 200
      · rw [decide_eq_true b1, if_pos rfl, if_pos (Or.inr b1)]
      · have h4 : wrap64 (4 * lot) = 4 * lot := w_eq (by omega) (by omega)
        rw [decide_eq_false b1, if_neg (by decide), if_neg (show ¬ (lot < 2 ∨ 200 < lot) by omega), h4]
        by_cases e4 : l = 4
        · rw [if_pos e4, if_pos e4]
        · rw [if_neg e4, if_neg e4]
          by_cases e1 : l = 1
          · rw [if_pos e1, if_neg (by omega), if_neg (by omega), Plan_loop lot lot 5 (by omega) (by omega) (by omega) 40 _ 1 (by omega) (by omega) (by omega)]
            unfold smp; rw [if_pos e1]; rfl
          · rw [if_neg e1]
            by_cases e3 : l = 3
            · rw [if_pos e3, if_pos e3, Plan_loop lot (4 * lot) 10 (by omega) (by omega) (by omega) 40 _ 1 (by omega) (by omega) (by omega)]
              unfold smp; rw [if_neg e1]; rfl
            · rw [if_neg e3, if_neg e3, Plan_loop lot (4 * lot) 5 (by omega) (by omega) (by omega) 40 _ 1 (by omega) (by omega) (by omega)]
              unfold smp; rw [if_neg e1]; rfl
  · rw [if_neg v, if_neg v]

theorem Check_eq {k : Nat} (hk : 2 ≤ k) (N C lot : Int) : sampling_Check.f k N C lot = some (chk N C lot) := by
  obtain ⟨m, rfl⟩ := more hk
  unfold sampling_Check.f chk
  simp only [sampling_Check.j0]
  repeat' split
  all_goals
    (try simp at *)
    (try omega)

theorem Decide_eq {k : Nat} (hk : 2 ≤ k) (N C f : Int) : sampling_Decide.f k N C f = some (dec N C f) := by
  obtain ⟨m, rfl⟩ := more hk
  unfold sampling_Decide.f dec
  rw [Check_eq (by omega), Option.bind_some]
  simp only [sampling_Decide.j0]
  repeat' split
  all_goals
    (try simp at *)
    (try omega)

theorem zip_drop {α β : Type} (xs : List α) (ys : List β) (h : xs.length = ys.length) (i : Nat) (hi : i < xs.length) (hy : i < ys.length) : (xs.zip ys).drop i = (xs[i], ys[i]) :: (xs.zip ys).drop (i + 1) := by
  have hz : i < (xs.zip ys).length := by simp; omega
  rw [List.drop_eq_getElem_cons hz, List.getElem_zip]
theorem rd_at (xs : List Int) (i : Nat) (h : i < xs.length) : rd xs (i : Int) = xs[i] := by
  unfold rd; simp [List.getD_eq_getElem?_getD, List.getElem?_eq_getElem h]
theorem rdOf_at (xs : List Bool) (i : Nat) (h : i < xs.length) : rdOf false xs (i : Int) = xs[i] := by
  unfold rdOf; simp [List.getD_eq_getElem?_getD, List.getElem?_eq_getElem h]

theorem Run_loop (lots found : List Int) (hlen : lots.length = found.length) (hm : lots.length ≤ 1000) : ∀ (d k i : Nat) (out : List Bool) (l a r : Int), i + d = lots.length → out.length = i → d + 60 < k →
    inspect_Run.l0 k found out lots (lots.length : Int) (i : Int) l a r = some (run ((lots.zip found).drop i) out l a r) := by
  intro d
  induction d with
  | zero =>
    intro k i out l a r hi ho hk
    obtain ⟨k, rfl⟩ : ∃ m, k = m + 1 := ⟨k - 1, by omega⟩
    have e : (lots.zip found).drop i = [] := List.drop_eq_nil_of_le (by simp; omega)
    simp only [inspect_Run.l0]
    rw [if_neg (by omega), e]; rfl
  | succ d ih =>
    intro k i out l a r hi ho hk
    obtain ⟨k, rfl⟩ : ∃ m, k = m + 1 := ⟨k - 1, by omega⟩
    have h1 : i < lots.length := by omega
    have h2 : i < found.length := by omega
    simp only [inspect_Run.l0]
    rw [if_pos (by omega), if_pos (by omega), if_pos (by omega), rd_at _ _ h1, rd_at _ _ h2, zip_drop lots found hlen i h1 h2, Plan_eq (by omega), Option.bind_some]
    unfold run
    by_cases hp : (pl l a r lots[i]).2.2 = 0
    · obtain ⟨v, _, _, e4, _⟩ := pl_ok hp
      rw [if_pos hp, if_pos hp, if_pos (by omega), Decide_eq (by omega), Option.bind_some]
      by_cases hd : (dec (pl l a r lots[i]).1 (pl l a r lots[i]).2.1 found[i]).2 = 0
      · rw [if_pos hd, if_pos hd, Switch_eq (by omega), Option.bind_some, if_pos (sw_ok _ v e4), if_pos (by omega), w_eq (by omega) (by omega)]
        exact ih k (i + 1) _ _ _ _ (by omega) (by simp [ho]) (by omega)
      · rw [if_neg hd, if_neg hd]
    · rw [if_neg hp, if_neg hp]

theorem Run_eq {k : Nat} (lots found : List Int) (hm : lots.length ≤ 1000) (hk : lots.length + 61 ≤ k) :
    inspect_Run.f k lots found = some (if lots.length = found.length then run (lots.zip found) [] 2 0 0 else ([], 0, 0, 0, 1)) := by
  unfold inspect_Run.f
  by_cases h : lots.length = found.length
  · rw [if_pos (by omega), if_pos h]
    show inspect_Run.l0 k found [] lots (lots.length : Int) ((0 : Nat) : Int) 2 0 0 = _
    rw [Run_loop lots found h hm lots.length k 0 [] 2 0 0 (by omega) rfl (by omega)]; rfl
  · rw [if_neg (by omega), if_neg h]

theorem Same_loop (xs : List Bool) (hm : xs.length ≤ 1000) : ∀ (d k i : Nat), i + d = xs.length → d < k → garmentref54_Same.l0 k xs xs (i : Int) = some true := by
  intro d
  induction d with
  | zero =>
    intro k i hi hk
    obtain ⟨k, rfl⟩ : ∃ m, k = m + 1 := ⟨k - 1, by omega⟩
    simp only [garmentref54_Same.l0]
    rw [if_neg (by omega)]
  | succ d ih =>
    intro k i hi hk
    obtain ⟨k, rfl⟩ : ∃ m, k = m + 1 := ⟨k - 1, by omega⟩
    simp only [garmentref54_Same.l0]
    rw [if_pos (by omega), if_pos (by omega), if_pos (by omega), if_neg (by simp), w_eq (by omega) (by omega)]
    exact ih k (i + 1) (by omega) (by omega)
theorem Same_eq {k : Nat} (xs : List Bool) (hm : xs.length ≤ 1000) (hk : xs.length < k) : garmentref54_Same.f k xs xs = some true := by
  unfold garmentref54_Same.f
  rw [if_pos rfl]
  exact Same_loop xs hm xs.length k 0 (by omega) hk

theorem alive_true {k : Nat} (hk : 70 ≤ k) : garmentlaw54_alive.f k = some true := by
  unfold garmentlaw54_alive.f
  rw [show inspect_Start.f = some (2, 0, 0) from rfl, Option.bind_some, Plan_eq (by omega), Option.bind_some, Switch_eq (by omega), Option.bind_some, Switch_eq (by omega), Option.bind_some, Run_eq _ _ (by simp) (by simp; omega), Option.bind_some]
  rw [show pl 2 0 0 50 = (15, 3, 0) by decide, show sw 2 3 1 false = (3, 0, 0, 0) by decide, show sw 4 0 0 true = (0, 0, 0, 8) by decide]
  rw [show (if ([50, 50] : List Int).length = ([3, 4] : List Int).length then run (([50, 50] : List Int).zip [3, 4]) [] 2 0 0 else ([], 0, 0, 0, 1)) = ([true, false], 2, 0, 1, 0) by decide]
  simp only [if_true, Option.bind_some]
  rw [Same_eq _ (by simp) (by simp; omega)]
  rfl
end Go.Proofs.Ytkpapcklmfefjab.I
