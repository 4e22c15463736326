/- What the levels of inspection are, in plain words about whole numbers and lists; no program in sight. -/
import Derived.RowKit
namespace Go.Proofs.Ytkpapcklmfefjab.I
open Go.RowKit

/-- Does a regime occur? -/
def vld (l a r : Int) : Bool := decide (0 ≤ a ∧ 0 ≤ r ∧ ((l = 2 ∧ (r = 0 ∧ a ≤ 9 ∨ r = 1 ∧ a ≤ 4)) ∨ (l = 3 ∧ a ≤ 4 ∧ r ≤ 4) ∨ ((l = 1 ∨ l = 4) ∧ a = 0 ∧ r = 0)))
/-- The regime after an accepted lot. -/
def acc (l a r : Int) : Int × Int × Int := if l = 1 then (1, 0, 0) else if l = 3 then (if a = 4 then (2, 0, 0) else (3, a + 1, r)) else if a = 9 then (1, 0, 0) else if a = 4 then (2, 5, 0) else (2, a + 1, r)
/-- The regime after a rejected lot. -/
def rej (l r : Int) : Int × Int × Int := if l = 1 then (2, 0, 0) else if l = 3 then (if r = 4 then (4, 0, 0) else (3, 0, r + 1)) else if r = 1 then (3, 0, 0) else (2, 0, r + 1)
/-- The regime after a lot, and the error. -/
def sw (l a r : Int) (y : Bool) : Int × Int × Int × Int :=
  if vld l a r = true then (if l = 4 then (0, 0, 0, 8) else if y = true then ((acc l a r).1, (acc l a r).2.1, (acc l a r).2.2, 0) else ((rej l r).1, (rej l r).2.1, (rej l r).2.2, 0)) else (0, 0, 0, 1)
/-- From x on, the first number whose square is at least s, in at most d steps. -/
def up (s : Int) : Nat → Int → Int
  | 0, x => x
  | d + 1, x => if x * x < s then up s d (x + 1) else x
/-- The least number from 1 on whose square is at least s. -/
def rt (s : Int) : Int := up s 40 1
/-- The smaller number. -/
def lo (a b : Int) : Int := if b < a then b else a
/-- The sample of a plan. -/
def smp (l lot : Int) : Int := if l = 1 then lo (rt lot) lot else lo (rt (4 * lot)) lot
/-- The plan for a lot, and the error. -/
def pl (l a r lot : Int) : Int × Int × Int :=
  if vld l a r = true then (if lot < 2 ∨ 200 < lot then (0, 0, 3) else if l = 4 then (0, 0, 8) else if l = 3 then (smp l lot, smp l lot / 10, 0) else (smp l lot, smp l lot / 5, 0)) else (0, 0, 1)
/-- The error of a plan. -/
def chk (N C lot : Int) : Int := if N < 1 ∨ lot < N ∨ 200 < lot ∨ C < 0 ∨ N ≤ C then 3 else 0
/-- The decision about a lot, and the error. -/
def dec (N C f : Int) : Bool × Int := if chk N C N = 0 ∧ 0 ≤ f ∧ f ≤ N then (decide (f ≤ C), 0) else (false, 3)
/-- The decisions about lots one after the other, the last regime, and the error. -/
def run : List (Int × Int) → List Bool → Int → Int → Int → List Bool × Int × Int × Int × Int
  | [], out, l, a, r => (out, l, a, r, 0)
  | z :: t, out, l, a, r =>
    if (pl l a r z.1).2.2 = 0 then
      (if (dec (pl l a r z.1).1 (pl l a r z.1).2.1 z.2).2 = 0 then
        run t (out ++ [(dec (pl l a r z.1).1 (pl l a r z.1).2.1 z.2).1]) (sw l a r (dec (pl l a r z.1).1 (pl l a r z.1).2.1 z.2).1).1 (sw l a r (dec (pl l a r z.1).1 (pl l a r z.1).2.1 z.2).1).2.1 (sw l a r (dec (pl l a r z.1).1 (pl l a r z.1).2.1 z.2).1).2.2.1
      else ([], 0, 0, 0, (dec (pl l a r z.1).1 (pl l a r z.1).2.1 z.2).2))
    else ([], 0, 0, 0, (pl l a r z.1).2.2)

theorem w_eq {n : Int} (h : -9223372036854775808 ≤ n) (h' : n ≤ 9223372036854775807) : wrap64 n = n := by unfold wrap64; omega

theorem vld_iff {l a r : Int} : vld l a r = true ↔ 0 ≤ a ∧ 0 ≤ r ∧ ((l = 2 ∧ (r = 0 ∧ a ≤ 9 ∨ r = 1 ∧ a ≤ 4)) ∨ (l = 3 ∧ a ≤ 4 ∧ r ≤ 4) ∨ ((l = 1 ∨ l = 4) ∧ a = 0 ∧ r = 0)) := by
  unfold vld; exact decide_eq_true_iff
theorem pl_ok {l a r lot : Int} (h : (pl l a r lot).2.2 = 0) : vld l a r = true ∧ 2 ≤ lot ∧ lot ≤ 200 ∧ l ≠ 4 ∧ pl l a r lot = (smp l lot, (if l = 3 then smp l lot / 10 else smp l lot / 5), 0) := by
  unfold pl at *
  by_cases v : vld l a r = true
  · rw [if_pos v] at *
    by_cases b : lot < 2 ∨ 200 < lot
    · rw [if_pos b] at h; simp at h
    · rw [if_neg b] at *
      by_cases e : l = 4
      · rw [if_pos e] at h; simp at h
      · rw [if_neg e]
        refine ⟨v, by omega, by omega, e, ?_⟩
        split <;> rfl
  · rw [if_neg v] at h; simp at h
/-- Where a plan is made, the switch has no error. -/
theorem sw_ok {l a r : Int} (y : Bool) (v : vld l a r = true) (e : l ≠ 4) : (sw l a r y).2.2.2 = 0 := by
  unfold sw; rw [if_pos v, if_neg e]; split <;> rfl

theorem up_ge (s : Int) : ∀ (d : Nat) (x : Int), x ≤ up s d x ∧ up s d x ≤ x + d
  | 0, x => ⟨Int.le_refl _, by simp [up]⟩
  | d + 1, x => by
    have := up_ge s d (x + 1)
    unfold up; split <;> omega
/-- The square is large enough, if the last one is. -/
theorem up_sq (s : Int) : ∀ (d : Nat) (x : Int), s ≤ (x + d) * (x + d) → s ≤ up s d x * up s d x
  | 0, x => fun h => by simpa [up] using h
  | d + 1, x => fun h => by
    unfold up; split
    · exact up_sq s d (x + 1) (by rw [show x + 1 + (d : Int) = x + ((d + 1 : Nat) : Int) by omega]; exact h)
    · omega
/-- The square before it is too small. -/
theorem up_below (s : Int) : ∀ (d : Nat) (x : Int), (x - 1) * (x - 1) < s → (up s d x - 1) * (up s d x - 1) < s
  | 0, x => fun h => by simpa [up] using h
  | d + 1, x => fun h => by
    unfold up; split
    · exact up_below s d (x + 1) (by rw [show x + 1 - 1 = x by omega]; assumption)
    · exact h
theorem up_mono {s s' : Int} (h : s ≤ s') : ∀ (d : Nat) (x : Int), up s d x ≤ up s' d x
  | 0, x => Int.le_refl _
  | d + 1, x => by
    have := up_mono h d (x + 1); have := up_ge s' d (x + 1)
    unfold up; split <;> split <;> omega

theorem rt_bd {s : Int} (h0 : 0 < s) (h : s ≤ 800) : 1 ≤ rt s ∧ rt s ≤ 41 ∧ s ≤ rt s * rt s ∧ (rt s - 1) * (rt s - 1) < s := by
  have a := up_ge s 40 1
  exact ⟨a.1, by have := a.2; unfold rt; omega, up_sq s 40 1 (by simp; omega), up_below s 40 1 (by simpa using h0)⟩
theorem lo_le (a b : Int) : lo a b ≤ a ∧ lo a b ≤ b := by unfold lo; split <;> omega
theorem lo_or (a b : Int) : lo a b = a ∨ lo a b = b := by unfold lo; split <;> simp
theorem lo_mono {a b : Int} (c : Int) (h : a ≤ b) : lo a c ≤ lo b c := by unfold lo; split <;> split <;> omega
theorem smp_bd {l lot : Int} (h0 : 2 ≤ lot) (h1 : lot ≤ 200) : 1 ≤ smp l lot ∧ smp l lot ≤ lot ∧ smp l lot ≤ 41 := by
  have a := rt_bd (s := lot) (by omega) (by omega); have b := rt_bd (s := 4 * lot) (by omega) (by omega)
  unfold smp lo; (repeat' split) <;> omega
/-- A plan is valid for its lot. -/
theorem plan_chk {l lot : Int} (h0 : 2 ≤ lot) (h1 : lot ≤ 200) : chk (smp l lot) (if l = 3 then smp l lot / 10 else smp l lot / 5) lot = 0 ∧ chk (smp l lot) (if l = 3 then smp l lot / 10 else smp l lot / 5) (smp l lot) = 0 := by
  have := smp_bd (l := l) h0 h1
  constructor
  · unfold chk; rw [if_neg]; split <;> omega
  · unfold chk; rw [if_neg]; split <;> omega

/-- Decisions stand behind what was there, one for each lot; with an error there are none. -/
theorem run_out : ∀ (zs : List (Int × Int)) (out : List Bool) (l a r : Int), ((run zs out l a r).2.2.2.2 = 0 → ∃ t, (run zs out l a r).1 = out ++ t ∧ t.length = zs.length) ∧
    ((run zs out l a r).2.2.2.2 ≠ 0 → (run zs out l a r).1 = [] ∧ (run zs out l a r).2.1 = 0 ∧ (run zs out l a r).2.2.1 = 0 ∧ (run zs out l a r).2.2.2.1 = 0)
  | [], out, l, a, r => ⟨fun _ => ⟨[], by simp [run], rfl⟩, fun h => absurd rfl h⟩
  | z :: t, out, l, a, r => by
    unfold run
    by_cases hp : (pl l a r z.1).2.2 = 0
    · rw [if_pos hp]
      by_cases hd : (dec (pl l a r z.1).1 (pl l a r z.1).2.1 z.2).2 = 0
      · rw [if_pos hd]
        have ih := run_out t (out ++ [(dec (pl l a r z.1).1 (pl l a r z.1).2.1 z.2).1]) (sw l a r (dec (pl l a r z.1).1 (pl l a r z.1).2.1 z.2).1).1 (sw l a r (dec (pl l a r z.1).1 (pl l a r z.1).2.1 z.2).1).2.1 (sw l a r (dec (pl l a r z.1).1 (pl l a r z.1).2.1 z.2).1).2.2.1
        refine ⟨fun h => ?_, ih.2⟩
        obtain ⟨u, hu, hl⟩ := ih.1 h
        exact ⟨(dec (pl l a r z.1).1 (pl l a r z.1).2.1 z.2).1 :: u, by rw [hu, List.append_assoc]; rfl, by simp [hl]⟩
      · rw [if_neg hd]; exact ⟨fun h => absurd h hd, fun _ => ⟨rfl, rfl, rfl, rfl⟩⟩
    · rw [if_neg hp]; exact ⟨fun h => absurd h hp, fun _ => ⟨rfl, rfl, rfl, rfl⟩⟩
end Go.Proofs.Ytkpapcklmfefjab.I
