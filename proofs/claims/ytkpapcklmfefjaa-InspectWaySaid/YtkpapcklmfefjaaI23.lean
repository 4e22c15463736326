/- Written by wip/prune.sh: contracts of Go functions of the seat Ytkpapcklmfefjaa, each walked over the translation: a call returns what the plain function beside it says, and leaves all older memory as it was. A condition: the plain function answers 'some'. -/
import Derived.Test.YtkpapcklmfefjaaI0
import Derived.Test.YtkpapcklmfefjaaI5
import Derived.Test.YtkpapcklmfefjaaI8
import Derived.Test.YtkpapcklmfefjaaI11
namespace Go.Proofs.Ytkpapcklmfefjaa.I
open Go.RowKit Go.Proofs.YtkpapcklmfefjaaW.PrintWords Go.Proofs.YtkpapcklmfefjaaW.PrintLast Go.Proofs.YtkpapcklmfefjaaW.PrintMore
attribute [local go_sem high] Go.Proofs.Ytkpapcklmfefjaa.Mine.cell_again
attribute [local go_sem] max2_int min2_int max_two min_two max_three min_three max_four min_four   -- for this text's walks alone
set_option linter.unusedVariables false
set_option linter.unusedSimpArgs false

/-! ### garmentlaw54_InspectWay: function 14 -/
mutual
def garmentlaw54_InspectWay.l0 : Nat → List Bool → Int → Int → Int → Int → Int → Option (Bool)
  | 0, _, _, _, _, _, _ => none
  | k + 1, x0, x4, x5, x349000, x349001, x349002 => if x5 < (x0.length : Int) then (if 0 ≤ x5 then ((inspect_Switch.f k x349000 x349001 x349002 (rdOf false x0 x5)).bind fun bt350 => (if x349000 = 4 then (if bt350.2.2.2 = 8 then ((garmentlaw54_alive.f k).bind fun t355 => (some t355)) else (none)) else (if bt350.2.2.2 = 0 then (if x349000 = 3 then (if rdOf false x0 x5 = true then (garmentlaw54_InspectWay.j1 k x0 x4 x5 bt350.1 bt350.2.1 bt350.2.2.1) else (garmentlaw54_InspectWay.j1 k x0 (wrap64 (x4 + 1)) x5 bt350.1 bt350.2.1 bt350.2.2.1)) else (garmentlaw54_InspectWay.j1 k x0 0 x5 bt350.1 bt350.2.1 bt350.2.2.1)) else (none)))) else (none)) else ((garmentlaw54_alive.f k).bind fun t357 => (some t357))
def garmentlaw54_InspectWay.j1 : Nat → List Bool → Int → Int → Int → Int → Int → Option (Bool)
  | 0, _, _, _, _, _, _ => none
  | k + 1, x0, x4, x5, x355000, x355001, x355002 => if x355000 = 4 then (if x4 = 5 then (if x355000 = 3 then (garmentlaw54_InspectWay.j2 k x0 x4 x5 (decide (x4 > 4)) x355000 x355001 x355002) else (garmentlaw54_InspectWay.j2 k x0 x4 x5 false x355000 x355001 x355002)) else (garmentlaw54_InspectWay.j2 k x0 x4 x5 true x355000 x355001 x355002)) else (if x355000 = 3 then (garmentlaw54_InspectWay.j2 k x0 x4 x5 (decide (x4 > 4)) x355000 x355001 x355002) else (garmentlaw54_InspectWay.j2 k x0 x4 x5 false x355000 x355001 x355002))
def garmentlaw54_InspectWay.j2 : Nat → List Bool → Int → Int → Bool → Int → Int → Int → Option (Bool)
  | 0, _, _, _, _, _, _, _ => none
  | k + 1, x0, x4, x5, x63, x355000, x355001, x355002 => if x63 = true then (none) else (garmentlaw54_InspectWay.l0 k x0 x4 (wrap64 (x5 + 1)) x355000 x355001 x355002)
end
def garmentlaw54_InspectWay.f (k : Nat) (l0 : List Bool) : Option (Bool) := if (l0.length : Int) > 300 then ((garmentlaw54_alive.f k).bind fun t344 => (some t344)) else ((inspect_Start.f).bind fun bt345 => (garmentlaw54_InspectWay.l0 k l0 0 0 bt345.1 bt345.2.1 bt345.2.2))
theorem garmentlaw54_InspectWay.mono_l : ∀ k, (∀ y0 y1 y2 y3 y4 y5, LeO (garmentlaw54_InspectWay.l0 k y0 y1 y2 y3 y4 y5) (garmentlaw54_InspectWay.l0 (k + 1) y0 y1 y2 y3 y4 y5)) ∧ (∀ y0 y1 y2 y3 y4 y5, LeO (garmentlaw54_InspectWay.j1 k y0 y1 y2 y3 y4 y5) (garmentlaw54_InspectWay.j1 (k + 1) y0 y1 y2 y3 y4 y5)) ∧ (∀ y0 y1 y2 y3 y4 y5 y6, LeO (garmentlaw54_InspectWay.j2 k y0 y1 y2 y3 y4 y5 y6) (garmentlaw54_InspectWay.j2 (k + 1) y0 y1 y2 y3 y4 y5 y6))
  | 0 => ⟨fun _ _ _ _ _ _ r h => by simp [garmentlaw54_InspectWay.l0] at h, fun _ _ _ _ _ _ r h => by simp [garmentlaw54_InspectWay.j1] at h, fun _ _ _ _ _ _ _ r h => by simp [garmentlaw54_InspectWay.j2] at h⟩
  | k + 1 => by
    obtain ⟨ih0, ih1, ih2⟩ := garmentlaw54_InspectWay.mono_l k
    refine ⟨?_, ?_, ?_⟩
    · intro y0 y1 y2 y3 y4 y5
      unfold garmentlaw54_InspectWay.l0
      repeat' first
      | (with_reducible exact ih0 _ _ _ _ _ _)
      | (with_reducible exact ih1 _ _ _ _ _ _)
      | (with_reducible exact ih2 _ _ _ _ _ _ _)
      | (with_reducible exact garmentlaw54_alive.mono _)
      | (with_reducible exact inspect_Switch.mono _ _ _ _ _)
      | (with_reducible exact LeO.refl _)
      | (with_reducible exact LeO.none _)
      | (with_reducible refine LeO.ite ?_ ?_)
      | (with_reducible refine LeO.bind ?_ (fun _ => ?_))
      | exact ih0 _ _ _ _ _ _
      | exact ih1 _ _ _ _ _ _
      | exact ih2 _ _ _ _ _ _ _
      | exact garmentlaw54_alive.mono _
      | exact inspect_Switch.mono _ _ _ _ _
      | exact LeO.none _
      | refine LeO.ite ?_ ?_
      | refine LeO.bind ?_ (fun _ => ?_)
    · intro y0 y1 y2 y3 y4 y5
      unfold garmentlaw54_InspectWay.j1
      repeat' first
      | (with_reducible exact ih0 _ _ _ _ _ _)
      | (with_reducible exact ih1 _ _ _ _ _ _)
      | (with_reducible exact ih2 _ _ _ _ _ _ _)
      | (with_reducible exact garmentlaw54_alive.mono _)
      | (with_reducible exact inspect_Switch.mono _ _ _ _ _)
      | (with_reducible exact LeO.refl _)
      | (with_reducible exact LeO.none _)
      | (with_reducible refine LeO.ite ?_ ?_)
      | (with_reducible refine LeO.bind ?_ (fun _ => ?_))
      | exact ih0 _ _ _ _ _ _
      | exact ih1 _ _ _ _ _ _
      | exact ih2 _ _ _ _ _ _ _
      | exact garmentlaw54_alive.mono _
      | exact inspect_Switch.mono _ _ _ _ _
      | exact LeO.none _
      | refine LeO.ite ?_ ?_
      | refine LeO.bind ?_ (fun _ => ?_)
    · intro y0 y1 y2 y3 y4 y5 y6
      unfold garmentlaw54_InspectWay.j2
      repeat' first
      | (with_reducible exact ih0 _ _ _ _ _ _)
      | (with_reducible exact ih1 _ _ _ _ _ _)
      | (with_reducible exact ih2 _ _ _ _ _ _ _)
      | (with_reducible exact garmentlaw54_alive.mono _)
      | (with_reducible exact inspect_Switch.mono _ _ _ _ _)
      | (with_reducible exact LeO.refl _)
      | (with_reducible exact LeO.none _)
      | (with_reducible refine LeO.ite ?_ ?_)
      | (with_reducible refine LeO.bind ?_ (fun _ => ?_))
      | exact ih0 _ _ _ _ _ _
      | exact ih1 _ _ _ _ _ _
      | exact ih2 _ _ _ _ _ _ _
      | exact garmentlaw54_alive.mono _
      | exact inspect_Switch.mono _ _ _ _ _
      | exact LeO.none _
      | refine LeO.ite ?_ ?_
      | refine LeO.bind ?_ (fun _ => ?_)
theorem garmentlaw54_InspectWay.mono : ∀ a0 k, LeO (garmentlaw54_InspectWay.f k a0) (garmentlaw54_InspectWay.f (k + 1) a0) := by
  intro a0 k
  obtain ⟨ih0, ih1, ih2⟩ := garmentlaw54_InspectWay.mono_l k
  unfold garmentlaw54_InspectWay.f
  repeat' first
      | (with_reducible exact ih0 _ _ _ _ _ _)
      | (with_reducible exact ih1 _ _ _ _ _ _)
      | (with_reducible exact ih2 _ _ _ _ _ _ _)
      | (with_reducible exact garmentlaw54_alive.mono _)
      | (with_reducible exact inspect_Switch.mono _ _ _ _ _)
      | (with_reducible exact LeO.refl _)
      | (with_reducible exact LeO.none _)
      | (with_reducible refine LeO.ite ?_ ?_)
      | (with_reducible refine LeO.bind ?_ (fun _ => ?_))
      | exact ih0 _ _ _ _ _ _
      | exact ih1 _ _ _ _ _ _
      | exact ih2 _ _ _ _ _ _ _
      | exact garmentlaw54_alive.mono _
      | exact inspect_Switch.mono _ _ _ _ _
      | exact LeO.none _
      | refine LeO.ite ?_ ?_
      | refine LeO.bind ?_ (fun _ => ?_)
def garmentlaw54_InspectWay.T8 : Bool × List (List Nat × List Nat) := (true, [([], []), ([], []), ([], []), ([1, 2], [1, 2]), ([3], [3]), ([0, 4], [0, 4]), ([5], [5]), ([6], [6]), ([6], [6]), ([], []), ([9, 7, 5, 0, 1, 2, 3, 4, 5, 6, 7, 9], [7, 9]), ([8, 10, 0, 1, 2, 3, 4, 5, 6, 7, 8, 9, 10], [8])])
def garmentlaw54_InspectWay.B8 : List Nat := [0, 0, 0, 6, 14, 31, 63, 127, 127, 0, 767, 2047]
theorem garmentlaw54_InspectWay.tab8 : rtab .any (opsOf Try.f14 8) = garmentlaw54_InspectWay.T8 := by kernel_rfl
theorem garmentlaw54_InspectWay.bits8 : waitsOk garmentlaw54_InspectWay.T8.2 garmentlaw54_InspectWay.B8 = true := by kernel_rfl
set_option maxHeartbeats 8000000 in
set_option maxRecDepth 100000 in
theorem garmentlaw54_InspectWay.calls (k : Nat) (A0 : Option Addr) (c0 : Nat) (l0 : List Bool) (r : Bool) (w : World) (hr0 : Kd.C Kd.bool w A0 l0.length l0) (hc0 : l0.length ≤ c0) (h : garmentlaw54_InspectWay.f k l0 = some r) :
    Calls Try.prog 14 #[.slice A0 l0.length c0] w fun e w' => e = .returned (.bool r) ∧ Below w.heap.size w w' := by
  have hu33 := Try.underlying33
  have HR0 := Aside0.mk hr0
  have HC0 := Aside0.mk hc0
  clear hr0 hc0
  have HB := Aside0.mk (Below.refl w.heap.size w)
  have H : (if (l0.length : Int) > 300 then ((garmentlaw54_alive.f k).bind fun t344 => (some t344)) else ((inspect_Start.f).bind fun bt345 => (garmentlaw54_InspectWay.l0 k l0 0 0 bt345.1 bt345.2.1 bt345.2.2))) = some r := h
  clear h
  by_cases c2 : (l0.length : Int) > 300
  · rw [if_pos c2] at H
    have c2b0 : decide (300 < (l0.length : Int)) = true := decide_eq_true c2
    have c2b1 : decide (300 < l0.length) = true := decide_eq_true (by omega)
    clear c2
    replace H := Option.bind_eq_some_iff.mp H
    obtain ⟨t344, A30, H⟩ := H
    replace H : (some t344) = some r := H
    have A3 := Aside0.mk A30
    clear A30
    obtain rfl := Option.some.inj H
    go_enter Try.func14, Try.ntmps14
    go_wp2_with (first | ((with_reducible refine gate_callee (f := 24) rfl ?_); refine goesL_ (some 11) rfl rfl Try.func24 (by kernel_rfl) rfl #[] rfl (by (try simp only [List.map_toArray, List.map_cons, List.map_nil]); first | done | rfl | (simp only [List.length_drop, List.length_take]; rfl)) ?_; (with_reducible refine (garmentlaw54_alive.calls k  t344 _ A3.out).mono ?_); rintro e w4 ⟨rfl, hb⟩; refine ⟨_, rfl, ?_⟩; have n0_ := Aside0.mk (below_step (by repeat (first | (with_reducible first | exact HB.out | apply below_alloc | apply pw_below_drewN | apply below_drew1) | exact HB.out)) hb); clear HB; have HB := n0_; clear n0_; (try clear hb); (try clear hb2); (try clear hk); (try clear hi)))
    go_ret
    exact ⟨by first | rfl | (simp [errW_none, errW_some] <;> rfl) | (simp [*, errW_none, errW_some] <;> rfl), by repeat (first | (with_reducible first | exact HB.out | apply below_alloc | apply pw_below_drewN | apply below_drew1) | exact HB.out)⟩
  · rw [if_neg c2] at H
    have c2b0 : decide (300 < (l0.length : Int)) = false := decide_eq_false c2
    have c2b1 : decide (300 < l0.length) = false := decide_eq_false (by omega)
    clear c2
    replace H := Option.bind_eq_some_iff.mp H
    obtain ⟨⟨t345, t346, t347⟩, A50, H⟩ := H
    replace H : (garmentlaw54_InspectWay.l0 k l0 0 0 t345 t346 t347) = some r := H
    have A5 := Aside0.mk A50
    clear A50
    have H' := Aside0.mk H
    clear H
    go_enter Try.func14, Try.ntmps14
    go_wp2_with (first | ((with_reducible refine gate_callee (f := 26) rfl ?_); refine goesL_ (some 12) rfl rfl Try.func26 (by kernel_rfl) rfl #[] rfl (by (try simp only [List.map_toArray, List.map_cons, List.map_nil]); first | done | rfl | (simp only [List.length_drop, List.length_take]; rfl)) ?_; (with_reducible refine (inspect_Start.calls  t345 t346 t347 _ A5.out).mono ?_); rintro e w6 ⟨rfl, hb⟩; refine ⟨_, rfl, ?_⟩; have n0_ := Aside0.mk (below_step (by repeat (first | (with_reducible first | exact HB.out | apply below_alloc | apply pw_below_drewN | apply below_drew1) | exact HB.out)) hb); clear HB; have HB := n0_; clear n0_; (try clear hb); (try clear hb2); (try clear hk); (try clear hi)) | ((with_reducible refine gate_dst (N := 3) rfl ?_); refine box_event ?hg (N := 3) ?hd (cs := #[.int .i64 0, .int .i64 0, .int .i64 0]) (t := 33) ?hr ?_; (case hd => rfl); (case hg => rfl); (case hr => first | (go_simp; done) | (go_simp; rfl)); intro gb348 hg w7 hbox hb; have n0_ := Aside0.mk (below_step (by repeat (first | (with_reducible first | exact HB.out | apply below_alloc | apply pw_below_drewN | apply below_drew1) | exact HB.out)) hb); have n1_ := Aside0.mk (hbox); have n2_ := Aside0.mk ((by rw [hg]; exact (below_size (by repeat (first | (with_reducible first | exact HB.out | apply below_alloc | apply pw_below_drewN | apply below_drew1) | exact HB.out))) : w.heap.size ≤ gb348)); have n3_ := Aside0.mk ((by rw [hg]; exact (below_size (by repeat (first | (with_reducible first | exact HB.out | apply below_alloc | apply pw_below_drewN | apply below_drew1) | exact HB.out))) : w.heap.size ≤ gb348)); clear HB; have HB := n0_; have BK348 := n1_; have GW348 := n2_; have GE348 := n3_; clear n0_ n1_ n2_ n3_; clear hb hbox hg; have hcz8_0 : w7.cell? ⟨gb348, 0, none⟩ = some (.int .i64 0) := (blk_cell BK348.out 0).trans rfl; have hcz8_1 : w7.cell? ⟨gb348, 1, none⟩ = some (.int .i64 0) := (blk_cell BK348.out 1).trans rfl; have hcz8_2 : w7.cell? ⟨gb348, 2, none⟩ = some (.int .i64 0) := (blk_cell BK348.out 2).trans rfl; have hfz8_0 := blk_frozen BK348.out 0; have hfz8_1 := blk_frozen BK348.out 1; have hfz8_2 := blk_frozen BK348.out 2))
    go_loopg [4, 5] k (fun kq v4 v5 w' => ∃ (x4_1 : Int) (x5_1 : Int) (x349000_1 : Int) (x349001_1 : Int) (x349002_1 : Int), v4 = .int .i64 x4_1 ∧ v5 = .int .i64 x5_1 ∧ Aside0 (garmentlaw54_InspectWay.l0 kq l0 x4_1 x5_1 x349000_1 x349001_1 x349002_1 = some r) ∧ Aside0 (kq ≤ k) ∧ Aside0 (w'.heap[gb348]? = some (.cells #[.int .i64 x349000_1, .int .i64 x349001_1, .int .i64 x349002_1] 33 (0, 0))) ∧ Aside0 (Below w.heap.size w w'))
    case atStart => exact ⟨(0), (0), (t345), (t346), (t347), (by first | rfl | (simp; done) | (simp [*]; done)), (by first | rfl | (simp; done) | (simp [*]; done)), H', ⟨Nat.le_refl _⟩, ⟨by (with_reducible repeat (first | refine blk_drewN ?_ _ | refine blk_drew ?_ | refine blk_alloc ?_ _)); refine blk_put (cs := #[.int .i64 t345, .int .i64 t346, .int .i64 0]) ?_ 2 _ rfl; (with_reducible repeat (first | refine blk_drewN ?_ _ | refine blk_drew ?_ | refine blk_alloc ?_ _)); refine blk_put (cs := #[.int .i64 t345, .int .i64 0, .int .i64 0]) ?_ 1 _ rfl; (with_reducible repeat (first | refine blk_drewN ?_ _ | refine blk_drew ?_ | refine blk_alloc ?_ _)); refine blk_put (cs := #[.int .i64 0, .int .i64 0, .int .i64 0]) ?_ 0 _ rfl; (with_reducible repeat (first | refine blk_drewN ?_ _ | refine blk_drew ?_ | refine blk_alloc ?_ _)); exact BK348.out⟩, ⟨by repeat (first | (with_reducible first | exact HB.out | apply below_alloc | apply pw_below_drewN | apply below_drew1 | refine below_set ?_ GE348.out) | exact HB.out)⟩⟩
    case round =>
      clear H'
      try clear c1
      try clear c2
      try clear c2b0
      try clear c2b1
      try clear p2
      try clear hcz8_0
      try clear hcz8_1
      try clear hcz8_2
      try clear hfz8_0
      try clear hfz8_1
      try clear hfz8_2
      obtain ⟨x4_1, x5_1, x349000_1, x349001_1, x349002_1, rfl, rfl, HA, HK1, BK348, HB⟩ := hrel
      cases gk with
      | zero => exact absurd HA.out (by simp [garmentlaw54_InspectWay.l0])
      | succ k1 =>
        have H := HA.out
        clear HA
        simp only [garmentlaw54_InspectWay.l0] at H
        by_cases c9 : x5_1 < (l0.length : Int)
        · rw [if_pos c9] at H
          have c9b0 : decide (x5_1 < (l0.length : Int)) = true := decide_eq_true c9
          clear c9
          by_cases c10 : 0 ≤ x5_1
          · rw [if_pos c10] at H
            have c10b0 : decide (0 ≤ x5_1) = true := decide_eq_true c10
            clear c10
            replace H := Option.bind_eq_some_iff.mp H
            obtain ⟨⟨t350, t351, t352, t353⟩, A110, H⟩ := H
            replace H : (if x349000_1 = 4 then (if t353 = 8 then ((garmentlaw54_alive.f k1).bind fun t355 => (some t355)) else (none)) else (if t353 = 0 then (if x349000_1 = 3 then (if rdOf false l0 x5_1 = true then (garmentlaw54_InspectWay.j1 k1 l0 x4_1 x5_1 t350 t351 t352) else (garmentlaw54_InspectWay.j1 k1 l0 (wrap64 (x4_1 + 1)) x5_1 t350 t351 t352)) else (garmentlaw54_InspectWay.j1 k1 l0 0 x5_1 t350 t351 t352)) else (none))) = some r := H
            have A11 := Aside0.mk A110
            clear A110
            by_cases c12 : x349000_1 = 4
            · rw [if_pos c12] at H
              have c12b0 : (x349000_1 == 4) = true := beq_iff_eq.mpr c12
              have c12b1 : (x349000_1 != 4) = false := bne_eq_false_iff_eq.mpr c12
              clear c12
              by_cases c13 : t353 = 8
              · rw [if_pos c13] at H
                have c13b0 : (t353 == 8) = true := beq_iff_eq.mpr c13
                have c13b1 : (t353 != 8) = false := bne_eq_false_iff_eq.mpr c13
                clear c13
                replace H := Option.bind_eq_some_iff.mp H
                obtain ⟨t355, A140, H⟩ := H
                replace H : (some t355) = some r := H
                have A14 := Aside0.mk A140
                clear A140
                obtain rfl := Option.some.inj H
                try go_wp2
                have n0_ := Aside0.mk (blk_drew BK348.out)
                have n1_ := Aside0.mk (below_drew1 HB.out)
                clear BK348
                clear HB
                have BK348 := n0_
                have HB := n1_
                clear n0_ n1_
                have p349 : 0 ≤ (x5_1 : Int) := of_decide_eq_true (by first | (with_reducible assumption) | assumption)
                have q349 : x5_1 < (l0.length : Int) := of_decide_eq_true (by first | (with_reducible assumption) | assumption)
                obtain ⟨ad349, e349, hx349_0⟩ := Kd.at_bool HR0.out x5_1 p349 q349
                have hw349_0 := hx349_0
                cases e349
                replace hx349_0 := (HB.out.cell (World.block_lt_of_cell? w _ hx349_0)).trans hx349_0
                replace p349 := eq_true p349
                replace q349 := eq_true q349
                refine start_ (n := 12) (S := fun w' => w'.cell? ⟨gb348, 0, none⟩ = some (.int .i64 x349000_1) ∧ w'.cell? ⟨gb348, 1, none⟩ = some (.int .i64 x349001_1) ∧ w'.cell? ⟨gb348, 2, none⟩ = some (.int .i64 x349002_1) ∧ w'.cell? (ad349.add (x5_1).toNat) = some (.bool (rdOf false l0 x5_1))) (ds := []) #[false, false, false, false, false, false, false, false, false, false, false, false] (by kernel_rfl) rfl rfl ⟨(blk_cell BK348.out 0).trans rfl, (blk_cell BK348.out 1).trans rfl, (blk_cell BK348.out 2).trans rfl, ((HB.out.cell (World.block_lt_of_cell? w _ hw349_0)).trans hw349_0)⟩ (fun hHeld => ?_); refine with_tabW garmentlaw54_InspectWay.tab8 garmentlaw54_InspectWay.bits8 (fun HT_ HW_ => ?_)
                generalize wr.drew = w15 at BK348 HB hx349_0 hHeld ⊢
                refine pure_ (i := 1) (N := some 21) (v := ?_) (a' := ?_) #[false, true, false, false, false, false, false, false, false, false, false, false] rfl rfl (any_of HT_.out (by kernel_rfl)) (fun _ _ _ h => h) (Or.inl ⟨by rfl, ?_⟩) ?_ ?_
                rotate_left
                · intro w'
                  go_simp
                  with_reducible rfl
                rotate_left
                · simp only [Act.put, List.setIfInBounds_toArray, List.set_cons_zero, List.set_cons_succ, i64_w, i32_w]
                  rfl
                refine pure_ (i := 2) (N := some 22) (v := ?_) (a' := ?_) #[false, true, true, false, false, false, false, false, false, false, false, false] rfl rfl (any_of HT_.out (by kernel_rfl)) (fun _ _ _ h => h) (Or.inl ⟨by rfl, ?_⟩) ?_ ?_
                rotate_left
                · intro w'
                  go_simp
                  with_reducible rfl
                rotate_left
                · simp only [Act.put, List.setIfInBounds_toArray, List.set_cons_zero, List.set_cons_succ, i64_w, i32_w]
                  rfl
                refine pure_ (i := 3) (N := some 23) (v := ?_) (a' := ?_) #[false, true, true, true, false, false, false, false, false, false, false, false] rfl rfl (any_of HT_.out (by kernel_rfl)) (fun _ _ _ h => h) (Or.inl ⟨by rfl, ?_⟩) ?_ ?_
                rotate_left
                · intro w'
                  go_simp
                  with_reducible rfl
                rotate_left
                · simp only [Act.put, List.setIfInBounds_toArray, List.set_cons_zero, List.set_cons_succ, i64_w, i32_w]
                  rfl
                refine take_ (i := 0) (N := some 20) (v := ?_) (a' := ?_) #[true, true, true, true, false, false, false, false, false, false, false, false] rfl rfl (take_ofW HT_.out HW_.out (by kernel_rfl)) (fun _ _ _ h => h) (Or.inl ⟨by rfl, ?_⟩) hHeld ?_ ?_
                rotate_left
                · rintro w' ⟨s0, s1, s2, s3⟩
                  go_simp
                  with_reducible rfl
                rotate_left
                · simp only [Act.put, List.setIfInBounds_toArray, List.set_cons_zero, List.set_cons_succ, i64_w, i32_w]
                  rfl
                refine take_ (i := 4) (N := some 24) (v := ?_) (a' := ?_) #[true, true, true, true, true, false, false, false, false, false, false, false] rfl rfl (take_ofW HT_.out HW_.out (by kernel_rfl)) (fun _ _ _ h => h) (Or.inl ⟨by rfl, ?_⟩) hHeld ?_ ?_
                rotate_left
                · rintro w' ⟨s0, s1, s2, s3⟩
                  go_simp
                  with_reducible rfl
                rotate_left
                · simp only [Act.put, List.setIfInBounds_toArray, List.set_cons_zero, List.set_cons_succ, i64_w, i32_w]
                  rfl
                refine join_ (σ := Nat) 2 #[true, true, true, true, true, true, true, true, true, true, false, false] (fun s_ => [(25, .tuple #[.agg #[.int .i64 t350, .int .i64 t351, .int .i64 t352], .int .i64 t353]), (6, .pointer (some ⟨s_, 0, none⟩)), (19, .tuple #[.agg #[.int .i64 t350, .int .i64 t351, .int .i64 t352], .int .i64 t353]), (26, .agg #[.int .i64 t350, .int .i64 t351, .int .i64 t352]), (27, .int .i64 t353)]) (fun s_ w' => (w'.cell? ⟨gb348, 0, none⟩ = some (.int .i64 x349000_1) ∧ w'.cell? ⟨gb348, 1, none⟩ = some (.int .i64 x349001_1) ∧ w'.cell? ⟨gb348, 2, none⟩ = some (.int .i64 x349002_1) ∧ w'.cell? (ad349.add (x5_1).toNat) = some (.bool (rdOf false l0 x5_1))) ∧ (w'.heap[gb348]? = some (.cells #[.int .i64 x349000_1, .int .i64 x349001_1, .int .i64 x349002_1] 33 (0, 0))) ∧ (w'.heap[s_]? = some (.cells #[.int .i64 0, .int .i64 0, .int .i64 0] 33 (0, 0))) ∧ (w.heap.size ≤ s_) ∧ (w.heap.size ≤ s_) ∧ (gb348 ≠ s_) ∧ (s_ ≠ gb348) ∧ (Below w.heap.size w w')) ?_ ?_
                rotate_left
                · intro hCont
                  refine two_ (i := 5) (j := 9) (Ni := some 25) (Nj := some 6) #[true, true, true, true, true, true, false, false, false, false, false, false] #[true, true, true, true, true, false, false, false, false, true, false, false] rfl rfl rfl rfl (two_of HT_.out (by kernel_rfl)) (by decide) (by decide) (fun K hK => ?_) (fun K hK => ?_)
                  · skip
                    refine goes_ Try.func28 (by kernel_rfl) rfl #[.agg #[.int .i64 x349000_1, .int .i64 x349001_1, .int .i64 x349002_1], .bool (rdOf false l0 x5_1)] (by rfl) rfl rfl (by (try simp only [List.map_toArray, List.map_cons, List.map_nil]); first | done | rfl | (simp only [List.length_drop, List.length_take]; rfl)) ?_
                    with_reducible refine (inspect_Switch.calls k1 x349000_1 x349001_1 x349002_1 (rdOf false l0 x5_1) t350 t351 t352 t353 _ A11.out).mono ?_
                    rintro e w16 ⟨rfl, hb⟩
                    refine ⟨_, rfl, ?_⟩
                    have n0_ := Aside0.mk (blk_below (g := gb348) (o := .cells #[.int .i64 x349000_1, .int .i64 x349001_1, .int .i64 x349002_1] 33 (0, 0)) (by (with_reducible repeat (first | refine blk_drewN ?_ _ | refine blk_drew ?_ | refine blk_alloc ?_ _)); exact BK348.out) hb)
                    have n1_ := Aside0.mk (below_step (by repeat (first | (with_reducible first | exact HB.out | apply below_alloc | apply pw_below_drewN | apply below_drew1 | refine below_set ?_ GE348.out) | exact HB.out)) hb)
                    clear BK348
                    clear HB
                    have BK348 := n0_
                    have HB := n1_
                    clear n0_ n1_
                    (try clear hb)
                    (try clear hb2)
                    (try clear hk)
                    (try clear hi)
                    refine hK.out _ _ ⟨(blk_cell BK348.out 0).trans rfl, (blk_cell BK348.out 1).trans rfl, (blk_cell BK348.out 2).trans rfl, ((HB.out.cell (World.block_lt_of_cell? w _ hw349_0)).trans hw349_0)⟩ (fun hHeld => ?_)
                    clear hK K
                    refine norm_ (a' := ?_) ?_ ?_
                    rotate_left
                    · show Act.put _ (some 25) _ = _
                      simp only [Act.put, List.setIfInBounds_toArray, List.set_cons_zero, List.set_cons_succ, i64_w, i32_w]
                      rfl
                    refine pure_ (i := 6) (N := some 19) (v := ?_) (a' := ?_) #[true, true, true, true, true, true, true, false, false, false, false, false] rfl rfl (any_of HT_.out (by kernel_rfl)) (fun _ _ _ h => h) (Or.inl ⟨by rfl, ?_⟩) ?_ ?_
                    rotate_left
                    · intro w'
                      go_simp
                      with_reducible rfl
                    rotate_left
                    · simp only [Act.put, List.setIfInBounds_toArray, List.set_cons_zero, List.set_cons_succ, i64_w, i32_w]
                      rfl
                    refine pure_ (i := 7) (N := some 26) (v := ?_) (a' := ?_) #[true, true, true, true, true, true, true, true, false, false, false, false] rfl rfl (any_of HT_.out (by kernel_rfl)) (fun _ _ _ h => h) (Or.inl ⟨by rfl, ?_⟩) ?_ ?_
                    rotate_left
                    · intro w'
                      go_simp
                      with_reducible rfl
                    rotate_left
                    · simp only [Act.put, List.setIfInBounds_toArray, List.set_cons_zero, List.set_cons_succ, i64_w, i32_w]
                      rfl
                    refine pure_ (i := 8) (N := some 27) (v := ?_) (a' := ?_) #[true, true, true, true, true, true, true, true, true, false, false, false] rfl rfl (any_of HT_.out (by kernel_rfl)) (fun _ _ _ h => h) (Or.inl ⟨by rfl, ?_⟩) ?_ ?_
                    rotate_left
                    · intro w'
                      go_simp
                      with_reducible rfl
                    rotate_left
                    · simp only [Act.put, List.setIfInBounds_toArray, List.set_cons_zero, List.set_cons_succ, i64_w, i32_w]
                      rfl
                    refine one_ (i := 9) (N := some 6) #[true, true, true, true, true, true, true, true, true, true, false, false] rfl rfl (one_of HT_.out (by kernel_rfl)) (by decide) (fun K hK => ?_)
                    refine box_step ?hg (N := 6) ?hd (cs := #[.int .i64 0, .int .i64 0, .int .i64 0]) (t := 33) ?hr ?_; (case hd => rfl); (case hg => rfl); (case hr => first | (go_simp; done) | (go_simp; rfl))
                    intro gb354 hg w17 hbox hb
                    have n0_ := Aside0.mk (blk_below (g := gb348) (o := .cells #[.int .i64 x349000_1, .int .i64 x349001_1, .int .i64 x349002_1] 33 (0, 0)) (by (with_reducible repeat (first | refine blk_drewN ?_ _ | refine blk_drew ?_ | refine blk_alloc ?_ _)); exact BK348.out) hb)
                    have n1_ := Aside0.mk (below_step (by repeat (first | (with_reducible first | exact HB.out | apply below_alloc | apply pw_below_drewN | apply below_drew1 | refine below_set ?_ GE348.out) | exact HB.out)) hb)
                    have n2_ := Aside0.mk (hbox)
                    have n3_ := Aside0.mk ((by rw [hg]; exact (below_size (by repeat (first | (with_reducible first | exact HB.out | apply below_alloc | apply pw_below_drewN | apply below_drew1 | refine below_set ?_ GE348.out) | exact HB.out))) : w.heap.size ≤ gb354))
                    have n4_ := Aside0.mk ((by rw [hg]; exact (below_size (by repeat (first | (with_reducible first | exact HB.out | apply below_alloc | apply pw_below_drewN | apply below_drew1 | refine below_set ?_ GE348.out) | exact HB.out))) : w.heap.size ≤ gb354))
                    have n5_ := Aside0.mk ((by rw [hg]; exact Nat.ne_of_lt (blk_lt (g := gb348) (o := .cells #[.int .i64 x349000_1, .int .i64 x349001_1, .int .i64 x349002_1] 33 (0, 0)) (by (with_reducible repeat (first | refine blk_drewN ?_ _ | refine blk_drew ?_ | refine blk_alloc ?_ _)); exact BK348.out)) : gb348 ≠ gb354))
                    have n6_ := Aside0.mk ((by rw [hg]; exact Nat.ne_of_gt (blk_lt (g := gb348) (o := .cells #[.int .i64 x349000_1, .int .i64 x349001_1, .int .i64 x349002_1] 33 (0, 0)) (by (with_reducible repeat (first | refine blk_drewN ?_ _ | refine blk_drew ?_ | refine blk_alloc ?_ _)); exact BK348.out)) : gb354 ≠ gb348))
                    clear BK348
                    clear HB
                    have BK348 := n0_
                    have HB := n1_
                    have BK354 := n2_
                    have GW354 := n3_
                    have GE354 := n4_
                    have NB348_354 := n5_
                    have NB354_348 := n6_
                    clear n0_ n1_ n2_ n3_ n4_ n5_ n6_
                    clear hb hbox hg
                    refine hK.out _ _ ⟨(blk_cell BK348.out 0).trans rfl, (blk_cell BK348.out 1).trans rfl, (blk_cell BK348.out 2).trans rfl, ((HB.out.cell (World.block_lt_of_cell? w _ hw349_0)).trans hw349_0)⟩ (fun hHeld => ?_)
                    clear hK K
                    refine norm_ (a' := ?_) ?_ ?_
                    rotate_left
                    · show Act.put _ (some 6) _ = _
                      simp only [Act.put, List.setIfInBounds_toArray, List.set_cons_zero, List.set_cons_succ, i64_w, i32_w]
                      rfl
                    exact norm_ (by simp only [putAll, Act.put, List.setIfInBounds_toArray, List.set_cons_zero, List.set_cons_succ]) (hCont (gb354) _ ⟨hHeld, (by (with_reducible repeat (first | refine blk_drewN ?_ _ | refine blk_drew ?_ | refine blk_alloc ?_ _)); exact BK348.out), (by (with_reducible repeat (first | refine blk_drewN ?_ _ | refine blk_drew ?_ | refine blk_alloc ?_ _)); exact BK354.out), GW354.out, GE354.out, NB348_354.out, NB354_348.out, (by repeat (first | (with_reducible first | exact HB.out | apply below_alloc | apply pw_below_drewN | apply below_drew1 | refine below_set ?_ GE348.out | refine below_set ?_ GE354.out) | exact HB.out))⟩)
                  · skip
                    refine box_step ?hg (N := 6) ?hd (cs := #[.int .i64 0, .int .i64 0, .int .i64 0]) (t := 33) ?hr ?_; (case hd => rfl); (case hg => rfl); (case hr => first | (go_simp; done) | (go_simp; rfl))
                    intro gb354 hg w16 hbox hb
                    have n0_ := Aside0.mk (blk_below (g := gb348) (o := .cells #[.int .i64 x349000_1, .int .i64 x349001_1, .int .i64 x349002_1] 33 (0, 0)) (by (with_reducible repeat (first | refine blk_drewN ?_ _ | refine blk_drew ?_ | refine blk_alloc ?_ _)); exact BK348.out) hb)
                    have n1_ := Aside0.mk (below_step (by repeat (first | (with_reducible first | exact HB.out | apply below_alloc | apply pw_below_drewN | apply below_drew1 | refine below_set ?_ GE348.out) | exact HB.out)) hb)
                    have n2_ := Aside0.mk (hbox)
                    have n3_ := Aside0.mk ((by rw [hg]; exact (below_size (by repeat (first | (with_reducible first | exact HB.out | apply below_alloc | apply pw_below_drewN | apply below_drew1 | refine below_set ?_ GE348.out) | exact HB.out))) : w.heap.size ≤ gb354))
                    have n4_ := Aside0.mk ((by rw [hg]; exact (below_size (by repeat (first | (with_reducible first | exact HB.out | apply below_alloc | apply pw_below_drewN | apply below_drew1 | refine below_set ?_ GE348.out) | exact HB.out))) : w.heap.size ≤ gb354))
                    have n5_ := Aside0.mk ((by rw [hg]; exact Nat.ne_of_lt (blk_lt (g := gb348) (o := .cells #[.int .i64 x349000_1, .int .i64 x349001_1, .int .i64 x349002_1] 33 (0, 0)) (by (with_reducible repeat (first | refine blk_drewN ?_ _ | refine blk_drew ?_ | refine blk_alloc ?_ _)); exact BK348.out)) : gb348 ≠ gb354))
                    have n6_ := Aside0.mk ((by rw [hg]; exact Nat.ne_of_gt (blk_lt (g := gb348) (o := .cells #[.int .i64 x349000_1, .int .i64 x349001_1, .int .i64 x349002_1] 33 (0, 0)) (by (with_reducible repeat (first | refine blk_drewN ?_ _ | refine blk_drew ?_ | refine blk_alloc ?_ _)); exact BK348.out)) : gb354 ≠ gb348))
                    clear BK348
                    clear HB
                    have BK348 := n0_
                    have HB := n1_
                    have BK354 := n2_
                    have GW354 := n3_
                    have GE354 := n4_
                    have NB348_354 := n5_
                    have NB354_348 := n6_
                    clear n0_ n1_ n2_ n3_ n4_ n5_ n6_
                    clear hb hbox hg
                    refine hK.out _ _ ⟨(blk_cell BK348.out 0).trans rfl, (blk_cell BK348.out 1).trans rfl, (blk_cell BK348.out 2).trans rfl, ((HB.out.cell (World.block_lt_of_cell? w _ hw349_0)).trans hw349_0)⟩ (fun hHeld => ?_)
                    clear hK K
                    refine norm_ (a' := ?_) ?_ ?_
                    rotate_left
                    · show Act.put _ (some 6) _ = _
                      simp only [Act.put, List.setIfInBounds_toArray, List.set_cons_zero, List.set_cons_succ, i64_w, i32_w]
                      rfl
                    refine one_ (i := 5) (N := some 25) #[true, true, true, true, true, true, false, false, false, true, false, false] rfl rfl (one_of HT_.out (by kernel_rfl)) (by decide) (fun K hK => ?_)
                    refine goes_ Try.func28 (by kernel_rfl) rfl #[.agg #[.int .i64 x349000_1, .int .i64 x349001_1, .int .i64 x349002_1], .bool (rdOf false l0 x5_1)] (by rfl) rfl rfl (by (try simp only [List.map_toArray, List.map_cons, List.map_nil]); first | done | rfl | (simp only [List.length_drop, List.length_take]; rfl)) ?_
                    with_reducible refine (inspect_Switch.calls k1 x349000_1 x349001_1 x349002_1 (rdOf false l0 x5_1) t350 t351 t352 t353 _ A11.out).mono ?_
                    rintro e w17 ⟨rfl, hb⟩
                    refine ⟨_, rfl, ?_⟩
                    have n0_ := Aside0.mk (blk_below (g := gb348) (o := .cells #[.int .i64 x349000_1, .int .i64 x349001_1, .int .i64 x349002_1] 33 (0, 0)) (by (with_reducible repeat (first | refine blk_drewN ?_ _ | refine blk_drew ?_ | refine blk_alloc ?_ _)); exact BK348.out) hb)
                    have n1_ := Aside0.mk (blk_below (g := gb354) (o := .cells #[.int .i64 0, .int .i64 0, .int .i64 0] 33 (0, 0)) (by (with_reducible repeat (first | refine blk_drewN ?_ _ | refine blk_drew ?_ | refine blk_alloc ?_ _)); exact BK354.out) hb)
                    have n2_ := Aside0.mk (below_step (by repeat (first | (with_reducible first | exact HB.out | apply below_alloc | apply pw_below_drewN | apply below_drew1 | refine below_set ?_ GE348.out | refine below_set ?_ GE354.out) | exact HB.out)) hb)
                    clear BK348
                    clear BK354
                    clear HB
                    have BK348 := n0_
                    have BK354 := n1_
                    have HB := n2_
                    clear n0_ n1_ n2_
                    (try clear hb)
                    (try clear hb2)
                    (try clear hk)
                    (try clear hi)
                    refine hK.out _ _ ⟨(blk_cell BK348.out 0).trans rfl, (blk_cell BK348.out 1).trans rfl, (blk_cell BK348.out 2).trans rfl, ((HB.out.cell (World.block_lt_of_cell? w _ hw349_0)).trans hw349_0)⟩ (fun hHeld => ?_)
                    clear hK K
                    refine norm_ (a' := ?_) ?_ ?_
                    rotate_left
                    · show Act.put _ (some 25) _ = _
                      simp only [Act.put, List.setIfInBounds_toArray, List.set_cons_zero, List.set_cons_succ, i64_w, i32_w]
                      rfl
                    refine pure_ (i := 6) (N := some 19) (v := ?_) (a' := ?_) #[true, true, true, true, true, true, true, false, false, true, false, false] rfl rfl (any_of HT_.out (by kernel_rfl)) (fun _ _ _ h => h) (Or.inl ⟨by rfl, ?_⟩) ?_ ?_
                    rotate_left
                    · intro w'
                      go_simp
                      with_reducible rfl
                    rotate_left
                    · simp only [Act.put, List.setIfInBounds_toArray, List.set_cons_zero, List.set_cons_succ, i64_w, i32_w]
                      rfl
                    refine pure_ (i := 7) (N := some 26) (v := ?_) (a' := ?_) #[true, true, true, true, true, true, true, true, false, true, false, false] rfl rfl (any_of HT_.out (by kernel_rfl)) (fun _ _ _ h => h) (Or.inl ⟨by rfl, ?_⟩) ?_ ?_
                    rotate_left
                    · intro w'
                      go_simp
                      with_reducible rfl
                    rotate_left
                    · simp only [Act.put, List.setIfInBounds_toArray, List.set_cons_zero, List.set_cons_succ, i64_w, i32_w]
                      rfl
                    refine pure_ (i := 8) (N := some 27) (v := ?_) (a' := ?_) #[true, true, true, true, true, true, true, true, true, true, false, false] rfl rfl (any_of HT_.out (by kernel_rfl)) (fun _ _ _ h => h) (Or.inl ⟨by rfl, ?_⟩) ?_ ?_
                    rotate_left
                    · intro w'
                      go_simp
                      with_reducible rfl
                    rotate_left
                    · simp only [Act.put, List.setIfInBounds_toArray, List.set_cons_zero, List.set_cons_succ, i64_w, i32_w]
                      rfl
                    exact norm_ (by simp only [putAll, Act.put, List.setIfInBounds_toArray, List.set_cons_zero, List.set_cons_succ]) (hCont (gb354) _ ⟨hHeld, (by (with_reducible repeat (first | refine blk_drewN ?_ _ | refine blk_drew ?_ | refine blk_alloc ?_ _)); exact BK348.out), (by (with_reducible repeat (first | refine blk_drewN ?_ _ | refine blk_drew ?_ | refine blk_alloc ?_ _)); exact BK354.out), GW354.out, GE354.out, NB348_354.out, NB354_348.out, (by repeat (first | (with_reducible first | exact HB.out | apply below_alloc | apply pw_below_drewN | apply below_drew1 | refine below_set ?_ GE348.out | refine below_set ?_ GE354.out) | exact HB.out))⟩)
                rintro gb354 w18 ⟨hS_, h0_, h1_, h2_, h3_, h4_, h5_, h6_⟩
                have n0_ : Aside0 (w18.heap[gb348]? = some (.cells #[.int .i64 x349000_1, .int .i64 x349001_1, .int .i64 x349002_1] 33 (0, 0))) := ⟨h0_⟩
                have n1_ : Aside0 (w18.heap[gb354]? = some (.cells #[.int .i64 0, .int .i64 0, .int .i64 0] 33 (0, 0))) := ⟨h1_⟩
                have n2_ : Aside0 (w.heap.size ≤ gb354) := ⟨h2_⟩
                have n3_ : Aside0 (w.heap.size ≤ gb354) := ⟨h3_⟩
                have n4_ : Aside0 (gb348 ≠ gb354) := ⟨h4_⟩
                have n5_ : Aside0 (gb354 ≠ gb348) := ⟨h5_⟩
                have n6_ : Aside0 (Below w.heap.size w w18) := ⟨h6_⟩
                clear BK348
                clear HB
                clear h0_ h1_ h2_ h3_ h4_ h5_ h6_
                have BK348 := n0_
                have BK354 := n1_
                have GW354 := n2_
                have GE354 := n3_
                have NB348_354 := n4_
                have NB354_348 := n5_
                have HB := n6_
                clear n0_ n1_ n2_ n3_ n4_ n5_ n6_
                have hHeld : w18.cell? ⟨gb348, 0, none⟩ = some (.int .i64 x349000_1) ∧ w18.cell? ⟨gb348, 1, none⟩ = some (.int .i64 x349001_1) ∧ w18.cell? ⟨gb348, 2, none⟩ = some (.int .i64 x349002_1) ∧ w18.cell? (ad349.add (x5_1).toNat) = some (.bool (rdOf false l0 x5_1)) := hS_
                refine norm_ (a' := ?_) ?_ ?_
                rotate_left
                · simp only [putAll, Act.put, List.setIfInBounds_toArray, List.set_cons_zero, List.set_cons_succ]
                  rfl
                refine one_ (i := 10) (N := none) #[true, true, true, true, true, true, true, true, true, true, true, false] rfl rfl (one_of HT_.out (by kernel_rfl)) (by decide) (fun K hK => ?_)
                have hs19 : w18.cell? ⟨gb354, 0, none⟩ = some (.int .i64 0) := (blk_cell BK354.out 0).trans rfl
                have hfs19 := blk_frozen BK354.out 0
                have hns19_0 := NB348_354.out
                have hms19_0 := NB354_348.out
                have hs20 : w18.cell? ⟨gb354, 1, none⟩ = some (.int .i64 0) := (blk_cell BK354.out 1).trans rfl
                have hfs20 := blk_frozen BK354.out 1
                have hns20_0 := NB348_354.out
                have hms20_0 := NB354_348.out
                have hs21 : w18.cell? ⟨gb354, 2, none⟩ = some (.int .i64 0) := (blk_cell BK354.out 2).trans rfl
                have hfs21 := blk_frozen BK354.out 2
                have hns21_0 := NB348_354.out
                have hms21_0 := NB354_348.out
                refine skip_ (w1 := ?_) (by rfl) rfl ?_ ?_
                rotate_left
                · go_simp
                  rfl
                refine hK.out _ _ ⟨((cell_far (p := ⟨gb354, _, none⟩) NB348_354.out _).trans (((cell_far (p := ⟨gb354, _, none⟩) NB348_354.out _).trans (((cell_far (p := ⟨gb354, _, none⟩) NB348_354.out _).trans (hHeld.1)))))), ((cell_far (p := ⟨gb354, _, none⟩) NB348_354.out _).trans (((cell_far (p := ⟨gb354, _, none⟩) NB348_354.out _).trans (((cell_far (p := ⟨gb354, _, none⟩) NB348_354.out _).trans (hHeld.2.1)))))), ((cell_far (p := ⟨gb354, _, none⟩) NB348_354.out _).trans (((cell_far (p := ⟨gb354, _, none⟩) NB348_354.out _).trans (((cell_far (p := ⟨gb354, _, none⟩) NB348_354.out _).trans (hHeld.2.2.1)))))), ((cell_far (p := ⟨gb354, _, none⟩) (by first | exact Nat.ne_of_lt (Nat.lt_of_lt_of_le (by have := World.block_lt_of_cell? _ _ hw349_0; first | rwa [add_block] at this | exact this) GW354.out) | (rw [add_block]; exact Nat.ne_of_lt (Nat.lt_of_lt_of_le (by have := World.block_lt_of_cell? _ _ hw349_0; first | rwa [add_block] at this | exact this) GW354.out)) | (show (Addr.add _ _).block ≠ _; rw [add_block]; exact Nat.ne_of_lt (Nat.lt_of_lt_of_le (by have := World.block_lt_of_cell? _ _ hw349_0; first | rwa [add_block] at this | exact this) GW354.out)) | (dsimp only; exact Nat.ne_of_lt (Nat.lt_of_lt_of_le (by have := World.block_lt_of_cell? _ _ hw349_0; first | rwa [add_block] at this | exact this) GW354.out))) _).trans (((cell_far (p := ⟨gb354, _, none⟩) (by first | exact Nat.ne_of_lt (Nat.lt_of_lt_of_le (by have := World.block_lt_of_cell? _ _ hw349_0; first | rwa [add_block] at this | exact this) GW354.out) | (rw [add_block]; exact Nat.ne_of_lt (Nat.lt_of_lt_of_le (by have := World.block_lt_of_cell? _ _ hw349_0; first | rwa [add_block] at this | exact this) GW354.out)) | (show (Addr.add _ _).block ≠ _; rw [add_block]; exact Nat.ne_of_lt (Nat.lt_of_lt_of_le (by have := World.block_lt_of_cell? _ _ hw349_0; first | rwa [add_block] at this | exact this) GW354.out)) | (dsimp only; exact Nat.ne_of_lt (Nat.lt_of_lt_of_le (by have := World.block_lt_of_cell? _ _ hw349_0; first | rwa [add_block] at this | exact this) GW354.out))) _).trans (((cell_far (p := ⟨gb354, _, none⟩) (by first | exact Nat.ne_of_lt (Nat.lt_of_lt_of_le (by have := World.block_lt_of_cell? _ _ hw349_0; first | rwa [add_block] at this | exact this) GW354.out) | (rw [add_block]; exact Nat.ne_of_lt (Nat.lt_of_lt_of_le (by have := World.block_lt_of_cell? _ _ hw349_0; first | rwa [add_block] at this | exact this) GW354.out)) | (show (Addr.add _ _).block ≠ _; rw [add_block]; exact Nat.ne_of_lt (Nat.lt_of_lt_of_le (by have := World.block_lt_of_cell? _ _ hw349_0; first | rwa [add_block] at this | exact this) GW354.out)) | (dsimp only; exact Nat.ne_of_lt (Nat.lt_of_lt_of_le (by have := World.block_lt_of_cell? _ _ hw349_0; first | rwa [add_block] at this | exact this) GW354.out))) _).trans (hHeld.2.2.2))))))⟩ (fun hHeld => ?_)
                clear hK K
                refine pure_ (i := 11) (N := some 7) (v := ?_) (a' := ?_) #[true, true, true, true, true, true, true, true, true, true, true, true] rfl rfl (any_of HT_.out (by kernel_rfl)) (fun _ _ _ h => h) (Or.inl ⟨by rfl, ?_⟩) ?_ ?_
                rotate_left
                · intro w'
                  go_simp
                  with_reducible rfl
                rotate_left
                · simp only [Act.put, List.setIfInBounds_toArray, List.set_cons_zero, List.set_cons_succ, i64_w, i32_w]
                  rfl
                refine done_ (done_of HT_.out (by kernel_rfl)) ?_
                have hnb22 := NB348_354.out
                have hnc22 := NB354_348.out
                have hcz23_0 : w18.cell? ⟨gb348, 0, none⟩ = some (.int .i64 x349000_1) := (blk_cell BK348.out 0).trans rfl
                have hcz23_1 : w18.cell? ⟨gb348, 1, none⟩ = some (.int .i64 x349001_1) := (blk_cell BK348.out 1).trans rfl
                have hcz23_2 : w18.cell? ⟨gb348, 2, none⟩ = some (.int .i64 x349002_1) := (blk_cell BK348.out 2).trans rfl
                have hfz23_0 := blk_frozen BK348.out 0
                have hfz23_1 := blk_frozen BK348.out 1
                have hfz23_2 := blk_frozen BK348.out 2
                try go_wp2_with (first | (go_at_call 24; (with_reducible refine (garmentlaw54_alive.calls k1  t355 _ A14.out).mono ?_); rintro e w24 ⟨rfl, hb⟩; have n0_ := Aside0.mk (blk_below (g := gb348) (o := .cells #[.int .i64 x349000_1, .int .i64 x349001_1, .int .i64 x349002_1] 33 (0, 0)) (by (with_reducible repeat (first | refine blk_drewN ?_ _ | refine blk_drew ?_ | refine blk_alloc ?_ _)); refine blk_far ?_ NB348_354.out _; (with_reducible repeat (first | refine blk_drewN ?_ _ | refine blk_drew ?_ | refine blk_alloc ?_ _)); refine blk_far ?_ NB348_354.out _; (with_reducible repeat (first | refine blk_drewN ?_ _ | refine blk_drew ?_ | refine blk_alloc ?_ _)); refine blk_far ?_ NB348_354.out _; (with_reducible repeat (first | refine blk_drewN ?_ _ | refine blk_drew ?_ | refine blk_alloc ?_ _)); exact BK348.out) hb); have n1_ := Aside0.mk (blk_below (g := gb354) (o := .cells #[.int .i64 t350, .int .i64 t351, .int .i64 t352] 33 (0, 0)) (by (with_reducible repeat (first | refine blk_drewN ?_ _ | refine blk_drew ?_ | refine blk_alloc ?_ _)); refine blk_put (cs := #[.int .i64 t350, .int .i64 t351, .int .i64 0]) ?_ 2 _ rfl; (with_reducible repeat (first | refine blk_drewN ?_ _ | refine blk_drew ?_ | refine blk_alloc ?_ _)); refine blk_put (cs := #[.int .i64 t350, .int .i64 0, .int .i64 0]) ?_ 1 _ rfl; (with_reducible repeat (first | refine blk_drewN ?_ _ | refine blk_drew ?_ | refine blk_alloc ?_ _)); refine blk_put (cs := #[.int .i64 0, .int .i64 0, .int .i64 0]) ?_ 0 _ rfl; (with_reducible repeat (first | refine blk_drewN ?_ _ | refine blk_drew ?_ | refine blk_alloc ?_ _)); exact BK354.out) hb); have n2_ := Aside0.mk (below_step (by repeat (first | (with_reducible first | exact HB.out | apply below_alloc | apply pw_below_drewN | apply below_drew1 | refine below_set ?_ GE348.out | refine below_set ?_ GE354.out) | exact HB.out)) hb); clear BK348; clear BK354; clear HB; have BK348 := n0_; have BK354 := n1_; have HB := n2_; clear n0_ n1_ n2_; (try clear hb); (try clear hb2); (try clear hk); (try clear hi)))
                go_ret
                exact ⟨by first | rfl | (simp [errW_none, errW_some] <;> rfl) | (simp [*, errW_none, errW_some] <;> rfl), by repeat (first | (with_reducible first | exact HB.out | apply below_alloc | apply pw_below_drewN | apply below_drew1 | refine below_set ?_ GE348.out | refine below_set ?_ GE354.out) | exact HB.out)⟩
              · rw [if_neg c13] at H
                exact absurd H (by simp)
            · rw [if_neg c12] at H
              have c12b0 : (x349000_1 == 4) = false := beq_eq_false_iff_ne.mpr c12
              have c12b1 : (x349000_1 != 4) = true := bne_iff_ne.mpr c12
              by_cases c25 : t353 = 0
              · rw [if_pos c25] at H
                have c25b0 : (t353 == 0) = true := beq_iff_eq.mpr c25
                have c25b1 : (t353 != 0) = false := bne_eq_false_iff_eq.mpr c25
                clear c25
                have HC26 := Aside0.mk H
                clear H
                try go_wp2
                have n0_ := Aside0.mk (blk_drew BK348.out)
                have n1_ := Aside0.mk (below_drew1 HB.out)
                clear BK348
                clear HB
                have BK348 := n0_
                have HB := n1_
                clear n0_ n1_
                have p349 : 0 ≤ (x5_1 : Int) := of_decide_eq_true (by first | (with_reducible assumption) | assumption)
                have q349 : x5_1 < (l0.length : Int) := of_decide_eq_true (by first | (with_reducible assumption) | assumption)
                obtain ⟨ad349, e349, hx349_0⟩ := Kd.at_bool HR0.out x5_1 p349 q349
                have hw349_0 := hx349_0
                cases e349
                replace hx349_0 := (HB.out.cell (World.block_lt_of_cell? w _ hx349_0)).trans hx349_0
                replace p349 := eq_true p349
                replace q349 := eq_true q349
                refine start_ (n := 12) (S := fun w' => w'.cell? ⟨gb348, 0, none⟩ = some (.int .i64 x349000_1) ∧ w'.cell? ⟨gb348, 1, none⟩ = some (.int .i64 x349001_1) ∧ w'.cell? ⟨gb348, 2, none⟩ = some (.int .i64 x349002_1) ∧ w'.cell? (ad349.add (x5_1).toNat) = some (.bool (rdOf false l0 x5_1))) (ds := []) #[false, false, false, false, false, false, false, false, false, false, false, false] (by kernel_rfl) rfl rfl ⟨(blk_cell BK348.out 0).trans rfl, (blk_cell BK348.out 1).trans rfl, (blk_cell BK348.out 2).trans rfl, ((HB.out.cell (World.block_lt_of_cell? w _ hw349_0)).trans hw349_0)⟩ (fun hHeld => ?_); refine with_tabW garmentlaw54_InspectWay.tab8 garmentlaw54_InspectWay.bits8 (fun HT_ HW_ => ?_)
                generalize wr.drew = w27 at BK348 HB hx349_0 hHeld ⊢
                refine pure_ (i := 1) (N := some 21) (v := ?_) (a' := ?_) #[false, true, false, false, false, false, false, false, false, false, false, false] rfl rfl (any_of HT_.out (by kernel_rfl)) (fun _ _ _ h => h) (Or.inl ⟨by rfl, ?_⟩) ?_ ?_
                rotate_left
                · intro w'
                  go_simp
                  with_reducible rfl
                rotate_left
                · simp only [Act.put, List.setIfInBounds_toArray, List.set_cons_zero, List.set_cons_succ, i64_w, i32_w]
                  rfl
                refine pure_ (i := 2) (N := some 22) (v := ?_) (a' := ?_) #[false, true, true, false, false, false, false, false, false, false, false, false] rfl rfl (any_of HT_.out (by kernel_rfl)) (fun _ _ _ h => h) (Or.inl ⟨by rfl, ?_⟩) ?_ ?_
                rotate_left
                · intro w'
                  go_simp
                  with_reducible rfl
                rotate_left
                · simp only [Act.put, List.setIfInBounds_toArray, List.set_cons_zero, List.set_cons_succ, i64_w, i32_w]
                  rfl
                refine pure_ (i := 3) (N := some 23) (v := ?_) (a' := ?_) #[false, true, true, true, false, false, false, false, false, false, false, false] rfl rfl (any_of HT_.out (by kernel_rfl)) (fun _ _ _ h => h) (Or.inl ⟨by rfl, ?_⟩) ?_ ?_
                rotate_left
                · intro w'
                  go_simp
                  with_reducible rfl
                rotate_left
                · simp only [Act.put, List.setIfInBounds_toArray, List.set_cons_zero, List.set_cons_succ, i64_w, i32_w]
                  rfl
                refine take_ (i := 0) (N := some 20) (v := ?_) (a' := ?_) #[true, true, true, true, false, false, false, false, false, false, false, false] rfl rfl (take_ofW HT_.out HW_.out (by kernel_rfl)) (fun _ _ _ h => h) (Or.inl ⟨by rfl, ?_⟩) hHeld ?_ ?_
                rotate_left
                · rintro w' ⟨s0, s1, s2, s3⟩
                  go_simp
                  with_reducible rfl
                rotate_left
                · simp only [Act.put, List.setIfInBounds_toArray, List.set_cons_zero, List.set_cons_succ, i64_w, i32_w]
                  rfl
                refine take_ (i := 4) (N := some 24) (v := ?_) (a' := ?_) #[true, true, true, true, true, false, false, false, false, false, false, false] rfl rfl (take_ofW HT_.out HW_.out (by kernel_rfl)) (fun _ _ _ h => h) (Or.inl ⟨by rfl, ?_⟩) hHeld ?_ ?_
                rotate_left
                · rintro w' ⟨s0, s1, s2, s3⟩
                  go_simp
                  with_reducible rfl
                rotate_left
                · simp only [Act.put, List.setIfInBounds_toArray, List.set_cons_zero, List.set_cons_succ, i64_w, i32_w]
                  rfl
                refine join_ (σ := Nat) 2 #[true, true, true, true, true, true, true, true, true, true, false, false] (fun s_ => [(25, .tuple #[.agg #[.int .i64 t350, .int .i64 t351, .int .i64 t352], .int .i64 t353]), (6, .pointer (some ⟨s_, 0, none⟩)), (19, .tuple #[.agg #[.int .i64 t350, .int .i64 t351, .int .i64 t352], .int .i64 t353]), (26, .agg #[.int .i64 t350, .int .i64 t351, .int .i64 t352]), (27, .int .i64 t353)]) (fun s_ w' => (w'.cell? ⟨gb348, 0, none⟩ = some (.int .i64 x349000_1) ∧ w'.cell? ⟨gb348, 1, none⟩ = some (.int .i64 x349001_1) ∧ w'.cell? ⟨gb348, 2, none⟩ = some (.int .i64 x349002_1) ∧ w'.cell? (ad349.add (x5_1).toNat) = some (.bool (rdOf false l0 x5_1))) ∧ (w'.heap[gb348]? = some (.cells #[.int .i64 x349000_1, .int .i64 x349001_1, .int .i64 x349002_1] 33 (0, 0))) ∧ (w'.heap[s_]? = some (.cells #[.int .i64 0, .int .i64 0, .int .i64 0] 33 (0, 0))) ∧ (w.heap.size ≤ s_) ∧ (w.heap.size ≤ s_) ∧ (gb348 ≠ s_) ∧ (s_ ≠ gb348) ∧ (Below w.heap.size w w')) ?_ ?_
                rotate_left
                · intro hCont
                  refine two_ (i := 5) (j := 9) (Ni := some 25) (Nj := some 6) #[true, true, true, true, true, true, false, false, false, false, false, false] #[true, true, true, true, true, false, false, false, false, true, false, false] rfl rfl rfl rfl (two_of HT_.out (by kernel_rfl)) (by decide) (by decide) (fun K hK => ?_) (fun K hK => ?_)
                  · skip
                    refine goes_ Try.func28 (by kernel_rfl) rfl #[.agg #[.int .i64 x349000_1, .int .i64 x349001_1, .int .i64 x349002_1], .bool (rdOf false l0 x5_1)] (by rfl) rfl rfl (by (try simp only [List.map_toArray, List.map_cons, List.map_nil]); first | done | rfl | (simp only [List.length_drop, List.length_take]; rfl)) ?_
                    with_reducible refine (inspect_Switch.calls k1 x349000_1 x349001_1 x349002_1 (rdOf false l0 x5_1) t350 t351 t352 t353 _ A11.out).mono ?_
                    rintro e w28 ⟨rfl, hb⟩
                    refine ⟨_, rfl, ?_⟩
                    have n0_ := Aside0.mk (blk_below (g := gb348) (o := .cells #[.int .i64 x349000_1, .int .i64 x349001_1, .int .i64 x349002_1] 33 (0, 0)) (by (with_reducible repeat (first | refine blk_drewN ?_ _ | refine blk_drew ?_ | refine blk_alloc ?_ _)); exact BK348.out) hb)
                    have n1_ := Aside0.mk (below_step (by repeat (first | (with_reducible first | exact HB.out | apply below_alloc | apply pw_below_drewN | apply below_drew1 | refine below_set ?_ GE348.out) | exact HB.out)) hb)
                    clear BK348
                    clear HB
                    have BK348 := n0_
                    have HB := n1_
                    clear n0_ n1_
                    (try clear hb)
                    (try clear hb2)
                    (try clear hk)
                    (try clear hi)
                    refine hK.out _ _ ⟨(blk_cell BK348.out 0).trans rfl, (blk_cell BK348.out 1).trans rfl, (blk_cell BK348.out 2).trans rfl, ((HB.out.cell (World.block_lt_of_cell? w _ hw349_0)).trans hw349_0)⟩ (fun hHeld => ?_)
                    clear hK K
                    refine norm_ (a' := ?_) ?_ ?_
                    rotate_left
                    · show Act.put _ (some 25) _ = _
                      simp only [Act.put, List.setIfInBounds_toArray, List.set_cons_zero, List.set_cons_succ, i64_w, i32_w]
                      rfl
                    refine pure_ (i := 6) (N := some 19) (v := ?_) (a' := ?_) #[true, true, true, true, true, true, true, false, false, false, false, false] rfl rfl (any_of HT_.out (by kernel_rfl)) (fun _ _ _ h => h) (Or.inl ⟨by rfl, ?_⟩) ?_ ?_
                    rotate_left
                    · intro w'
                      go_simp
                      with_reducible rfl
                    rotate_left
                    · simp only [Act.put, List.setIfInBounds_toArray, List.set_cons_zero, List.set_cons_succ, i64_w, i32_w]
                      rfl
                    refine pure_ (i := 7) (N := some 26) (v := ?_) (a' := ?_) #[true, true, true, true, true, true, true, true, false, false, false, false] rfl rfl (any_of HT_.out (by kernel_rfl)) (fun _ _ _ h => h) (Or.inl ⟨by rfl, ?_⟩) ?_ ?_
                    rotate_left
                    · intro w'
                      go_simp
                      with_reducible rfl
                    rotate_left
                    · simp only [Act.put, List.setIfInBounds_toArray, List.set_cons_zero, List.set_cons_succ, i64_w, i32_w]
                      rfl
                    refine pure_ (i := 8) (N := some 27) (v := ?_) (a' := ?_) #[true, true, true, true, true, true, true, true, true, false, false, false] rfl rfl (any_of HT_.out (by kernel_rfl)) (fun _ _ _ h => h) (Or.inl ⟨by rfl, ?_⟩) ?_ ?_
                    rotate_left
                    · intro w'
                      go_simp
                      with_reducible rfl
                    rotate_left
                    · simp only [Act.put, List.setIfInBounds_toArray, List.set_cons_zero, List.set_cons_succ, i64_w, i32_w]
                      rfl
                    refine one_ (i := 9) (N := some 6) #[true, true, true, true, true, true, true, true, true, true, false, false] rfl rfl (one_of HT_.out (by kernel_rfl)) (by decide) (fun K hK => ?_)
                    refine box_step ?hg (N := 6) ?hd (cs := #[.int .i64 0, .int .i64 0, .int .i64 0]) (t := 33) ?hr ?_; (case hd => rfl); (case hg => rfl); (case hr => first | (go_simp; done) | (go_simp; rfl))
                    intro gb354 hg w29 hbox hb
                    have n0_ := Aside0.mk (blk_below (g := gb348) (o := .cells #[.int .i64 x349000_1, .int .i64 x349001_1, .int .i64 x349002_1] 33 (0, 0)) (by (with_reducible repeat (first | refine blk_drewN ?_ _ | refine blk_drew ?_ | refine blk_alloc ?_ _)); exact BK348.out) hb)
                    have n1_ := Aside0.mk (below_step (by repeat (first | (with_reducible first | exact HB.out | apply below_alloc | apply pw_below_drewN | apply below_drew1 | refine below_set ?_ GE348.out) | exact HB.out)) hb)
                    have n2_ := Aside0.mk (hbox)
                    have n3_ := Aside0.mk ((by rw [hg]; exact (below_size (by repeat (first | (with_reducible first | exact HB.out | apply below_alloc | apply pw_below_drewN | apply below_drew1 | refine below_set ?_ GE348.out) | exact HB.out))) : w.heap.size ≤ gb354))
                    have n4_ := Aside0.mk ((by rw [hg]; exact (below_size (by repeat (first | (with_reducible first | exact HB.out | apply below_alloc | apply pw_below_drewN | apply below_drew1 | refine below_set ?_ GE348.out) | exact HB.out))) : w.heap.size ≤ gb354))
                    have n5_ := Aside0.mk ((by rw [hg]; exact Nat.ne_of_lt (blk_lt (g := gb348) (o := .cells #[.int .i64 x349000_1, .int .i64 x349001_1, .int .i64 x349002_1] 33 (0, 0)) (by (with_reducible repeat (first | refine blk_drewN ?_ _ | refine blk_drew ?_ | refine blk_alloc ?_ _)); exact BK348.out)) : gb348 ≠ gb354))
                    have n6_ := Aside0.mk ((by rw [hg]; exact Nat.ne_of_gt (blk_lt (g := gb348) (o := .cells #[.int .i64 x349000_1, .int .i64 x349001_1, .int .i64 x349002_1] 33 (0, 0)) (by (with_reducible repeat (first | refine blk_drewN ?_ _ | refine blk_drew ?_ | refine blk_alloc ?_ _)); exact BK348.out)) : gb354 ≠ gb348))
                    clear BK348
                    clear HB
                    have BK348 := n0_
                    have HB := n1_
                    have BK354 := n2_
                    have GW354 := n3_
                    have GE354 := n4_
                    have NB348_354 := n5_
                    have NB354_348 := n6_
                    clear n0_ n1_ n2_ n3_ n4_ n5_ n6_
                    clear hb hbox hg
                    refine hK.out _ _ ⟨(blk_cell BK348.out 0).trans rfl, (blk_cell BK348.out 1).trans rfl, (blk_cell BK348.out 2).trans rfl, ((HB.out.cell (World.block_lt_of_cell? w _ hw349_0)).trans hw349_0)⟩ (fun hHeld => ?_)
                    clear hK K
                    refine norm_ (a' := ?_) ?_ ?_
                    rotate_left
                    · show Act.put _ (some 6) _ = _
                      simp only [Act.put, List.setIfInBounds_toArray, List.set_cons_zero, List.set_cons_succ, i64_w, i32_w]
                      rfl
                    exact norm_ (by simp only [putAll, Act.put, List.setIfInBounds_toArray, List.set_cons_zero, List.set_cons_succ]) (hCont (gb354) _ ⟨hHeld, (by (with_reducible repeat (first | refine blk_drewN ?_ _ | refine blk_drew ?_ | refine blk_alloc ?_ _)); exact BK348.out), (by (with_reducible repeat (first | refine blk_drewN ?_ _ | refine blk_drew ?_ | refine blk_alloc ?_ _)); exact BK354.out), GW354.out, GE354.out, NB348_354.out, NB354_348.out, (by repeat (first | (with_reducible first | exact HB.out | apply below_alloc | apply pw_below_drewN | apply below_drew1 | refine below_set ?_ GE348.out | refine below_set ?_ GE354.out) | exact HB.out))⟩)
                  · skip
                    refine box_step ?hg (N := 6) ?hd (cs := #[.int .i64 0, .int .i64 0, .int .i64 0]) (t := 33) ?hr ?_; (case hd => rfl); (case hg => rfl); (case hr => first | (go_simp; done) | (go_simp; rfl))
                    intro gb354 hg w28 hbox hb
                    have n0_ := Aside0.mk (blk_below (g := gb348) (o := .cells #[.int .i64 x349000_1, .int .i64 x349001_1, .int .i64 x349002_1] 33 (0, 0)) (by (with_reducible repeat (first | refine blk_drewN ?_ _ | refine blk_drew ?_ | refine blk_alloc ?_ _)); exact BK348.out) hb)
                    have n1_ := Aside0.mk (below_step (by repeat (first | (with_reducible first | exact HB.out | apply below_alloc | apply pw_below_drewN | apply below_drew1 | refine below_set ?_ GE348.out) | exact HB.out)) hb)
                    have n2_ := Aside0.mk (hbox)
                    have n3_ := Aside0.mk ((by rw [hg]; exact (below_size (by repeat (first | (with_reducible first | exact HB.out | apply below_alloc | apply pw_below_drewN | apply below_drew1 | refine below_set ?_ GE348.out) | exact HB.out))) : w.heap.size ≤ gb354))
                    have n4_ := Aside0.mk ((by rw [hg]; exact (below_size (by repeat (first | (with_reducible first | exact HB.out | apply below_alloc | apply pw_below_drewN | apply below_drew1 | refine below_set ?_ GE348.out) | exact HB.out))) : w.heap.size ≤ gb354))
                    have n5_ := Aside0.mk ((by rw [hg]; exact Nat.ne_of_lt (blk_lt (g := gb348) (o := .cells #[.int .i64 x349000_1, .int .i64 x349001_1, .int .i64 x349002_1] 33 (0, 0)) (by (with_reducible repeat (first | refine blk_drewN ?_ _ | refine blk_drew ?_ | refine blk_alloc ?_ _)); exact BK348.out)) : gb348 ≠ gb354))
                    have n6_ := Aside0.mk ((by rw [hg]; exact Nat.ne_of_gt (blk_lt (g := gb348) (o := .cells #[.int .i64 x349000_1, .int .i64 x349001_1, .int .i64 x349002_1] 33 (0, 0)) (by (with_reducible repeat (first | refine blk_drewN ?_ _ | refine blk_drew ?_ | refine blk_alloc ?_ _)); exact BK348.out)) : gb354 ≠ gb348))
                    clear BK348
                    clear HB
                    have BK348 := n0_
                    have HB := n1_
                    have BK354 := n2_
                    have GW354 := n3_
                    have GE354 := n4_
                    have NB348_354 := n5_
                    have NB354_348 := n6_
                    clear n0_ n1_ n2_ n3_ n4_ n5_ n6_
                    clear hb hbox hg
                    refine hK.out _ _ ⟨(blk_cell BK348.out 0).trans rfl, (blk_cell BK348.out 1).trans rfl, (blk_cell BK348.out 2).trans rfl, ((HB.out.cell (World.block_lt_of_cell? w _ hw349_0)).trans hw349_0)⟩ (fun hHeld => ?_)
                    clear hK K
                    refine norm_ (a' := ?_) ?_ ?_
                    rotate_left
                    · show Act.put _ (some 6) _ = _
                      simp only [Act.put, List.setIfInBounds_toArray, List.set_cons_zero, List.set_cons_succ, i64_w, i32_w]
                      rfl
                    refine one_ (i := 5) (N := some 25) #[true, true, true, true, true, true, false, false, false, true, false, false] rfl rfl (one_of HT_.out (by kernel_rfl)) (by decide) (fun K hK => ?_)
                    refine goes_ Try.func28 (by kernel_rfl) rfl #[.agg #[.int .i64 x349000_1, .int .i64 x349001_1, .int .i64 x349002_1], .bool (rdOf false l0 x5_1)] (by rfl) rfl rfl (by (try simp only [List.map_toArray, List.map_cons, List.map_nil]); first | done | rfl | (simp only [List.length_drop, List.length_take]; rfl)) ?_
                    with_reducible refine (inspect_Switch.calls k1 x349000_1 x349001_1 x349002_1 (rdOf false l0 x5_1) t350 t351 t352 t353 _ A11.out).mono ?_
                    rintro e w29 ⟨rfl, hb⟩
                    refine ⟨_, rfl, ?_⟩
                    have n0_ := Aside0.mk (blk_below (g := gb348) (o := .cells #[.int .i64 x349000_1, .int .i64 x349001_1, .int .i64 x349002_1] 33 (0, 0)) (by (with_reducible repeat (first | refine blk_drewN ?_ _ | refine blk_drew ?_ | refine blk_alloc ?_ _)); exact BK348.out) hb)
                    have n1_ := Aside0.mk (blk_below (g := gb354) (o := .cells #[.int .i64 0, .int .i64 0, .int .i64 0] 33 (0, 0)) (by (with_reducible repeat (first | refine blk_drewN ?_ _ | refine blk_drew ?_ | refine blk_alloc ?_ _)); exact BK354.out) hb)
                    have n2_ := Aside0.mk (below_step (by repeat (first | (with_reducible first | exact HB.out | apply below_alloc | apply pw_below_drewN | apply below_drew1 | refine below_set ?_ GE348.out | refine below_set ?_ GE354.out) | exact HB.out)) hb)
                    clear BK348
                    clear BK354
                    clear HB
                    have BK348 := n0_
                    have BK354 := n1_
                    have HB := n2_
                    clear n0_ n1_ n2_
                    (try clear hb)
                    (try clear hb2)
                    (try clear hk)
                    (try clear hi)
                    refine hK.out _ _ ⟨(blk_cell BK348.out 0).trans rfl, (blk_cell BK348.out 1).trans rfl, (blk_cell BK348.out 2).trans rfl, ((HB.out.cell (World.block_lt_of_cell? w _ hw349_0)).trans hw349_0)⟩ (fun hHeld => ?_)
                    clear hK K
                    refine norm_ (a' := ?_) ?_ ?_
                    rotate_left
                    · show Act.put _ (some 25) _ = _
                      simp only [Act.put, List.setIfInBounds_toArray, List.set_cons_zero, List.set_cons_succ, i64_w, i32_w]
                      rfl
                    refine pure_ (i := 6) (N := some 19) (v := ?_) (a' := ?_) #[true, true, true, true, true, true, true, false, false, true, false, false] rfl rfl (any_of HT_.out (by kernel_rfl)) (fun _ _ _ h => h) (Or.inl ⟨by rfl, ?_⟩) ?_ ?_
                    rotate_left
                    · intro w'
                      go_simp
                      with_reducible rfl
                    rotate_left
                    · simp only [Act.put, List.setIfInBounds_toArray, List.set_cons_zero, List.set_cons_succ, i64_w, i32_w]
                      rfl
                    refine pure_ (i := 7) (N := some 26) (v := ?_) (a' := ?_) #[true, true, true, true, true, true, true, true, false, true, false, false] rfl rfl (any_of HT_.out (by kernel_rfl)) (fun _ _ _ h => h) (Or.inl ⟨by rfl, ?_⟩) ?_ ?_
                    rotate_left
                    · intro w'
                      go_simp
                      with_reducible rfl
                    rotate_left
                    · simp only [Act.put, List.setIfInBounds_toArray, List.set_cons_zero, List.set_cons_succ, i64_w, i32_w]
                      rfl
                    refine pure_ (i := 8) (N := some 27) (v := ?_) (a' := ?_) #[true, true, true, true, true, true, true, true, true, true, false, false] rfl rfl (any_of HT_.out (by kernel_rfl)) (fun _ _ _ h => h) (Or.inl ⟨by rfl, ?_⟩) ?_ ?_
                    rotate_left
                    · intro w'
                      go_simp
                      with_reducible rfl
                    rotate_left
                    · simp only [Act.put, List.setIfInBounds_toArray, List.set_cons_zero, List.set_cons_succ, i64_w, i32_w]
                      rfl
                    exact norm_ (by simp only [putAll, Act.put, List.setIfInBounds_toArray, List.set_cons_zero, List.set_cons_succ]) (hCont (gb354) _ ⟨hHeld, (by (with_reducible repeat (first | refine blk_drewN ?_ _ | refine blk_drew ?_ | refine blk_alloc ?_ _)); exact BK348.out), (by (with_reducible repeat (first | refine blk_drewN ?_ _ | refine blk_drew ?_ | refine blk_alloc ?_ _)); exact BK354.out), GW354.out, GE354.out, NB348_354.out, NB354_348.out, (by repeat (first | (with_reducible first | exact HB.out | apply below_alloc | apply pw_below_drewN | apply below_drew1 | refine below_set ?_ GE348.out | refine below_set ?_ GE354.out) | exact HB.out))⟩)
                rintro gb354 w30 ⟨hS_, h0_, h1_, h2_, h3_, h4_, h5_, h6_⟩
                have n0_ : Aside0 (w30.heap[gb348]? = some (.cells #[.int .i64 x349000_1, .int .i64 x349001_1, .int .i64 x349002_1] 33 (0, 0))) := ⟨h0_⟩
                have n1_ : Aside0 (w30.heap[gb354]? = some (.cells #[.int .i64 0, .int .i64 0, .int .i64 0] 33 (0, 0))) := ⟨h1_⟩
                have n2_ : Aside0 (w.heap.size ≤ gb354) := ⟨h2_⟩
                have n3_ : Aside0 (w.heap.size ≤ gb354) := ⟨h3_⟩
                have n4_ : Aside0 (gb348 ≠ gb354) := ⟨h4_⟩
                have n5_ : Aside0 (gb354 ≠ gb348) := ⟨h5_⟩
                have n6_ : Aside0 (Below w.heap.size w w30) := ⟨h6_⟩
                clear BK348
                clear HB
                clear h0_ h1_ h2_ h3_ h4_ h5_ h6_
                have BK348 := n0_
                have BK354 := n1_
                have GW354 := n2_
                have GE354 := n3_
                have NB348_354 := n4_
                have NB354_348 := n5_
                have HB := n6_
                clear n0_ n1_ n2_ n3_ n4_ n5_ n6_
                have hHeld : w30.cell? ⟨gb348, 0, none⟩ = some (.int .i64 x349000_1) ∧ w30.cell? ⟨gb348, 1, none⟩ = some (.int .i64 x349001_1) ∧ w30.cell? ⟨gb348, 2, none⟩ = some (.int .i64 x349002_1) ∧ w30.cell? (ad349.add (x5_1).toNat) = some (.bool (rdOf false l0 x5_1)) := hS_
                refine norm_ (a' := ?_) ?_ ?_
                rotate_left
                · simp only [putAll, Act.put, List.setIfInBounds_toArray, List.set_cons_zero, List.set_cons_succ]
                  rfl
                refine one_ (i := 10) (N := none) #[true, true, true, true, true, true, true, true, true, true, true, false] rfl rfl (one_of HT_.out (by kernel_rfl)) (by decide) (fun K hK => ?_)
                have hs31 : w30.cell? ⟨gb354, 0, none⟩ = some (.int .i64 0) := (blk_cell BK354.out 0).trans rfl
                have hfs31 := blk_frozen BK354.out 0
                have hns31_0 := NB348_354.out
                have hms31_0 := NB354_348.out
                have hs32 : w30.cell? ⟨gb354, 1, none⟩ = some (.int .i64 0) := (blk_cell BK354.out 1).trans rfl
                have hfs32 := blk_frozen BK354.out 1
                have hns32_0 := NB348_354.out
                have hms32_0 := NB354_348.out
                have hs33 : w30.cell? ⟨gb354, 2, none⟩ = some (.int .i64 0) := (blk_cell BK354.out 2).trans rfl
                have hfs33 := blk_frozen BK354.out 2
                have hns33_0 := NB348_354.out
                have hms33_0 := NB354_348.out
                refine skip_ (w1 := ?_) (by rfl) rfl ?_ ?_
                rotate_left
                · go_simp
                  rfl
                refine hK.out _ _ ⟨((cell_far (p := ⟨gb354, _, none⟩) NB348_354.out _).trans (((cell_far (p := ⟨gb354, _, none⟩) NB348_354.out _).trans (((cell_far (p := ⟨gb354, _, none⟩) NB348_354.out _).trans (hHeld.1)))))), ((cell_far (p := ⟨gb354, _, none⟩) NB348_354.out _).trans (((cell_far (p := ⟨gb354, _, none⟩) NB348_354.out _).trans (((cell_far (p := ⟨gb354, _, none⟩) NB348_354.out _).trans (hHeld.2.1)))))), ((cell_far (p := ⟨gb354, _, none⟩) NB348_354.out _).trans (((cell_far (p := ⟨gb354, _, none⟩) NB348_354.out _).trans (((cell_far (p := ⟨gb354, _, none⟩) NB348_354.out _).trans (hHeld.2.2.1)))))), ((cell_far (p := ⟨gb354, _, none⟩) (by first | exact Nat.ne_of_lt (Nat.lt_of_lt_of_le (by have := World.block_lt_of_cell? _ _ hw349_0; first | rwa [add_block] at this | exact this) GW354.out) | (rw [add_block]; exact Nat.ne_of_lt (Nat.lt_of_lt_of_le (by have := World.block_lt_of_cell? _ _ hw349_0; first | rwa [add_block] at this | exact this) GW354.out)) | (show (Addr.add _ _).block ≠ _; rw [add_block]; exact Nat.ne_of_lt (Nat.lt_of_lt_of_le (by have := World.block_lt_of_cell? _ _ hw349_0; first | rwa [add_block] at this | exact this) GW354.out)) | (dsimp only; exact Nat.ne_of_lt (Nat.lt_of_lt_of_le (by have := World.block_lt_of_cell? _ _ hw349_0; first | rwa [add_block] at this | exact this) GW354.out))) _).trans (((cell_far (p := ⟨gb354, _, none⟩) (by first | exact Nat.ne_of_lt (Nat.lt_of_lt_of_le (by have := World.block_lt_of_cell? _ _ hw349_0; first | rwa [add_block] at this | exact this) GW354.out) | (rw [add_block]; exact Nat.ne_of_lt (Nat.lt_of_lt_of_le (by have := World.block_lt_of_cell? _ _ hw349_0; first | rwa [add_block] at this | exact this) GW354.out)) | (show (Addr.add _ _).block ≠ _; rw [add_block]; exact Nat.ne_of_lt (Nat.lt_of_lt_of_le (by have := World.block_lt_of_cell? _ _ hw349_0; first | rwa [add_block] at this | exact this) GW354.out)) | (dsimp only; exact Nat.ne_of_lt (Nat.lt_of_lt_of_le (by have := World.block_lt_of_cell? _ _ hw349_0; first | rwa [add_block] at this | exact this) GW354.out))) _).trans (((cell_far (p := ⟨gb354, _, none⟩) (by first | exact Nat.ne_of_lt (Nat.lt_of_lt_of_le (by have := World.block_lt_of_cell? _ _ hw349_0; first | rwa [add_block] at this | exact this) GW354.out) | (rw [add_block]; exact Nat.ne_of_lt (Nat.lt_of_lt_of_le (by have := World.block_lt_of_cell? _ _ hw349_0; first | rwa [add_block] at this | exact this) GW354.out)) | (show (Addr.add _ _).block ≠ _; rw [add_block]; exact Nat.ne_of_lt (Nat.lt_of_lt_of_le (by have := World.block_lt_of_cell? _ _ hw349_0; first | rwa [add_block] at this | exact this) GW354.out)) | (dsimp only; exact Nat.ne_of_lt (Nat.lt_of_lt_of_le (by have := World.block_lt_of_cell? _ _ hw349_0; first | rwa [add_block] at this | exact this) GW354.out))) _).trans (hHeld.2.2.2))))))⟩ (fun hHeld => ?_)
                clear hK K
                refine pure_ (i := 11) (N := some 7) (v := ?_) (a' := ?_) #[true, true, true, true, true, true, true, true, true, true, true, true] rfl rfl (any_of HT_.out (by kernel_rfl)) (fun _ _ _ h => h) (Or.inl ⟨by rfl, ?_⟩) ?_ ?_
                rotate_left
                · intro w'
                  go_simp
                  with_reducible rfl
                rotate_left
                · simp only [Act.put, List.setIfInBounds_toArray, List.set_cons_zero, List.set_cons_succ, i64_w, i32_w]
                  rfl
                refine done_ (done_of HT_.out (by kernel_rfl)) ?_
                have hnb34 := NB348_354.out
                have hnc34 := NB354_348.out
                have hcz35_0 : w30.cell? ⟨gb348, 0, none⟩ = some (.int .i64 x349000_1) := (blk_cell BK348.out 0).trans rfl
                have hcz35_1 : w30.cell? ⟨gb348, 1, none⟩ = some (.int .i64 x349001_1) := (blk_cell BK348.out 1).trans rfl
                have hcz35_2 : w30.cell? ⟨gb348, 2, none⟩ = some (.int .i64 x349002_1) := (blk_cell BK348.out 2).trans rfl
                have hfz35_0 := blk_frozen BK348.out 0
                have hfz35_1 := blk_frozen BK348.out 1
                have hfz35_2 := blk_frozen BK348.out 2
                go_upto_if 40 with (fail)
                go_cut [4] (fun v4 wc => ∃ (kq : Nat) (x4_25 : Int), v4 = .int .i64 x4_25 ∧ Aside0 (garmentlaw54_InspectWay.j1 kq l0 x4_25 x5_1 t350 t351 t352 = some r) ∧ Aside0 (kq ≤ k1) ∧ Aside0 (wc.heap[gb348]? = some (.cells #[.int .i64 x349000_1, .int .i64 x349001_1, .int .i64 x349002_1] 33 (0, 0))) ∧ Aside0 (wc.heap[gb354]? = some (.cells #[.int .i64 t350, .int .i64 t351, .int .i64 t352] 33 (0, 0))) ∧ Aside0 (Below w.heap.size w wc))
                case first =>
                  have H := HC26.out
                  clear HC26
                  by_cases c36 : x349000_1 = 3
                  · rw [if_pos c36] at H
                    have c36b0 : (x349000_1 == 3) = true := beq_iff_eq.mpr c36
                    have c36b1 : (x349000_1 != 3) = false := bne_eq_false_iff_eq.mpr c36
                    clear c36
                    (first | rw [c36b0] | (simp only [i64_w, i32_w]; rw [c36b0]) | skip)
                    obtain ⟨bq37, hbq37⟩ : ∃ b_ : Bool, b_ = (rdOf false l0 x5_1) := ⟨_, rfl⟩
                    replace H : (if bq37 = true then (garmentlaw54_InspectWay.j1 k1 l0 x4_1 x5_1 t350 t351 t352) else (garmentlaw54_InspectWay.j1 k1 l0 (wrap64 (x4_1 + 1)) x5_1 t350 t351 t352)) = some r := by rw [← hbq37] at H; exact H
                    have Nbq37 := Aside0.mk hbq37
                    clear hbq37
                    have Rbq37 := Nbq37.out.symm
                    by_cases c38 : bq37 = true
                    · subst c38
                      have H1 : (garmentlaw54_InspectWay.j1 k1 l0 x4_1 x5_1 t350 t351 t352) = some r := by rw [if_pos rfl] at H; exact H
                      clear H
                      have H := H1
                      clear H1
                      have H' := Aside0.mk H
                      clear H
                      have p356 : 0 ≤ (x5_1 : Int) := of_decide_eq_true (by first | (with_reducible assumption) | assumption)
                      have q356 : x5_1 < (l0.length : Int) := of_decide_eq_true (by first | (with_reducible assumption) | assumption)
                      obtain ⟨ad356, e356, hx356_0⟩ := Kd.at_bool HR0.out x5_1 p356 q356
                      (try rw [← Nbq37.out] at hx356_0)
                      obtain rfl : ad349 = ad356 := (by injection e356)
                      have hn356_0 : ad349.block ≠ gb354 := Nat.ne_of_lt (Nat.lt_of_lt_of_le (by have := World.block_lt_of_cell? _ _ hx356_0; first | rwa [add_block] at this | exact this) GW354.out)
                      have hn356_1 : ad349.block ≠ gb354 := Nat.ne_of_lt (Nat.lt_of_lt_of_le (by have := World.block_lt_of_cell? _ _ hx356_0; first | rwa [add_block] at this | exact this) GW354.out)
                      have hn356_2 : ad349.block ≠ gb354 := Nat.ne_of_lt (Nat.lt_of_lt_of_le (by have := World.block_lt_of_cell? _ _ hx356_0; first | rwa [add_block] at this | exact this) GW354.out)
                      replace hx356_0 := (HB.out.cell (World.block_lt_of_cell? w _ hx356_0)).trans hx356_0
                      replace hx356_0 := (cell_far (p := ⟨gb354, 0, none⟩) (by first | (rw [add_block]; exact hn356_0) | (show (Addr.add _ _).block ≠ _; rw [add_block]; exact hn356_0) | exact hn356_0) (.int .i64 t350)).trans hx356_0
                      replace hx356_0 := (cell_far (p := ⟨gb354, 1, none⟩) (by first | (rw [add_block]; exact hn356_1) | (show (Addr.add _ _).block ≠ _; rw [add_block]; exact hn356_1) | exact hn356_1) (.int .i64 t351)).trans hx356_0
                      replace hx356_0 := (cell_far (p := ⟨gb354, 2, none⟩) (by first | (rw [add_block]; exact hn356_2) | (show (Addr.add _ _).block ≠ _; rw [add_block]; exact hn356_2) | exact hn356_2) (.int .i64 t352)).trans hx356_0
                      clear hn356_0
                      clear hn356_1
                      clear hn356_2
                      replace p356 := eq_true p356
                      replace q356 := eq_true q356
                      go_wp2
                      go_meet
                      case rel => exact ⟨_, (x4_1), (by first | rfl | (simp; done) | (simp [*]; done)), H', ⟨by have := HK1.out; first | omega | exact Nat.le_refl _⟩, ⟨by (with_reducible repeat (first | refine blk_drewN ?_ _ | refine blk_drew ?_ | refine blk_alloc ?_ _)); refine blk_far ?_ NB348_354.out _; (with_reducible repeat (first | refine blk_drewN ?_ _ | refine blk_drew ?_ | refine blk_alloc ?_ _)); refine blk_far ?_ NB348_354.out _; (with_reducible repeat (first | refine blk_drewN ?_ _ | refine blk_drew ?_ | refine blk_alloc ?_ _)); refine blk_far ?_ NB348_354.out _; (with_reducible repeat (first | refine blk_drewN ?_ _ | refine blk_drew ?_ | refine blk_alloc ?_ _)); exact BK348.out⟩, ⟨by (with_reducible repeat (first | refine blk_drewN ?_ _ | refine blk_drew ?_ | refine blk_alloc ?_ _)); refine blk_put (cs := #[.int .i64 t350, .int .i64 t351, .int .i64 0]) ?_ 2 _ rfl; (with_reducible repeat (first | refine blk_drewN ?_ _ | refine blk_drew ?_ | refine blk_alloc ?_ _)); refine blk_put (cs := #[.int .i64 t350, .int .i64 0, .int .i64 0]) ?_ 1 _ rfl; (with_reducible repeat (first | refine blk_drewN ?_ _ | refine blk_drew ?_ | refine blk_alloc ?_ _)); refine blk_put (cs := #[.int .i64 0, .int .i64 0, .int .i64 0]) ?_ 0 _ rfl; (with_reducible repeat (first | refine blk_drewN ?_ _ | refine blk_drew ?_ | refine blk_alloc ?_ _)); exact BK354.out⟩, ⟨by repeat (first | (with_reducible first | exact HB.out | apply below_alloc | apply pw_below_drewN | apply below_drew1 | refine below_set ?_ GE348.out | refine below_set ?_ GE354.out) | exact HB.out)⟩⟩
                    · replace c38 := Bool.eq_false_iff.mpr c38
                      subst c38
                      have H1 : (garmentlaw54_InspectWay.j1 k1 l0 (wrap64 (x4_1 + 1)) x5_1 t350 t351 t352) = some r := by rw [if_neg (show ¬ (false = true) by decide)] at H; exact H
                      clear H
                      have H := H1
                      clear H1
                      have H' := Aside0.mk H
                      clear H
                      have p356 : 0 ≤ (x5_1 : Int) := of_decide_eq_true (by first | (with_reducible assumption) | assumption)
                      have q356 : x5_1 < (l0.length : Int) := of_decide_eq_true (by first | (with_reducible assumption) | assumption)
                      obtain ⟨ad356, e356, hx356_0⟩ := Kd.at_bool HR0.out x5_1 p356 q356
                      (try rw [← Nbq37.out] at hx356_0)
                      obtain rfl : ad349 = ad356 := (by injection e356)
                      have hn356_0 : ad349.block ≠ gb354 := Nat.ne_of_lt (Nat.lt_of_lt_of_le (by have := World.block_lt_of_cell? _ _ hx356_0; first | rwa [add_block] at this | exact this) GW354.out)
                      have hn356_1 : ad349.block ≠ gb354 := Nat.ne_of_lt (Nat.lt_of_lt_of_le (by have := World.block_lt_of_cell? _ _ hx356_0; first | rwa [add_block] at this | exact this) GW354.out)
                      have hn356_2 : ad349.block ≠ gb354 := Nat.ne_of_lt (Nat.lt_of_lt_of_le (by have := World.block_lt_of_cell? _ _ hx356_0; first | rwa [add_block] at this | exact this) GW354.out)
                      replace hx356_0 := (HB.out.cell (World.block_lt_of_cell? w _ hx356_0)).trans hx356_0
                      replace hx356_0 := (cell_far (p := ⟨gb354, 0, none⟩) (by first | (rw [add_block]; exact hn356_0) | (show (Addr.add _ _).block ≠ _; rw [add_block]; exact hn356_0) | exact hn356_0) (.int .i64 t350)).trans hx356_0
                      replace hx356_0 := (cell_far (p := ⟨gb354, 1, none⟩) (by first | (rw [add_block]; exact hn356_1) | (show (Addr.add _ _).block ≠ _; rw [add_block]; exact hn356_1) | exact hn356_1) (.int .i64 t351)).trans hx356_0
                      replace hx356_0 := (cell_far (p := ⟨gb354, 2, none⟩) (by first | (rw [add_block]; exact hn356_2) | (show (Addr.add _ _).block ≠ _; rw [add_block]; exact hn356_2) | exact hn356_2) (.int .i64 t352)).trans hx356_0
                      clear hn356_0
                      clear hn356_1
                      clear hn356_2
                      replace p356 := eq_true p356
                      replace q356 := eq_true q356
                      go_wp2
                      go_meet
                      case rel => exact ⟨_, (wrap64 (x4_1 + 1)), (by first | rfl | (simp; done) | (simp [*]; done)), H', ⟨by have := HK1.out; first | omega | exact Nat.le_refl _⟩, ⟨by (with_reducible repeat (first | refine blk_drewN ?_ _ | refine blk_drew ?_ | refine blk_alloc ?_ _)); refine blk_far ?_ NB348_354.out _; (with_reducible repeat (first | refine blk_drewN ?_ _ | refine blk_drew ?_ | refine blk_alloc ?_ _)); refine blk_far ?_ NB348_354.out _; (with_reducible repeat (first | refine blk_drewN ?_ _ | refine blk_drew ?_ | refine blk_alloc ?_ _)); refine blk_far ?_ NB348_354.out _; (with_reducible repeat (first | refine blk_drewN ?_ _ | refine blk_drew ?_ | refine blk_alloc ?_ _)); exact BK348.out⟩, ⟨by (with_reducible repeat (first | refine blk_drewN ?_ _ | refine blk_drew ?_ | refine blk_alloc ?_ _)); refine blk_put (cs := #[.int .i64 t350, .int .i64 t351, .int .i64 0]) ?_ 2 _ rfl; (with_reducible repeat (first | refine blk_drewN ?_ _ | refine blk_drew ?_ | refine blk_alloc ?_ _)); refine blk_put (cs := #[.int .i64 t350, .int .i64 0, .int .i64 0]) ?_ 1 _ rfl; (with_reducible repeat (first | refine blk_drewN ?_ _ | refine blk_drew ?_ | refine blk_alloc ?_ _)); refine blk_put (cs := #[.int .i64 0, .int .i64 0, .int .i64 0]) ?_ 0 _ rfl; (with_reducible repeat (first | refine blk_drewN ?_ _ | refine blk_drew ?_ | refine blk_alloc ?_ _)); exact BK354.out⟩, ⟨by repeat (first | (with_reducible first | exact HB.out | apply below_alloc | apply pw_below_drewN | apply below_drew1 | refine below_set ?_ GE348.out | refine below_set ?_ GE354.out) | exact HB.out)⟩⟩
                  · rw [if_neg c36] at H
                    have c36b0 : (x349000_1 == 3) = false := beq_eq_false_iff_ne.mpr c36
                    have c36b1 : (x349000_1 != 3) = true := bne_iff_ne.mpr c36
                    (first | rw [c36b0] | (simp only [i64_w, i32_w]; rw [c36b0]) | skip)
                    have H' := Aside0.mk H
                    clear H
                    go_wp2
                    go_meet
                    case rel => exact ⟨_, (0), (by first | rfl | (simp; done) | (simp [*]; done)), H', ⟨by have := HK1.out; first | omega | exact Nat.le_refl _⟩, ⟨by (with_reducible repeat (first | refine blk_drewN ?_ _ | refine blk_drew ?_ | refine blk_alloc ?_ _)); refine blk_far ?_ NB348_354.out _; (with_reducible repeat (first | refine blk_drewN ?_ _ | refine blk_drew ?_ | refine blk_alloc ?_ _)); refine blk_far ?_ NB348_354.out _; (with_reducible repeat (first | refine blk_drewN ?_ _ | refine blk_drew ?_ | refine blk_alloc ?_ _)); refine blk_far ?_ NB348_354.out _; (with_reducible repeat (first | refine blk_drewN ?_ _ | refine blk_drew ?_ | refine blk_alloc ?_ _)); exact BK348.out⟩, ⟨by (with_reducible repeat (first | refine blk_drewN ?_ _ | refine blk_drew ?_ | refine blk_alloc ?_ _)); refine blk_put (cs := #[.int .i64 t350, .int .i64 t351, .int .i64 0]) ?_ 2 _ rfl; (with_reducible repeat (first | refine blk_drewN ?_ _ | refine blk_drew ?_ | refine blk_alloc ?_ _)); refine blk_put (cs := #[.int .i64 t350, .int .i64 0, .int .i64 0]) ?_ 1 _ rfl; (with_reducible repeat (first | refine blk_drewN ?_ _ | refine blk_drew ?_ | refine blk_alloc ?_ _)); refine blk_put (cs := #[.int .i64 0, .int .i64 0, .int .i64 0]) ?_ 0 _ rfl; (with_reducible repeat (first | refine blk_drewN ?_ _ | refine blk_drew ?_ | refine blk_alloc ?_ _)); exact BK354.out⟩, ⟨by repeat (first | (with_reducible first | exact HB.out | apply below_alloc | apply pw_below_drewN | apply below_drew1 | refine below_set ?_ GE348.out | refine below_set ?_ GE354.out) | exact HB.out)⟩⟩
                case rest =>
                  clear HC26
                  try clear c1
                  try clear c2
                  try clear p2
                  try clear c3
                  try clear p3
                  try clear q3
                  try clear hx3
                  try clear p6
                  try clear c12
                  try clear c12b0
                  try clear c12b1
                  try clear c13
                  try clear c22
                  try clear c25
                  try clear c25b0
                  try clear c25b1
                  try clear c28
                  try clear c34
                  try clear p34
                  try clear q34
                  try clear hx34
                  try clear p35
                  try clear q35
                  try clear hx35
                  try clear c36
                  try clear c36b0
                  try clear c36b1
                  try clear q37
                  try clear c38
                  try clear hcz23_0
                  try clear hcz23_1
                  try clear hcz23_2
                  try clear hcz35_0
                  try clear hcz35_1
                  try clear hcz35_2
                  try clear hfz23_0
                  try clear hfz23_1
                  try clear hfz23_2
                  try clear hfz35_0
                  try clear hfz35_1
                  try clear hfz35_2
                  try clear hx349_0
                  try clear hx356_0
                  try clear p349
                  try clear p356
                  try clear q349
                  try clear q356
                  obtain ⟨kq, x4_25, rfl, HA, HJ25, BK348, BK354, HB⟩ := hcut
                  cases kq with
                  | zero => exact absurd HA.out (by simp [garmentlaw54_InspectWay.j1])
                  | succ kj25 =>
                    have H := HA.out
                    clear HA
                    simp only [garmentlaw54_InspectWay.j1] at H
                    have HC39 := Aside0.mk H
                    clear H
                    go_upto_region 17 with (fail)
                    go_cut [63] (fun v63 wc => ∃ (kq : Nat) (x63_38 : Bool), v63 = .bool x63_38 ∧ Aside0 (garmentlaw54_InspectWay.j2 kq l0 x4_25 x5_1 x63_38 t350 t351 t352 = some r) ∧ Aside0 (kq ≤ kj25) ∧ Aside0 (wc.heap[gb348]? = some (.cells #[.int .i64 x349000_1, .int .i64 x349001_1, .int .i64 x349002_1] 33 (0, 0))) ∧ Aside0 (wc.heap[gb354]? = some (.cells #[.int .i64 t350, .int .i64 t351, .int .i64 t352] 33 (0, 0))) ∧ Aside0 (Below w.heap.size w wc))
                    case first =>
                      have H := HC39.out
                      clear HC39
                      by_cases c40 : t350 = 4
                      · rw [if_pos c40] at H
                        have c40b0 : (t350 == 4) = true := beq_iff_eq.mpr c40
                        have c40b1 : (t350 != 4) = false := bne_eq_false_iff_eq.mpr c40
                        clear c40
                        (first | rw [c40b0] | (simp only [i64_w, i32_w]; rw [c40b0]) | skip)
                        by_cases c41 : x4_25 = 5
                        · rw [if_pos c41] at H
                          have c41b0 : (x4_25 == 5) = true := beq_iff_eq.mpr c41
                          have c41b1 : (x4_25 != 5) = false := bne_eq_false_iff_eq.mpr c41
                          clear c41
                          by_cases c42 : t350 = 3
                          · rw [if_pos c42] at H
                            have c42b0 : (t350 == 3) = true := beq_iff_eq.mpr c42
                            have c42b1 : (t350 != 3) = false := bne_eq_false_iff_eq.mpr c42
                            clear c42
                            have H' := Aside0.mk H
                            clear H
                            have hnb43 := NB354_348.out
                            have hnc43 := NB348_354.out
                            have hcz44_0 : wc.cell? ⟨gb354, 0, none⟩ = some (.int .i64 t350) := (blk_cell BK354.out 0).trans rfl
                            have hcz44_1 : wc.cell? ⟨gb354, 1, none⟩ = some (.int .i64 t351) := (blk_cell BK354.out 1).trans rfl
                            have hcz44_2 : wc.cell? ⟨gb354, 2, none⟩ = some (.int .i64 t352) := (blk_cell BK354.out 2).trans rfl
                            have hfz44_0 := blk_frozen BK354.out 0
                            have hfz44_1 := blk_frozen BK354.out 1
                            have hfz44_2 := blk_frozen BK354.out 2
                            go_wp2
                            go_meet
                            case rel => exact ⟨_, (decide (x4_25 > 4)), (by first | rfl | (simp; done) | (simp [*]; done)), H', ⟨by have := HK1.out; have := HJ25.out; first | omega | exact Nat.le_refl _⟩, ⟨by (with_reducible repeat (first | refine blk_drewN ?_ _ | refine blk_drew ?_ | refine blk_alloc ?_ _)); exact BK348.out⟩, ⟨by (with_reducible repeat (first | refine blk_drewN ?_ _ | refine blk_drew ?_ | refine blk_alloc ?_ _)); exact BK354.out⟩, ⟨by repeat (first | (with_reducible first | exact HB.out | apply below_alloc | apply pw_below_drewN | apply below_drew1 | refine below_set ?_ GE348.out | refine below_set ?_ GE354.out) | exact HB.out)⟩⟩
                          · rw [if_neg c42] at H
                            have c42b0 : (t350 == 3) = false := beq_eq_false_iff_ne.mpr c42
                            have c42b1 : (t350 != 3) = true := bne_iff_ne.mpr c42
                            have H' := Aside0.mk H
                            clear H
                            have hnb45 := NB354_348.out
                            have hnc45 := NB348_354.out
                            have hcz46_0 : wc.cell? ⟨gb354, 0, none⟩ = some (.int .i64 t350) := (blk_cell BK354.out 0).trans rfl
                            have hcz46_1 : wc.cell? ⟨gb354, 1, none⟩ = some (.int .i64 t351) := (blk_cell BK354.out 1).trans rfl
                            have hcz46_2 : wc.cell? ⟨gb354, 2, none⟩ = some (.int .i64 t352) := (blk_cell BK354.out 2).trans rfl
                            have hfz46_0 := blk_frozen BK354.out 0
                            have hfz46_1 := blk_frozen BK354.out 1
                            have hfz46_2 := blk_frozen BK354.out 2
                            go_wp2
                            go_meet
                            case rel => exact ⟨_, (false), (by first | rfl | (simp; done) | (simp [*]; done)), H', ⟨by have := HK1.out; have := HJ25.out; first | omega | exact Nat.le_refl _⟩, ⟨by (with_reducible repeat (first | refine blk_drewN ?_ _ | refine blk_drew ?_ | refine blk_alloc ?_ _)); exact BK348.out⟩, ⟨by (with_reducible repeat (first | refine blk_drewN ?_ _ | refine blk_drew ?_ | refine blk_alloc ?_ _)); exact BK354.out⟩, ⟨by repeat (first | (with_reducible first | exact HB.out | apply below_alloc | apply pw_below_drewN | apply below_drew1 | refine below_set ?_ GE348.out | refine below_set ?_ GE354.out) | exact HB.out)⟩⟩
                        · rw [if_neg c41] at H
                          have c41b0 : (x4_25 == 5) = false := beq_eq_false_iff_ne.mpr c41
                          have c41b1 : (x4_25 != 5) = true := bne_iff_ne.mpr c41
                          have H' := Aside0.mk H
                          clear H
                          have hnb47 := NB354_348.out
                          have hnc47 := NB348_354.out
                          have hcz48_0 : wc.cell? ⟨gb354, 0, none⟩ = some (.int .i64 t350) := (blk_cell BK354.out 0).trans rfl
                          have hcz48_1 : wc.cell? ⟨gb354, 1, none⟩ = some (.int .i64 t351) := (blk_cell BK354.out 1).trans rfl
                          have hcz48_2 : wc.cell? ⟨gb354, 2, none⟩ = some (.int .i64 t352) := (blk_cell BK354.out 2).trans rfl
                          have hfz48_0 := blk_frozen BK354.out 0
                          have hfz48_1 := blk_frozen BK354.out 1
                          have hfz48_2 := blk_frozen BK354.out 2
                          go_wp2
                          go_meet
                          case rel => exact ⟨_, (true), (by first | rfl | (simp; done) | (simp [*]; done)), H', ⟨by have := HK1.out; have := HJ25.out; first | omega | exact Nat.le_refl _⟩, ⟨by (with_reducible repeat (first | refine blk_drewN ?_ _ | refine blk_drew ?_ | refine blk_alloc ?_ _)); exact BK348.out⟩, ⟨by (with_reducible repeat (first | refine blk_drewN ?_ _ | refine blk_drew ?_ | refine blk_alloc ?_ _)); exact BK354.out⟩, ⟨by repeat (first | (with_reducible first | exact HB.out | apply below_alloc | apply pw_below_drewN | apply below_drew1 | refine below_set ?_ GE348.out | refine below_set ?_ GE354.out) | exact HB.out)⟩⟩
                      · rw [if_neg c40] at H
                        have c40b0 : (t350 == 4) = false := beq_eq_false_iff_ne.mpr c40
                        have c40b1 : (t350 != 4) = true := bne_iff_ne.mpr c40
                        (first | rw [c40b0] | (simp only [i64_w, i32_w]; rw [c40b0]) | skip)
                        by_cases c49 : t350 = 3
                        · rw [if_pos c49] at H
                          have c49b0 : (t350 == 3) = true := beq_iff_eq.mpr c49
                          have c49b1 : (t350 != 3) = false := bne_eq_false_iff_eq.mpr c49
                          clear c49
                          have H' := Aside0.mk H
                          clear H
                          have hnb50 := NB354_348.out
                          have hnc50 := NB348_354.out
                          have hcz51_0 : wc.cell? ⟨gb354, 0, none⟩ = some (.int .i64 t350) := (blk_cell BK354.out 0).trans rfl
                          have hcz51_1 : wc.cell? ⟨gb354, 1, none⟩ = some (.int .i64 t351) := (blk_cell BK354.out 1).trans rfl
                          have hcz51_2 : wc.cell? ⟨gb354, 2, none⟩ = some (.int .i64 t352) := (blk_cell BK354.out 2).trans rfl
                          have hfz51_0 := blk_frozen BK354.out 0
                          have hfz51_1 := blk_frozen BK354.out 1
                          have hfz51_2 := blk_frozen BK354.out 2
                          go_wp2
                          go_meet
                          case rel => exact ⟨_, (decide (x4_25 > 4)), (by first | rfl | (simp; done) | (simp [*]; done)), H', ⟨by have := HK1.out; have := HJ25.out; first | omega | exact Nat.le_refl _⟩, ⟨by (with_reducible repeat (first | refine blk_drewN ?_ _ | refine blk_drew ?_ | refine blk_alloc ?_ _)); exact BK348.out⟩, ⟨by (with_reducible repeat (first | refine blk_drewN ?_ _ | refine blk_drew ?_ | refine blk_alloc ?_ _)); exact BK354.out⟩, ⟨by repeat (first | (with_reducible first | exact HB.out | apply below_alloc | apply pw_below_drewN | apply below_drew1 | refine below_set ?_ GE348.out | refine below_set ?_ GE354.out) | exact HB.out)⟩⟩
                        · rw [if_neg c49] at H
                          have c49b0 : (t350 == 3) = false := beq_eq_false_iff_ne.mpr c49
                          have c49b1 : (t350 != 3) = true := bne_iff_ne.mpr c49
                          have H' := Aside0.mk H
                          clear H
                          have hnb52 := NB354_348.out
                          have hnc52 := NB348_354.out
                          have hcz53_0 : wc.cell? ⟨gb354, 0, none⟩ = some (.int .i64 t350) := (blk_cell BK354.out 0).trans rfl
                          have hcz53_1 : wc.cell? ⟨gb354, 1, none⟩ = some (.int .i64 t351) := (blk_cell BK354.out 1).trans rfl
                          have hcz53_2 : wc.cell? ⟨gb354, 2, none⟩ = some (.int .i64 t352) := (blk_cell BK354.out 2).trans rfl
                          have hfz53_0 := blk_frozen BK354.out 0
                          have hfz53_1 := blk_frozen BK354.out 1
                          have hfz53_2 := blk_frozen BK354.out 2
                          go_wp2
                          go_meet
                          case rel => exact ⟨_, (false), (by first | rfl | (simp; done) | (simp [*]; done)), H', ⟨by have := HK1.out; have := HJ25.out; first | omega | exact Nat.le_refl _⟩, ⟨by (with_reducible repeat (first | refine blk_drewN ?_ _ | refine blk_drew ?_ | refine blk_alloc ?_ _)); exact BK348.out⟩, ⟨by (with_reducible repeat (first | refine blk_drewN ?_ _ | refine blk_drew ?_ | refine blk_alloc ?_ _)); exact BK354.out⟩, ⟨by repeat (first | (with_reducible first | exact HB.out | apply below_alloc | apply pw_below_drewN | apply below_drew1 | refine below_set ?_ GE348.out | refine below_set ?_ GE354.out) | exact HB.out)⟩⟩
                    case rest =>
                      clear HC39
                      try clear c1
                      try clear c2
                      try clear p2
                      try clear c3
                      try clear p3
                      try clear q3
                      try clear hx3
                      try clear c4
                      try clear c5
                      try clear p6
                      try clear c12
                      try clear c12b0
                      try clear c12b1
                      try clear c13
                      try clear c22
                      try clear c25
                      try clear c25b0
                      try clear c25b1
                      try clear c28
                      try clear c34
                      try clear p34
                      try clear q34
                      try clear hx34
                      try clear p35
                      try clear q35
                      try clear hx35
                      try clear c36
                      try clear c36b0
                      try clear c36b1
                      try clear q37
                      try clear c38
                      try clear c40
                      try clear c40b0
                      try clear c40b1
                      try clear c41
                      try clear c41b0
                      try clear c41b1
                      try clear c42
                      try clear c42b0
                      try clear c42b1
                      try clear c43
                      try clear c45
                      try clear c47
                      try clear c49
                      try clear c49b0
                      try clear c49b1
                      try clear c50
                      try clear c52
                      try clear hcz23_0
                      try clear hcz23_1
                      try clear hcz23_2
                      try clear hcz35_0
                      try clear hcz35_1
                      try clear hcz35_2
                      try clear hcz44_0
                      try clear hcz44_1
                      try clear hcz44_2
                      try clear hcz46_0
                      try clear hcz46_1
                      try clear hcz46_2
                      try clear hcz48_0
                      try clear hcz48_1
                      try clear hcz48_2
                      try clear hcz51_0
                      try clear hcz51_1
                      try clear hcz51_2
                      try clear hcz53_0
                      try clear hcz53_1
                      try clear hcz53_2
                      try clear hfz23_0
                      try clear hfz23_1
                      try clear hfz23_2
                      try clear hfz35_0
                      try clear hfz35_1
                      try clear hfz35_2
                      try clear hfz44_0
                      try clear hfz44_1
                      try clear hfz44_2
                      try clear hfz46_0
                      try clear hfz46_1
                      try clear hfz46_2
                      try clear hfz48_0
                      try clear hfz48_1
                      try clear hfz48_2
                      try clear hfz51_0
                      try clear hfz51_1
                      try clear hfz51_2
                      try clear hfz53_0
                      try clear hfz53_1
                      try clear hfz53_2
                      try clear hx349_0
                      try clear hx356_0
                      try clear p2
                      try clear p3
                      try clear p34
                      try clear p349
                      try clear p35
                      try clear p356
                      try clear p6
                      try clear q3
                      try clear q34
                      try clear q349
                      try clear q35
                      try clear q356
                      try clear q37
                      obtain ⟨kq, x63_38, rfl, HA, HJ38, BK348, BK354, HB⟩ := hcut
                      cases kq with
                      | zero => exact absurd HA.out (by simp [garmentlaw54_InspectWay.j2])
                      | succ kj38 =>
                        have H := HA.out
                        clear HA
                        simp only [garmentlaw54_InspectWay.j2] at H
                        by_cases c54 : x63_38 = true
                        · subst c54
                          have H1 : (none) = some r := by rw [if_pos rfl] at H; exact H
                          clear H
                          have H := H1
                          clear H1
                          exact absurd H (by simp)
                        · replace c54 := Bool.eq_false_iff.mpr c54
                          subst c54
                          have H1 : (garmentlaw54_InspectWay.l0 kj38 l0 x4_25 (wrap64 (x5_1 + 1)) t350 t351 t352) = some r := by rw [if_neg (show ¬ (false = true) by decide)] at H; exact H
                          clear H
                          have H := H1
                          clear H1
                          have H' := Aside0.mk H
                          clear H
                          have hnb55 := NB354_348.out
                          have hnc55 := NB348_354.out
                          have hcz56_0 : wc.cell? ⟨gb354, 0, none⟩ = some (.int .i64 t350) := (blk_cell BK354.out 0).trans rfl
                          have hcz56_1 : wc.cell? ⟨gb354, 1, none⟩ = some (.int .i64 t351) := (blk_cell BK354.out 1).trans rfl
                          have hcz56_2 : wc.cell? ⟨gb354, 2, none⟩ = some (.int .i64 t352) := (blk_cell BK354.out 2).trans rfl
                          have hfz56_0 := blk_frozen BK354.out 0
                          have hfz56_1 := blk_frozen BK354.out 1
                          have hfz56_2 := blk_frozen BK354.out 2
                          have hcz57_0 : wc.cell? ⟨gb348, 0, none⟩ = some (.int .i64 x349000_1) := (blk_cell BK348.out 0).trans rfl
                          have hcz57_1 : wc.cell? ⟨gb348, 1, none⟩ = some (.int .i64 x349001_1) := (blk_cell BK348.out 1).trans rfl
                          have hcz57_2 : wc.cell? ⟨gb348, 2, none⟩ = some (.int .i64 x349002_1) := (blk_cell BK348.out 2).trans rfl
                          have hfz57_0 := blk_frozen BK348.out 0
                          have hfz57_1 := blk_frozen BK348.out 1
                          have hfz57_2 := blk_frozen BK348.out 2
                          go_wp2
                          go_roundg kj38
                          case measure => have := HK1.out; have := HJ25.out; have := HJ38.out; omega
                          case rel => exact ⟨(x4_25), (wrap64 (x5_1 + 1)), (t350), (t351), (t352), (by first | rfl | (simp; done) | (simp [*]; done)), (by first | rfl | (simp; done) | (simp [*]; done)), H', ⟨by have := HK1.out; have := HJ25.out; have := HJ38.out; omega⟩, ⟨by (with_reducible repeat (first | refine blk_drewN ?_ _ | refine blk_drew ?_ | refine blk_alloc ?_ _)); refine blk_put (cs := #[.int .i64 t350, .int .i64 t351, .int .i64 x349002_1]) ?_ 2 _ rfl; (with_reducible repeat (first | refine blk_drewN ?_ _ | refine blk_drew ?_ | refine blk_alloc ?_ _)); refine blk_put (cs := #[.int .i64 t350, .int .i64 x349001_1, .int .i64 x349002_1]) ?_ 1 _ rfl; (with_reducible repeat (first | refine blk_drewN ?_ _ | refine blk_drew ?_ | refine blk_alloc ?_ _)); refine blk_put (cs := #[.int .i64 x349000_1, .int .i64 x349001_1, .int .i64 x349002_1]) ?_ 0 _ rfl; (with_reducible repeat (first | refine blk_drewN ?_ _ | refine blk_drew ?_ | refine blk_alloc ?_ _)); exact BK348.out⟩, ⟨by repeat (first | (with_reducible first | exact HB.out | apply below_alloc | apply pw_below_drewN | apply below_drew1 | refine below_set ?_ GE348.out | refine below_set ?_ GE354.out) | exact HB.out)⟩⟩
              · rw [if_neg c25] at H
                exact absurd H (by simp)
          · rw [if_neg c10] at H
            exact absurd H (by simp)
        · rw [if_neg c9] at H
          have c9b0 : decide (x5_1 < (l0.length : Int)) = false := decide_eq_false c9
          clear c9
          replace H := Option.bind_eq_some_iff.mp H
          obtain ⟨t357, A580, H⟩ := H
          replace H : (some t357) = some r := H
          have A58 := Aside0.mk A580
          clear A580
          obtain rfl := Option.some.inj H
          go_wp2_with (first | ((with_reducible refine gate_callee (f := 24) rfl ?_); refine goesL_ (some 65) rfl rfl Try.func24 (by kernel_rfl) rfl #[] rfl (by (try simp only [List.map_toArray, List.map_cons, List.map_nil]); first | done | rfl | (simp only [List.length_drop, List.length_take]; rfl)) ?_; (with_reducible refine (garmentlaw54_alive.calls k1  t357 _ A58.out).mono ?_); rintro e w59 ⟨rfl, hb⟩; refine ⟨_, rfl, ?_⟩; have n0_ := Aside0.mk (blk_below (g := gb348) (o := .cells #[.int .i64 x349000_1, .int .i64 x349001_1, .int .i64 x349002_1] 33 (0, 0)) (by (with_reducible repeat (first | refine blk_drewN ?_ _ | refine blk_drew ?_ | refine blk_alloc ?_ _)); exact BK348.out) hb); have n1_ := Aside0.mk (below_step (by repeat (first | (with_reducible first | exact HB.out | apply below_alloc | apply pw_below_drewN | apply below_drew1 | refine below_set ?_ GE348.out) | exact HB.out)) hb); clear BK348; clear HB; have BK348 := n0_; have HB := n1_; clear n0_ n1_; (try clear hb); (try clear hb2); (try clear hk); (try clear hi)))
          go_ret
          exact ⟨by first | rfl | (simp [errW_none, errW_some] <;> rfl) | (simp [*, errW_none, errW_some] <;> rfl), by repeat (first | (with_reducible first | exact HB.out | apply below_alloc | apply pw_below_drewN | apply below_drew1 | refine below_set ?_ GE348.out) | exact HB.out)⟩

end Go.Proofs.Ytkpapcklmfefjaa.I
