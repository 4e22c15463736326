/- The law InspectRules in plain words: its mirror answers true, for any regime, decision and lot. -/
import Derived.Test.YtkpapcklmfefjaaIRef
import Derived.Test.YtkpapcklmfefjaaI18
namespace Go.Proofs.Ytkpapcklmfefjaa.I
open Go.RowKit Go.Proofs.YtkpapcklmfefjaaW.PrintWords Go.Proofs.YtkpapcklmfefjaaW.PrintLast Go.Proofs.YtkpapcklmfefjaaW.PrintMore
theorem InspectRules_pure (l a r : Int) (y : Bool) (lot : Int) (_hl : (Lit.int .i64 l).wf = true) (_ha : (Lit.int .i64 a).wf = true) (_hr : (Lit.int .i64 r).wf = true) (_hlot : (Lit.int .i64 lot).wf = true) : ∃ k, garmentlaw54_InspectRules.f k l a r y lot = some true := by
  refine ⟨100, ?_⟩
  unfold garmentlaw54_InspectRules.f inspect_Start.f garmentref54_Start.f
  rw [Switch_eq (by omega), Option.bind_some, refSwitch_eq (by omega), Option.bind_some, Plan_eq (by omega), Option.bind_some, refPlan_eq (by omega), Option.bind_some, Option.bind_some, Option.bind_some, alive_true (by omega), Option.bind_some]
  simp
end Go.Proofs.Ytkpapcklmfefjaa.I
