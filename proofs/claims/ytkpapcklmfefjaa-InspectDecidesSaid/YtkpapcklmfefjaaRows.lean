/-
  No cell of these rows narrows 'for every input' (looked for: loops, veiled, ifaces, maps, wideKeys, modest, calm, conditions, laid).
  DERIVED. THE GIVEN ROWS OF THIS SEAT. 12 by the template 'for every input the law returns true; each argument reads behind the call as it read before'; 0 by the template 'total and deterministic' (their statements: YtkpapcklmfefjaaTotals.lean).
  GIVEN WITH THE SEED: the statements are not yours to turn. If you find one false, say at which input.
  Laid BY PROGRAM, IN A SANDBOX (cutbox-rows.mjs): the forced cells as the released guide's own fill.sh prints them over the translation 16f95e0cfe7e2ad2… (all of the seat's roots in one cut). By AI agents, Wed Nov 11 2026. No macro, syntax, notation, axiom, sorry.
-/
import Derived.Test.YtkpapcklmfefjaaChecked
import GoSem.Claim
import GoSem.ClaimJoined
import GoSem.ClaimMapViews
import Derived.JoinedTies
import Derived.KernelRfl
namespace Go.Proofs.Ytkpapcklmfefjaa
/- THE CELL 'sum', in the pinned program and in every row, IS THE sha256 OF THE DUMP (.gsa) THAT YtkpapcklmfefjaaProg.lean LOADS. Nothing in Lean hashes anything: it is a label: what it is worth is what the hold of that sum in a sandbox is worth. -/
noncomputable def Try.pinned : Pinned := { name := "ytkpapcklmfefjaa", sum := "16f95e0cfe7e2ad27629c7b1436c147cfc13938aa54cbfc3542f5801bef372dd", checked := Try.checked }
namespace Rows
def none {H : Type} : Left H := { results := [], args := [] }

/-- 'garmentlaw28.StripePhases': WHATEVER THE INPUT: true; the input reads as it did. -/
def stripePhasesSpec : ChangeSpec := { name := "stripePhases", fn := fun _ => fun
  | [d1, d2] => { results := [.lit (.bool true)], args := [d1, d2] }
  | _ => none }
def stripePhasesRow : OpenClaim := { program := "ytkpapcklmfefjaa", sum := "16f95e0cfe7e2ad27629c7b1436c147cfc13938aa54cbfc3542f5801bef372dd", func := "garment/garmentlaw28.StripePhases", spec := "stripePhases", apart := false }
def StripePhasesSaid : Prop := stripePhasesRow.holds Try.pinned (OpenSpec.ofChange stripePhasesSpec)

/-- ITS FALSE NEIGHBOUR: 'it returns false'. Refute it at one input. -/
def stripePhasesWrong : ChangeSpec := { name := "stripePhases", fn := fun _ => fun
  | [d1, d2] => { results := [.lit (.bool false)], args := [d1, d2] }
  | _ => none }
def StripePhasesWrongFalsely : Prop := stripePhasesRow.holds Try.pinned (OpenSpec.ofChange stripePhasesWrong)

/-- 'garmentlaw28.StripeNext': WHATEVER THE INPUT: true; the input reads as it did. -/
def stripeNextSpec : ChangeSpec := { name := "stripeNext", fn := fun _ => fun
  | [d1, d2, d3] => { results := [.lit (.bool true)], args := [d1, d2, d3] }
  | _ => none }
def stripeNextRow : OpenClaim := { program := "ytkpapcklmfefjaa", sum := "16f95e0cfe7e2ad27629c7b1436c147cfc13938aa54cbfc3542f5801bef372dd", func := "garment/garmentlaw28.StripeNext", spec := "stripeNext", apart := false }
def StripeNextSaid : Prop := stripeNextRow.holds Try.pinned (OpenSpec.ofChange stripeNextSpec)

/-- ITS FALSE NEIGHBOUR: 'it returns false'. Refute it at one input. -/
def stripeNextWrong : ChangeSpec := { name := "stripeNext", fn := fun _ => fun
  | [d1, d2, d3] => { results := [.lit (.bool false)], args := [d1, d2, d3] }
  | _ => none }
def StripeNextWrongFalsely : Prop := stripeNextRow.holds Try.pinned (OpenSpec.ofChange stripeNextWrong)

/-- 'garmentlaw54.InspectPlans': WHATEVER THE INPUT: true; the input reads as it did. -/
def inspectPlansSpec : ChangeSpec := { name := "inspectPlans", fn := fun _ => fun
  | [d1, d2] => { results := [.lit (.bool true)], args := [d1, d2] }
  | _ => none }
def inspectPlansRow : OpenClaim := { program := "ytkpapcklmfefjaa", sum := "16f95e0cfe7e2ad27629c7b1436c147cfc13938aa54cbfc3542f5801bef372dd", func := "garment/garmentlaw54.InspectPlans", spec := "inspectPlans", apart := false }
def InspectPlansSaid : Prop := inspectPlansRow.holds Try.pinned (OpenSpec.ofChange inspectPlansSpec)

/-- ITS FALSE NEIGHBOUR: 'it returns false'. Refute it at one input. -/
def inspectPlansWrong : ChangeSpec := { name := "inspectPlans", fn := fun _ => fun
  | [d1, d2] => { results := [.lit (.bool false)], args := [d1, d2] }
  | _ => none }
def InspectPlansWrongFalsely : Prop := inspectPlansRow.holds Try.pinned (OpenSpec.ofChange inspectPlansWrong)

/-- 'garmentlaw54.InspectDecides': WHATEVER THE INPUT: true; the input reads as it did. -/
def inspectDecidesSpec : ChangeSpec := { name := "inspectDecides", fn := fun _ => fun
  | [d1, d2] => { results := [.lit (.bool true)], args := [d1, d2] }
  | _ => none }
def inspectDecidesRow : OpenClaim := { program := "ytkpapcklmfefjaa", sum := "16f95e0cfe7e2ad27629c7b1436c147cfc13938aa54cbfc3542f5801bef372dd", func := "garment/garmentlaw54.InspectDecides", spec := "inspectDecides", apart := false }
def InspectDecidesSaid : Prop := inspectDecidesRow.holds Try.pinned (OpenSpec.ofChange inspectDecidesSpec)

/-- ITS FALSE NEIGHBOUR: 'it returns false'. Refute it at one input. -/
def inspectDecidesWrong : ChangeSpec := { name := "inspectDecides", fn := fun _ => fun
  | [d1, d2] => { results := [.lit (.bool false)], args := [d1, d2] }
  | _ => none }
def InspectDecidesWrongFalsely : Prop := inspectDecidesRow.holds Try.pinned (OpenSpec.ofChange inspectDecidesWrong)

/-- 'garmentlaw28.StripeBounds': WHATEVER THE INPUT: true; the input reads as it did. -/
def stripeBoundsSpec : ChangeSpec := { name := "stripeBounds", fn := fun _ => fun
  | [d1, d2] => { results := [.lit (.bool true)], args := [d1, d2] }
  | _ => none }
def stripeBoundsRow : OpenClaim := { program := "ytkpapcklmfefjaa", sum := "16f95e0cfe7e2ad27629c7b1436c147cfc13938aa54cbfc3542f5801bef372dd", func := "garment/garmentlaw28.StripeBounds", spec := "stripeBounds", apart := false }
def StripeBoundsSaid : Prop := stripeBoundsRow.holds Try.pinned (OpenSpec.ofChange stripeBoundsSpec)

/-- ITS FALSE NEIGHBOUR: 'it returns false'. Refute it at one input. -/
def stripeBoundsWrong : ChangeSpec := { name := "stripeBounds", fn := fun _ => fun
  | [d1, d2] => { results := [.lit (.bool false)], args := [d1, d2] }
  | _ => none }
def StripeBoundsWrongFalsely : Prop := stripeBoundsRow.holds Try.pinned (OpenSpec.ofChange stripeBoundsWrong)

/-- 'garmentlaw28.StripeEquivalence': WHATEVER THE INPUT: true; the input reads as it did. -/
def stripeEquivalenceSpec : ChangeSpec := { name := "stripeEquivalence", fn := fun _ => fun
  | [d1, d2] => { results := [.lit (.bool true)], args := [d1, d2] }
  | _ => none }
def stripeEquivalenceRow : OpenClaim := { program := "ytkpapcklmfefjaa", sum := "16f95e0cfe7e2ad27629c7b1436c147cfc13938aa54cbfc3542f5801bef372dd", func := "garment/garmentlaw28.StripeEquivalence", spec := "stripeEquivalence", apart := false }
def StripeEquivalenceSaid : Prop := stripeEquivalenceRow.holds Try.pinned (OpenSpec.ofChange stripeEquivalenceSpec)

/-- ITS FALSE NEIGHBOUR: 'it returns false'. Refute it at one input. -/
def stripeEquivalenceWrong : ChangeSpec := { name := "stripeEquivalence", fn := fun _ => fun
  | [d1, d2] => { results := [.lit (.bool false)], args := [d1, d2] }
  | _ => none }
def StripeEquivalenceWrongFalsely : Prop := stripeEquivalenceRow.holds Try.pinned (OpenSpec.ofChange stripeEquivalenceWrong)

/-- 'garmentlaw28.StripeMoves': WHATEVER THE INPUT: true; the input reads as it did. -/
def stripeMovesSpec : ChangeSpec := { name := "stripeMoves", fn := fun _ => fun
  | [d1, d2, d3] => { results := [.lit (.bool true)], args := [d1, d2, d3] }
  | _ => none }
def stripeMovesRow : OpenClaim := { program := "ytkpapcklmfefjaa", sum := "16f95e0cfe7e2ad27629c7b1436c147cfc13938aa54cbfc3542f5801bef372dd", func := "garment/garmentlaw28.StripeMoves", spec := "stripeMoves", apart := false }
def StripeMovesSaid : Prop := stripeMovesRow.holds Try.pinned (OpenSpec.ofChange stripeMovesSpec)

/-- ITS FALSE NEIGHBOUR: 'it returns false'. Refute it at one input. -/
def stripeMovesWrong : ChangeSpec := { name := "stripeMoves", fn := fun _ => fun
  | [d1, d2, d3] => { results := [.lit (.bool false)], args := [d1, d2, d3] }
  | _ => none }
def StripeMovesWrongFalsely : Prop := stripeMovesRow.holds Try.pinned (OpenSpec.ofChange stripeMovesWrong)

/-- 'garmentlaw28.StripeAgain': WHATEVER THE INPUT: true; the input reads as it did. -/
def stripeAgainSpec : ChangeSpec := { name := "stripeAgain", fn := fun _ => fun
  | [d1, d2] => { results := [.lit (.bool true)], args := [d1, d2] }
  | _ => none }
def stripeAgainRow : OpenClaim := { program := "ytkpapcklmfefjaa", sum := "16f95e0cfe7e2ad27629c7b1436c147cfc13938aa54cbfc3542f5801bef372dd", func := "garment/garmentlaw28.StripeAgain", spec := "stripeAgain", apart := false }
def StripeAgainSaid : Prop := stripeAgainRow.holds Try.pinned (OpenSpec.ofChange stripeAgainSpec)

/-- ITS FALSE NEIGHBOUR: 'it returns false'. Refute it at one input. -/
def stripeAgainWrong : ChangeSpec := { name := "stripeAgain", fn := fun _ => fun
  | [d1, d2] => { results := [.lit (.bool false)], args := [d1, d2] }
  | _ => none }
def StripeAgainWrongFalsely : Prop := stripeAgainRow.holds Try.pinned (OpenSpec.ofChange stripeAgainWrong)

/-- 'garmentlaw54.InspectRules': WHATEVER THE INPUT: true; the input reads as it did. -/
def inspectRulesSpec : ChangeSpec := { name := "inspectRules", fn := fun _ => fun
  | [d1, d2, d3] => { results := [.lit (.bool true)], args := [d1, d2, d3] }
  | _ => none }
def inspectRulesRow : OpenClaim := { program := "ytkpapcklmfefjaa", sum := "16f95e0cfe7e2ad27629c7b1436c147cfc13938aa54cbfc3542f5801bef372dd", func := "garment/garmentlaw54.InspectRules", spec := "inspectRules", apart := false }
def InspectRulesSaid : Prop := inspectRulesRow.holds Try.pinned (OpenSpec.ofChange inspectRulesSpec)

/-- ITS FALSE NEIGHBOUR: 'it returns false'. Refute it at one input. -/
def inspectRulesWrong : ChangeSpec := { name := "inspectRules", fn := fun _ => fun
  | [d1, d2, d3] => { results := [.lit (.bool false)], args := [d1, d2, d3] }
  | _ => none }
def InspectRulesWrongFalsely : Prop := inspectRulesRow.holds Try.pinned (OpenSpec.ofChange inspectRulesWrong)

/-- 'garmentlaw54.InspectRuns': WHATEVER THE INPUT: true; the input reads as it did. -/
def inspectRunsSpec : ChangeSpec := { name := "inspectRuns", fn := fun _ => fun
  | [d1, d2] => { results := [.lit (.bool true)], args := [d1, d2] }
  | _ => none }
def inspectRunsRow : OpenClaim := { program := "ytkpapcklmfefjaa", sum := "16f95e0cfe7e2ad27629c7b1436c147cfc13938aa54cbfc3542f5801bef372dd", func := "garment/garmentlaw54.InspectRuns", spec := "inspectRuns", apart := false }
def InspectRunsSaid : Prop := inspectRunsRow.holds Try.pinned (OpenSpec.ofChange inspectRunsSpec)

/-- ITS FALSE NEIGHBOUR: 'it returns false'. Refute it at one input. -/
def inspectRunsWrong : ChangeSpec := { name := "inspectRuns", fn := fun _ => fun
  | [d1, d2] => { results := [.lit (.bool false)], args := [d1, d2] }
  | _ => none }
def InspectRunsWrongFalsely : Prop := inspectRunsRow.holds Try.pinned (OpenSpec.ofChange inspectRunsWrong)

/-- 'garmentlaw54.InspectSwitches': WHATEVER THE INPUT: true; the input reads as it did. -/
def inspectSwitchesSpec : ChangeSpec := { name := "inspectSwitches", fn := fun _ => fun
  | [d1, d2] => { results := [.lit (.bool true)], args := [d1, d2] }
  | _ => none }
def inspectSwitchesRow : OpenClaim := { program := "ytkpapcklmfefjaa", sum := "16f95e0cfe7e2ad27629c7b1436c147cfc13938aa54cbfc3542f5801bef372dd", func := "garment/garmentlaw54.InspectSwitches", spec := "inspectSwitches", apart := false }
def InspectSwitchesSaid : Prop := inspectSwitchesRow.holds Try.pinned (OpenSpec.ofChange inspectSwitchesSpec)

/-- ITS FALSE NEIGHBOUR: 'it returns false'. Refute it at one input. -/
def inspectSwitchesWrong : ChangeSpec := { name := "inspectSwitches", fn := fun _ => fun
  | [d1, d2] => { results := [.lit (.bool false)], args := [d1, d2] }
  | _ => none }
def InspectSwitchesWrongFalsely : Prop := inspectSwitchesRow.holds Try.pinned (OpenSpec.ofChange inspectSwitchesWrong)

/-- 'garmentlaw54.InspectWay': WHATEVER THE INPUT: true; the input reads as it did. -/
def inspectWaySpec : ChangeSpec := { name := "inspectWay", fn := fun _ => fun
  | [d] => { results := [.lit (.bool true)], args := [d] }
  | _ => none }
def inspectWayRow : OpenClaim := { program := "ytkpapcklmfefjaa", sum := "16f95e0cfe7e2ad27629c7b1436c147cfc13938aa54cbfc3542f5801bef372dd", func := "garment/garmentlaw54.InspectWay", spec := "inspectWay", apart := false }
def InspectWaySaid : Prop := inspectWayRow.holds Try.pinned (OpenSpec.ofChange inspectWaySpec)

/-- ITS FALSE NEIGHBOUR: 'it returns false'. Refute it at one input. -/
def inspectWayWrong : ChangeSpec := { name := "inspectWay", fn := fun _ => fun
  | [d] => { results := [.lit (.bool false)], args := [d] }
  | _ => none }
def InspectWayWrongFalsely : Prop := inspectWayRow.holds Try.pinned (OpenSpec.ofChange inspectWayWrong)

/- THE SECOND FORM. 'bulk': how many values and letters a reading holds, each counted each time it is reached (what is shared counts as often as it is met; a slice's spare places count too). A statement '..UptoSaid' is the law's where the arguments, and the package variables that the reading takes, are together of bulk at most 1048576: NARROWER than '..Said'. Prove '..Said' where nothing that the law and all that it calls make is longer than what came in: it says more and counts as full. Else prove '..UptoSaid'. A law counts once. -/
mutual
def uptoBulk {H : Type} : DataW H → Nat
  | .lit (.string bytes) => bytes.length + 1
  | .lit _ => 1
  | .nil => 1
  | .ptr d => uptoBulk d + 1
  | .slice elems spare => uptoBulkAll elems + uptoBulkAll spare + 1
  | .agg parts => uptoBulkAll parts + 1
  | .iface _ d => uptoBulk d + 1
  | .map entries => uptoBulkEntries entries + 1
  | .held _ => 1
def uptoBulkAll {H : Type} : List (DataW H) → Nat
  | [] => 0
  | d :: r => uptoBulk d + uptoBulkAll r
def uptoBulkEntries {H : Type} : List (Lit × DataW H) → Nat
  | [] => 0
  | x :: r => uptoBulkEntry x + uptoBulkEntries r
def uptoBulkEntry {H : Type} : Lit × DataW H → Nat
  | (.string bytes, d) => bytes.length + uptoBulk d + 1
  | (_, d) => uptoBulk d + 1
 end
def uptoSmall : (H : Type) → List (DataW H) → Bool := fun _ ds => decide (uptoBulkAll ds ≤ 1048576)
def OpenSpec.upto (s : _root_.Go.ChangeSpec) : _root_.Go.OpenSpec := { _root_.Go.OpenSpec.ofChange s with cond := some uptoSmall }

/-- 'garmentlaw28.StripePhases', WHERE WHAT IT READS IS OF BULK AT MOST 1048576: true; the input reads as it did. -/
def stripePhasesUptoRow : OpenClaim := { program := "ytkpapcklmfefjaa", sum := "16f95e0cfe7e2ad27629c7b1436c147cfc13938aa54cbfc3542f5801bef372dd", func := "garment/garmentlaw28.StripePhases", spec := "stripePhases", apart := false, narrowed := true }
def StripePhasesUptoSaid : Prop := stripePhasesUptoRow.holds Try.pinned (OpenSpec.upto stripePhasesSpec)

/-- 'garmentlaw28.StripeNext', WHERE WHAT IT READS IS OF BULK AT MOST 1048576: true; the input reads as it did. -/
def stripeNextUptoRow : OpenClaim := { program := "ytkpapcklmfefjaa", sum := "16f95e0cfe7e2ad27629c7b1436c147cfc13938aa54cbfc3542f5801bef372dd", func := "garment/garmentlaw28.StripeNext", spec := "stripeNext", apart := false, narrowed := true }
def StripeNextUptoSaid : Prop := stripeNextUptoRow.holds Try.pinned (OpenSpec.upto stripeNextSpec)

/-- 'garmentlaw54.InspectPlans', WHERE WHAT IT READS IS OF BULK AT MOST 1048576: true; the input reads as it did. -/
def inspectPlansUptoRow : OpenClaim := { program := "ytkpapcklmfefjaa", sum := "16f95e0cfe7e2ad27629c7b1436c147cfc13938aa54cbfc3542f5801bef372dd", func := "garment/garmentlaw54.InspectPlans", spec := "inspectPlans", apart := false, narrowed := true }
def InspectPlansUptoSaid : Prop := inspectPlansUptoRow.holds Try.pinned (OpenSpec.upto inspectPlansSpec)

/-- 'garmentlaw54.InspectDecides', WHERE WHAT IT READS IS OF BULK AT MOST 1048576: true; the input reads as it did. -/
def inspectDecidesUptoRow : OpenClaim := { program := "ytkpapcklmfefjaa", sum := "16f95e0cfe7e2ad27629c7b1436c147cfc13938aa54cbfc3542f5801bef372dd", func := "garment/garmentlaw54.InspectDecides", spec := "inspectDecides", apart := false, narrowed := true }
def InspectDecidesUptoSaid : Prop := inspectDecidesUptoRow.holds Try.pinned (OpenSpec.upto inspectDecidesSpec)

/-- 'garmentlaw28.StripeBounds', WHERE WHAT IT READS IS OF BULK AT MOST 1048576: true; the input reads as it did. -/
def stripeBoundsUptoRow : OpenClaim := { program := "ytkpapcklmfefjaa", sum := "16f95e0cfe7e2ad27629c7b1436c147cfc13938aa54cbfc3542f5801bef372dd", func := "garment/garmentlaw28.StripeBounds", spec := "stripeBounds", apart := false, narrowed := true }
def StripeBoundsUptoSaid : Prop := stripeBoundsUptoRow.holds Try.pinned (OpenSpec.upto stripeBoundsSpec)

/-- 'garmentlaw28.StripeEquivalence', WHERE WHAT IT READS IS OF BULK AT MOST 1048576: true; the input reads as it did. -/
def stripeEquivalenceUptoRow : OpenClaim := { program := "ytkpapcklmfefjaa", sum := "16f95e0cfe7e2ad27629c7b1436c147cfc13938aa54cbfc3542f5801bef372dd", func := "garment/garmentlaw28.StripeEquivalence", spec := "stripeEquivalence", apart := false, narrowed := true }
def StripeEquivalenceUptoSaid : Prop := stripeEquivalenceUptoRow.holds Try.pinned (OpenSpec.upto stripeEquivalenceSpec)

/-- 'garmentlaw28.StripeMoves', WHERE WHAT IT READS IS OF BULK AT MOST 1048576: true; the input reads as it did. -/
def stripeMovesUptoRow : OpenClaim := { program := "ytkpapcklmfefjaa", sum := "16f95e0cfe7e2ad27629c7b1436c147cfc13938aa54cbfc3542f5801bef372dd", func := "garment/garmentlaw28.StripeMoves", spec := "stripeMoves", apart := false, narrowed := true }
def StripeMovesUptoSaid : Prop := stripeMovesUptoRow.holds Try.pinned (OpenSpec.upto stripeMovesSpec)

/-- 'garmentlaw28.StripeAgain', WHERE WHAT IT READS IS OF BULK AT MOST 1048576: true; the input reads as it did. -/
def stripeAgainUptoRow : OpenClaim := { program := "ytkpapcklmfefjaa", sum := "16f95e0cfe7e2ad27629c7b1436c147cfc13938aa54cbfc3542f5801bef372dd", func := "garment/garmentlaw28.StripeAgain", spec := "stripeAgain", apart := false, narrowed := true }
def StripeAgainUptoSaid : Prop := stripeAgainUptoRow.holds Try.pinned (OpenSpec.upto stripeAgainSpec)

/-- 'garmentlaw54.InspectRules', WHERE WHAT IT READS IS OF BULK AT MOST 1048576: true; the input reads as it did. -/
def inspectRulesUptoRow : OpenClaim := { program := "ytkpapcklmfefjaa", sum := "16f95e0cfe7e2ad27629c7b1436c147cfc13938aa54cbfc3542f5801bef372dd", func := "garment/garmentlaw54.InspectRules", spec := "inspectRules", apart := false, narrowed := true }
def InspectRulesUptoSaid : Prop := inspectRulesUptoRow.holds Try.pinned (OpenSpec.upto inspectRulesSpec)

/-- 'garmentlaw54.InspectRuns', WHERE WHAT IT READS IS OF BULK AT MOST 1048576: true; the input reads as it did. -/
def inspectRunsUptoRow : OpenClaim := { program := "ytkpapcklmfefjaa", sum := "16f95e0cfe7e2ad27629c7b1436c147cfc13938aa54cbfc3542f5801bef372dd", func := "garment/garmentlaw54.InspectRuns", spec := "inspectRuns", apart := false, narrowed := true }
def InspectRunsUptoSaid : Prop := inspectRunsUptoRow.holds Try.pinned (OpenSpec.upto inspectRunsSpec)

/-- 'garmentlaw54.InspectSwitches', WHERE WHAT IT READS IS OF BULK AT MOST 1048576: true; the input reads as it did. -/
def inspectSwitchesUptoRow : OpenClaim := { program := "ytkpapcklmfefjaa", sum := "16f95e0cfe7e2ad27629c7b1436c147cfc13938aa54cbfc3542f5801bef372dd", func := "garment/garmentlaw54.InspectSwitches", spec := "inspectSwitches", apart := false, narrowed := true }
def InspectSwitchesUptoSaid : Prop := inspectSwitchesUptoRow.holds Try.pinned (OpenSpec.upto inspectSwitchesSpec)

/-- 'garmentlaw54.InspectWay', WHERE WHAT IT READS IS OF BULK AT MOST 1048576: true; the input reads as it did. -/
def inspectWayUptoRow : OpenClaim := { program := "ytkpapcklmfefjaa", sum := "16f95e0cfe7e2ad27629c7b1436c147cfc13938aa54cbfc3542f5801bef372dd", func := "garment/garmentlaw54.InspectWay", spec := "inspectWay", apart := false, narrowed := true }
def InspectWayUptoSaid : Prop := inspectWayUptoRow.holds Try.pinned (OpenSpec.upto inspectWaySpec)

end Rows
end Go.Proofs.Ytkpapcklmfefjaa
