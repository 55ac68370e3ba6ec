/-
  No cell of these rows narrows 'for every input' (looked for: loops, veiled, ifaces, maps, wideKeys, modest, calm, conditions, laid).
  DERIVED. THE GIVEN ROWS OF THIS SEAT. 13 by the template 'for every input the law returns true; each argument reads behind the call as it read before'; 0 by the template 'total and deterministic' (their statements: YtfdjfiabdgmlhaaTotals.lean).
  GIVEN WITH THE SEED: the statements are not yours to turn. If you find one false, say at which input.
  Laid BY PROGRAM, IN A SANDBOX (cutbox-rows.mjs): the forced cells as the released guide's own fill.sh prints them over the translation 15775ce8ebbb82d5… (all of the seat's roots in one cut). By AI agents, Wed Nov 11 2026. No macro, syntax, notation, axiom, sorry.
-/
import Derived.Test.YtfdjfiabdgmlhaaChecked
import GoSem.Claim
import GoSem.ClaimJoined
import GoSem.ClaimMapViews
import Derived.JoinedTies
import Derived.KernelRfl
namespace Go.Proofs.Ytfdjfiabdgmlhaa
/- THE CELL 'sum', in the pinned program and in every row, IS THE sha256 OF THE DUMP (.gsa) THAT YtfdjfiabdgmlhaaProg.lean LOADS. Nothing in Lean hashes anything: it is a label: what it is worth is what the hold of that sum in a sandbox is worth. -/
noncomputable def Try.pinned : Pinned := { name := "ytfdjfiabdgmlhaa", sum := "15775ce8ebbb82d5c2cfaa1c3eb3bc99951a1fa363401b1e7d4948691e67a270", checked := Try.checked }
namespace Rows
def none {H : Type} : Left H := { results := [], args := [] }

/-- 'laws.FnWhoMay': WHATEVER THE INPUT: true; the input reads as it did. -/
def fnWhoMaySpec : ChangeSpec := { name := "fnWhoMay", fn := fun _ => fun
  | [d] => { results := [.lit (.bool true)], args := [d] }
  | _ => none }
def fnWhoMayRow : OpenClaim := { program := "ytfdjfiabdgmlhaa", sum := "15775ce8ebbb82d5c2cfaa1c3eb3bc99951a1fa363401b1e7d4948691e67a270", func := "loop.example/accesspolicies/laws.FnWhoMay", spec := "fnWhoMay", unfollowed := true, recurses := true, apart := false }
def FnWhoMaySaid : Prop := fnWhoMayRow.holds Try.pinned (OpenSpec.ofChange fnWhoMaySpec)

/-- ITS FALSE NEIGHBOUR: 'it returns false'. Refute it at one input. -/
def fnWhoMayWrong : ChangeSpec := { name := "fnWhoMay", fn := fun _ => fun
  | [d] => { results := [.lit (.bool false)], args := [d] }
  | _ => none }
def FnWhoMayWrongFalsely : Prop := fnWhoMayRow.holds Try.pinned (OpenSpec.ofChange fnWhoMayWrong)

/-- 'laws.FnDecide': WHATEVER THE INPUT: true; the input reads as it did. -/
def fnDecideSpec : ChangeSpec := { name := "fnDecide", fn := fun _ => fun
  | [d] => { results := [.lit (.bool true)], args := [d] }
  | _ => none }
def fnDecideRow : OpenClaim := { program := "ytfdjfiabdgmlhaa", sum := "15775ce8ebbb82d5c2cfaa1c3eb3bc99951a1fa363401b1e7d4948691e67a270", func := "loop.example/accesspolicies/laws.FnDecide", spec := "fnDecide", unfollowed := true, recurses := true, apart := false }
def FnDecideSaid : Prop := fnDecideRow.holds Try.pinned (OpenSpec.ofChange fnDecideSpec)

/-- ITS FALSE NEIGHBOUR: 'it returns false'. Refute it at one input. -/
def fnDecideWrong : ChangeSpec := { name := "fnDecide", fn := fun _ => fun
  | [d] => { results := [.lit (.bool false)], args := [d] }
  | _ => none }
def FnDecideWrongFalsely : Prop := fnDecideRow.holds Try.pinned (OpenSpec.ofChange fnDecideWrong)

/-- 'laws.FnOrderFree': WHATEVER THE INPUT: true; the input reads as it did. -/
def fnOrderFreeSpec : ChangeSpec := { name := "fnOrderFree", fn := fun _ => fun
  | [d] => { results := [.lit (.bool true)], args := [d] }
  | _ => none }
def fnOrderFreeRow : OpenClaim := { program := "ytfdjfiabdgmlhaa", sum := "15775ce8ebbb82d5c2cfaa1c3eb3bc99951a1fa363401b1e7d4948691e67a270", func := "loop.example/accesspolicies/laws.FnOrderFree", spec := "fnOrderFree", unfollowed := true, recurses := true, apart := false }
def FnOrderFreeSaid : Prop := fnOrderFreeRow.holds Try.pinned (OpenSpec.ofChange fnOrderFreeSpec)

/-- ITS FALSE NEIGHBOUR: 'it returns false'. Refute it at one input. -/
def fnOrderFreeWrong : ChangeSpec := { name := "fnOrderFree", fn := fun _ => fun
  | [d] => { results := [.lit (.bool false)], args := [d] }
  | _ => none }
def FnOrderFreeWrongFalsely : Prop := fnOrderFreeRow.holds Try.pinned (OpenSpec.ofChange fnOrderFreeWrong)

/-- 'laws.FnCountAllowed': WHATEVER THE INPUT: true; the input reads as it did. -/
def fnCountAllowedSpec : ChangeSpec := { name := "fnCountAllowed", fn := fun _ => fun
  | [d] => { results := [.lit (.bool true)], args := [d] }
  | _ => none }
def fnCountAllowedRow : OpenClaim := { program := "ytfdjfiabdgmlhaa", sum := "15775ce8ebbb82d5c2cfaa1c3eb3bc99951a1fa363401b1e7d4948691e67a270", func := "loop.example/accesspolicies/laws.FnCountAllowed", spec := "fnCountAllowed", unfollowed := true, recurses := true, apart := false }
def FnCountAllowedSaid : Prop := fnCountAllowedRow.holds Try.pinned (OpenSpec.ofChange fnCountAllowedSpec)

/-- ITS FALSE NEIGHBOUR: 'it returns false'. Refute it at one input. -/
def fnCountAllowedWrong : ChangeSpec := { name := "fnCountAllowed", fn := fun _ => fun
  | [d] => { results := [.lit (.bool false)], args := [d] }
  | _ => none }
def FnCountAllowedWrongFalsely : Prop := fnCountAllowedRow.holds Try.pinned (OpenSpec.ofChange fnCountAllowedWrong)

/-- 'laws.FnAllowMore': WHATEVER THE INPUT: true; the input reads as it did. -/
def fnAllowMoreSpec : ChangeSpec := { name := "fnAllowMore", fn := fun _ => fun
  | [d] => { results := [.lit (.bool true)], args := [d] }
  | _ => none }
def fnAllowMoreRow : OpenClaim := { program := "ytfdjfiabdgmlhaa", sum := "15775ce8ebbb82d5c2cfaa1c3eb3bc99951a1fa363401b1e7d4948691e67a270", func := "loop.example/accesspolicies/laws.FnAllowMore", spec := "fnAllowMore", unfollowed := true, recurses := true, apart := false }
def FnAllowMoreSaid : Prop := fnAllowMoreRow.holds Try.pinned (OpenSpec.ofChange fnAllowMoreSpec)

/-- ITS FALSE NEIGHBOUR: 'it returns false'. Refute it at one input. -/
def fnAllowMoreWrong : ChangeSpec := { name := "fnAllowMore", fn := fun _ => fun
  | [d] => { results := [.lit (.bool false)], args := [d] }
  | _ => none }
def FnAllowMoreWrongFalsely : Prop := fnAllowMoreRow.holds Try.pinned (OpenSpec.ofChange fnAllowMoreWrong)

/-- 'laws.FnFirstDifference': WHATEVER THE INPUT: true; the input reads as it did. -/
def fnFirstDifferenceSpec : ChangeSpec := { name := "fnFirstDifference", fn := fun _ => fun
  | [d] => { results := [.lit (.bool true)], args := [d] }
  | _ => none }
def fnFirstDifferenceRow : OpenClaim := { program := "ytfdjfiabdgmlhaa", sum := "15775ce8ebbb82d5c2cfaa1c3eb3bc99951a1fa363401b1e7d4948691e67a270", func := "loop.example/accesspolicies/laws.FnFirstDifference", spec := "fnFirstDifference", unfollowed := true, recurses := true, apart := false }
def FnFirstDifferenceSaid : Prop := fnFirstDifferenceRow.holds Try.pinned (OpenSpec.ofChange fnFirstDifferenceSpec)

/-- ITS FALSE NEIGHBOUR: 'it returns false'. Refute it at one input. -/
def fnFirstDifferenceWrong : ChangeSpec := { name := "fnFirstDifference", fn := fun _ => fun
  | [d] => { results := [.lit (.bool false)], args := [d] }
  | _ => none }
def FnFirstDifferenceWrongFalsely : Prop := fnFirstDifferenceRow.holds Try.pinned (OpenSpec.ofChange fnFirstDifferenceWrong)

/-- 'laws.FnAllowsMore': WHATEVER THE INPUT: true; the input reads as it did. -/
def fnAllowsMoreSpec : ChangeSpec := { name := "fnAllowsMore", fn := fun _ => fun
  | [d] => { results := [.lit (.bool true)], args := [d] }
  | _ => none }
def fnAllowsMoreRow : OpenClaim := { program := "ytfdjfiabdgmlhaa", sum := "15775ce8ebbb82d5c2cfaa1c3eb3bc99951a1fa363401b1e7d4948691e67a270", func := "loop.example/accesspolicies/laws.FnAllowsMore", spec := "fnAllowsMore", unfollowed := true, recurses := true, apart := false }
def FnAllowsMoreSaid : Prop := fnAllowsMoreRow.holds Try.pinned (OpenSpec.ofChange fnAllowsMoreSpec)

/-- ITS FALSE NEIGHBOUR: 'it returns false'. Refute it at one input. -/
def fnAllowsMoreWrong : ChangeSpec := { name := "fnAllowsMore", fn := fun _ => fun
  | [d] => { results := [.lit (.bool false)], args := [d] }
  | _ => none }
def FnAllowsMoreWrongFalsely : Prop := fnAllowsMoreRow.holds Try.pinned (OpenSpec.ofChange fnAllowsMoreWrong)

/-- 'laws.FnAccessTable': WHATEVER THE INPUT: true; the input reads as it did. -/
def fnAccessTableSpec : ChangeSpec := { name := "fnAccessTable", fn := fun _ => fun
  | [d] => { results := [.lit (.bool true)], args := [d] }
  | _ => none }
def fnAccessTableRow : OpenClaim := { program := "ytfdjfiabdgmlhaa", sum := "15775ce8ebbb82d5c2cfaa1c3eb3bc99951a1fa363401b1e7d4948691e67a270", func := "loop.example/accesspolicies/laws.FnAccessTable", spec := "fnAccessTable", unfollowed := true, recurses := true, apart := false }
def FnAccessTableSaid : Prop := fnAccessTableRow.holds Try.pinned (OpenSpec.ofChange fnAccessTableSpec)

/-- ITS FALSE NEIGHBOUR: 'it returns false'. Refute it at one input. -/
def fnAccessTableWrong : ChangeSpec := { name := "fnAccessTable", fn := fun _ => fun
  | [d] => { results := [.lit (.bool false)], args := [d] }
  | _ => none }
def FnAccessTableWrongFalsely : Prop := fnAccessTableRow.holds Try.pinned (OpenSpec.ofChange fnAccessTableWrong)

/-- 'laws.FnForbidMore': WHATEVER THE INPUT: true; the input reads as it did. -/
def fnForbidMoreSpec : ChangeSpec := { name := "fnForbidMore", fn := fun _ => fun
  | [d] => { results := [.lit (.bool true)], args := [d] }
  | _ => none }
def fnForbidMoreRow : OpenClaim := { program := "ytfdjfiabdgmlhaa", sum := "15775ce8ebbb82d5c2cfaa1c3eb3bc99951a1fa363401b1e7d4948691e67a270", func := "loop.example/accesspolicies/laws.FnForbidMore", spec := "fnForbidMore", unfollowed := true, recurses := true, apart := false }
def FnForbidMoreSaid : Prop := fnForbidMoreRow.holds Try.pinned (OpenSpec.ofChange fnForbidMoreSpec)

/-- ITS FALSE NEIGHBOUR: 'it returns false'. Refute it at one input. -/
def fnForbidMoreWrong : ChangeSpec := { name := "fnForbidMore", fn := fun _ => fun
  | [d] => { results := [.lit (.bool false)], args := [d] }
  | _ => none }
def FnForbidMoreWrongFalsely : Prop := fnForbidMoreRow.holds Try.pinned (OpenSpec.ofChange fnForbidMoreWrong)

/-- 'laws.FnGainedActs': WHATEVER THE INPUT: true; the input reads as it did. -/
def fnGainedActsSpec : ChangeSpec := { name := "fnGainedActs", fn := fun _ => fun
  | [d] => { results := [.lit (.bool true)], args := [d] }
  | _ => none }
def fnGainedActsRow : OpenClaim := { program := "ytfdjfiabdgmlhaa", sum := "15775ce8ebbb82d5c2cfaa1c3eb3bc99951a1fa363401b1e7d4948691e67a270", func := "loop.example/accesspolicies/laws.FnGainedActs", spec := "fnGainedActs", unfollowed := true, recurses := true, apart := false }
def FnGainedActsSaid : Prop := fnGainedActsRow.holds Try.pinned (OpenSpec.ofChange fnGainedActsSpec)

/-- ITS FALSE NEIGHBOUR: 'it returns false'. Refute it at one input. -/
def fnGainedActsWrong : ChangeSpec := { name := "fnGainedActs", fn := fun _ => fun
  | [d] => { results := [.lit (.bool false)], args := [d] }
  | _ => none }
def FnGainedActsWrongFalsely : Prop := fnGainedActsRow.holds Try.pinned (OpenSpec.ofChange fnGainedActsWrong)

/-- 'laws.FnPartialDecision': WHATEVER THE INPUT: true; the input reads as it did. -/
def fnPartialDecisionSpec : ChangeSpec := { name := "fnPartialDecision", fn := fun _ => fun
  | [d1, d2] => { results := [.lit (.bool true)], args := [d1, d2] }
  | _ => none }
def fnPartialDecisionRow : OpenClaim := { program := "ytfdjfiabdgmlhaa", sum := "15775ce8ebbb82d5c2cfaa1c3eb3bc99951a1fa363401b1e7d4948691e67a270", func := "loop.example/accesspolicies/laws.FnPartialDecision", spec := "fnPartialDecision", unfollowed := true, recurses := true, apart := false }
def FnPartialDecisionSaid : Prop := fnPartialDecisionRow.holds Try.pinned (OpenSpec.ofChange fnPartialDecisionSpec)

/-- ITS FALSE NEIGHBOUR: 'it returns false'. Refute it at one input. -/
def fnPartialDecisionWrong : ChangeSpec := { name := "fnPartialDecision", fn := fun _ => fun
  | [d1, d2] => { results := [.lit (.bool false)], args := [d1, d2] }
  | _ => none }
def FnPartialDecisionWrongFalsely : Prop := fnPartialDecisionRow.holds Try.pinned (OpenSpec.ofChange fnPartialDecisionWrong)

/-- 'laws.FnShadowed': WHATEVER THE INPUT: true; the input reads as it did. -/
def fnShadowedSpec : ChangeSpec := { name := "fnShadowed", fn := fun _ => fun
  | [d] => { results := [.lit (.bool true)], args := [d] }
  | _ => none }
def fnShadowedRow : OpenClaim := { program := "ytfdjfiabdgmlhaa", sum := "15775ce8ebbb82d5c2cfaa1c3eb3bc99951a1fa363401b1e7d4948691e67a270", func := "loop.example/accesspolicies/laws.FnShadowed", spec := "fnShadowed", unfollowed := true, recurses := true, apart := false }
def FnShadowedSaid : Prop := fnShadowedRow.holds Try.pinned (OpenSpec.ofChange fnShadowedSpec)

/-- ITS FALSE NEIGHBOUR: 'it returns false'. Refute it at one input. -/
def fnShadowedWrong : ChangeSpec := { name := "fnShadowed", fn := fun _ => fun
  | [d] => { results := [.lit (.bool false)], args := [d] }
  | _ => none }
def FnShadowedWrongFalsely : Prop := fnShadowedRow.holds Try.pinned (OpenSpec.ofChange fnShadowedWrong)

/-- 'laws.FnFewerPolicies': WHATEVER THE INPUT: true; the input reads as it did. -/
def fnFewerPoliciesSpec : ChangeSpec := { name := "fnFewerPolicies", fn := fun _ => fun
  | [d] => { results := [.lit (.bool true)], args := [d] }
  | _ => none }
def fnFewerPoliciesRow : OpenClaim := { program := "ytfdjfiabdgmlhaa", sum := "15775ce8ebbb82d5c2cfaa1c3eb3bc99951a1fa363401b1e7d4948691e67a270", func := "loop.example/accesspolicies/laws.FnFewerPolicies", spec := "fnFewerPolicies", unfollowed := true, recurses := true, apart := false }
def FnFewerPoliciesSaid : Prop := fnFewerPoliciesRow.holds Try.pinned (OpenSpec.ofChange fnFewerPoliciesSpec)

/-- ITS FALSE NEIGHBOUR: 'it returns false'. Refute it at one input. -/
def fnFewerPoliciesWrong : ChangeSpec := { name := "fnFewerPolicies", fn := fun _ => fun
  | [d] => { results := [.lit (.bool false)], args := [d] }
  | _ => none }
def FnFewerPoliciesWrongFalsely : Prop := fnFewerPoliciesRow.holds Try.pinned (OpenSpec.ofChange fnFewerPoliciesWrong)

/- THE SECOND FORM. 'bulk': how many values and letters a reading holds, each counted each time it is reached (what is shared counts as often as it is met; a slice's spare places count too). A statement '..UptoSaid' is the law's where the arguments, and the package variables that the reading takes, are together of bulk at most 1048576: NARROWER than '..Said'. Prove '..Said' where nothing that the law and all that it calls make is longer than what came in: it says more and counts as full. Else prove '..UptoSaid'. A law counts once. -/
mutual
def uptoBulk {H : Type} : DataW H → Nat
  | .lit (.string bytes) => bytes.length + 1
  | .lit _ => 1
  | .nil => 1
  | .ptr d => uptoBulk d + 1
  | .slice elems spare => uptoBulkAll elems + uptoBulkAll spare + 1
  | .agg parts => uptoBulkAll parts + 1
  | .iface _ d => uptoBulk d + 1
  | .map entries => uptoBulkEntries entries + 1
  | .held _ => 1
def uptoBulkAll {H : Type} : List (DataW H) → Nat
  | [] => 0
  | d :: r => uptoBulk d + uptoBulkAll r
def uptoBulkEntries {H : Type} : List (Lit × DataW H) → Nat
  | [] => 0
  | x :: r => uptoBulkEntry x + uptoBulkEntries r
def uptoBulkEntry {H : Type} : Lit × DataW H → Nat
  | (.string bytes, d) => bytes.length + uptoBulk d + 1
  | (_, d) => uptoBulk d + 1
 end
def uptoSmall : (H : Type) → List (DataW H) → Bool := fun _ ds => decide (uptoBulkAll ds ≤ 1048576)
def OpenSpec.upto (s : _root_.Go.ChangeSpec) : _root_.Go.OpenSpec := { _root_.Go.OpenSpec.ofChange s with cond := some uptoSmall }

/-- 'laws.FnWhoMay', WHERE WHAT IT READS IS OF BULK AT MOST 1048576: true; the input reads as it did. -/
def fnWhoMayUptoRow : OpenClaim := { program := "ytfdjfiabdgmlhaa", sum := "15775ce8ebbb82d5c2cfaa1c3eb3bc99951a1fa363401b1e7d4948691e67a270", func := "loop.example/accesspolicies/laws.FnWhoMay", spec := "fnWhoMay", unfollowed := true, recurses := true, apart := false, narrowed := true }
def FnWhoMayUptoSaid : Prop := fnWhoMayUptoRow.holds Try.pinned (OpenSpec.upto fnWhoMaySpec)

/-- 'laws.FnDecide', WHERE WHAT IT READS IS OF BULK AT MOST 1048576: true; the input reads as it did. -/
def fnDecideUptoRow : OpenClaim := { program := "ytfdjfiabdgmlhaa", sum := "15775ce8ebbb82d5c2cfaa1c3eb3bc99951a1fa363401b1e7d4948691e67a270", func := "loop.example/accesspolicies/laws.FnDecide", spec := "fnDecide", unfollowed := true, recurses := true, apart := false, narrowed := true }
def FnDecideUptoSaid : Prop := fnDecideUptoRow.holds Try.pinned (OpenSpec.upto fnDecideSpec)

/-- 'laws.FnOrderFree', WHERE WHAT IT READS IS OF BULK AT MOST 1048576: true; the input reads as it did. -/
def fnOrderFreeUptoRow : OpenClaim := { program := "ytfdjfiabdgmlhaa", sum := "15775ce8ebbb82d5c2cfaa1c3eb3bc99951a1fa363401b1e7d4948691e67a270", func := "loop.example/accesspolicies/laws.FnOrderFree", spec := "fnOrderFree", unfollowed := true, recurses := true, apart := false, narrowed := true }
def FnOrderFreeUptoSaid : Prop := fnOrderFreeUptoRow.holds Try.pinned (OpenSpec.upto fnOrderFreeSpec)

/-- 'laws.FnCountAllowed', WHERE WHAT IT READS IS OF BULK AT MOST 1048576: true; the input reads as it did. -/
def fnCountAllowedUptoRow : OpenClaim := { program := "ytfdjfiabdgmlhaa", sum := "15775ce8ebbb82d5c2cfaa1c3eb3bc99951a1fa363401b1e7d4948691e67a270", func := "loop.example/accesspolicies/laws.FnCountAllowed", spec := "fnCountAllowed", unfollowed := true, recurses := true, apart := false, narrowed := true }
def FnCountAllowedUptoSaid : Prop := fnCountAllowedUptoRow.holds Try.pinned (OpenSpec.upto fnCountAllowedSpec)

/-- 'laws.FnAllowMore', WHERE WHAT IT READS IS OF BULK AT MOST 1048576: true; the input reads as it did. -/
def fnAllowMoreUptoRow : OpenClaim := { program := "ytfdjfiabdgmlhaa", sum := "15775ce8ebbb82d5c2cfaa1c3eb3bc99951a1fa363401b1e7d4948691e67a270", func := "loop.example/accesspolicies/laws.FnAllowMore", spec := "fnAllowMore", unfollowed := true, recurses := true, apart := false, narrowed := true }
def FnAllowMoreUptoSaid : Prop := fnAllowMoreUptoRow.holds Try.pinned (OpenSpec.upto fnAllowMoreSpec)

/-- 'laws.FnFirstDifference', WHERE WHAT IT READS IS OF BULK AT MOST 1048576: true; the input reads as it did. -/
def fnFirstDifferenceUptoRow : OpenClaim := { program := "ytfdjfiabdgmlhaa", sum := "15775ce8ebbb82d5c2cfaa1c3eb3bc99951a1fa363401b1e7d4948691e67a270", func := "loop.example/accesspolicies/laws.FnFirstDifference", spec := "fnFirstDifference", unfollowed := true, recurses := true, apart := false, narrowed := true }
def FnFirstDifferenceUptoSaid : Prop := fnFirstDifferenceUptoRow.holds Try.pinned (OpenSpec.upto fnFirstDifferenceSpec)

/-- 'laws.FnAllowsMore', WHERE WHAT IT READS IS OF BULK AT MOST 1048576: true; the input reads as it did. -/
def fnAllowsMoreUptoRow : OpenClaim := { program := "ytfdjfiabdgmlhaa", sum := "15775ce8ebbb82d5c2cfaa1c3eb3bc99951a1fa363401b1e7d4948691e67a270", func := "loop.example/accesspolicies/laws.FnAllowsMore", spec := "fnAllowsMore", unfollowed := true, recurses := true, apart := false, narrowed := true }
def FnAllowsMoreUptoSaid : Prop := fnAllowsMoreUptoRow.holds Try.pinned (OpenSpec.upto fnAllowsMoreSpec)

/-- 'laws.FnAccessTable', WHERE WHAT IT READS IS OF BULK AT MOST 1048576: true; the input reads as it did. -/
def fnAccessTableUptoRow : OpenClaim := { program := "ytfdjfiabdgmlhaa", sum := "15775ce8ebbb82d5c2cfaa1c3eb3bc99951a1fa363401b1e7d4948691e67a270", func := "loop.example/accesspolicies/laws.FnAccessTable", spec := "fnAccessTable", unfollowed := true, recurses := true, apart := false, narrowed := true }
def FnAccessTableUptoSaid : Prop := fnAccessTableUptoRow.holds Try.pinned (OpenSpec.upto fnAccessTableSpec)

/-- 'laws.FnForbidMore', WHERE WHAT IT READS IS OF BULK AT MOST 1048576: true; the input reads as it did. -/
def fnForbidMoreUptoRow : OpenClaim := { program := "ytfdjfiabdgmlhaa", sum := "15775ce8ebbb82d5c2cfaa1c3eb3bc99951a1fa363401b1e7d4948691e67a270", func := "loop.example/accesspolicies/laws.FnForbidMore", spec := "fnForbidMore", unfollowed := true, recurses := true, apart := false, narrowed := true }
def FnForbidMoreUptoSaid : Prop := fnForbidMoreUptoRow.holds Try.pinned (OpenSpec.upto fnForbidMoreSpec)

/-- 'laws.FnGainedActs', WHERE WHAT IT READS IS OF BULK AT MOST 1048576: true; the input reads as it did. -/
def fnGainedActsUptoRow : OpenClaim := { program := "ytfdjfiabdgmlhaa", sum := "15775ce8ebbb82d5c2cfaa1c3eb3bc99951a1fa363401b1e7d4948691e67a270", func := "loop.example/accesspolicies/laws.FnGainedActs", spec := "fnGainedActs", unfollowed := true, recurses := true, apart := false, narrowed := true }
def FnGainedActsUptoSaid : Prop := fnGainedActsUptoRow.holds Try.pinned (OpenSpec.upto fnGainedActsSpec)

/-- 'laws.FnPartialDecision', WHERE WHAT IT READS IS OF BULK AT MOST 1048576: true; the input reads as it did. -/
def fnPartialDecisionUptoRow : OpenClaim := { program := "ytfdjfiabdgmlhaa", sum := "15775ce8ebbb82d5c2cfaa1c3eb3bc99951a1fa363401b1e7d4948691e67a270", func := "loop.example/accesspolicies/laws.FnPartialDecision", spec := "fnPartialDecision", unfollowed := true, recurses := true, apart := false, narrowed := true }
def FnPartialDecisionUptoSaid : Prop := fnPartialDecisionUptoRow.holds Try.pinned (OpenSpec.upto fnPartialDecisionSpec)

/-- 'laws.FnShadowed', WHERE WHAT IT READS IS OF BULK AT MOST 1048576: true; the input reads as it did. -/
def fnShadowedUptoRow : OpenClaim := { program := "ytfdjfiabdgmlhaa", sum := "15775ce8ebbb82d5c2cfaa1c3eb3bc99951a1fa363401b1e7d4948691e67a270", func := "loop.example/accesspolicies/laws.FnShadowed", spec := "fnShadowed", unfollowed := true, recurses := true, apart := false, narrowed := true }
def FnShadowedUptoSaid : Prop := fnShadowedUptoRow.holds Try.pinned (OpenSpec.upto fnShadowedSpec)

/-- 'laws.FnFewerPolicies', WHERE WHAT IT READS IS OF BULK AT MOST 1048576: true; the input reads as it did. -/
def fnFewerPoliciesUptoRow : OpenClaim := { program := "ytfdjfiabdgmlhaa", sum := "15775ce8ebbb82d5c2cfaa1c3eb3bc99951a1fa363401b1e7d4948691e67a270", func := "loop.example/accesspolicies/laws.FnFewerPolicies", spec := "fnFewerPolicies", unfollowed := true, recurses := true, apart := false, narrowed := true }
def FnFewerPoliciesUptoSaid : Prop := fnFewerPoliciesUptoRow.holds Try.pinned (OpenSpec.upto fnFewerPoliciesSpec)

end Rows
end Go.Proofs.Ytfdjfiabdgmlhaa
