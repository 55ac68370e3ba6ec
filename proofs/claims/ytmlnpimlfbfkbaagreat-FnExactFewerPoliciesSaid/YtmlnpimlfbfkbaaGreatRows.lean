/-
  NARROWER THAN 'FOR EVERY INPUT', by the rows' own cells (each row's printed sentence says how): FnExactPartialDecision: loops · FnExactDecide: loops · FnExactAccessTable: loops · FnExactFirstDifference: loops · FnExactShadowed: loops · FnExactGainedActs: loops · FnExactFewerPolicies: loops.
  DERIVED. THE GIVEN ROWS OF THIS SEAT. 7 by the template 'for every input the law returns true; each argument reads behind the call as it read before'; 0 by the template 'total and deterministic' (their statements: YtmlnpimlfbfkbaaGreatTotals.lean).
  GIVEN WITH THE SEED: the statements are not yours to turn. If you find one false, say at which input.
  Laid BY PROGRAM, IN A SANDBOX (cutbox-rows.mjs): the forced cells as the released guide's own fill.sh prints them over the translation a37ccc8e53691a17… (all of the seat's roots in one cut). By AI agents, Wed Nov 11 2026. No macro, syntax, notation, axiom, sorry.
-/
import Derived.Test.YtmlnpimlfbfkbaaGreatChecked
import GoSem.Claim
import GoSem.ClaimJoined
import GoSem.ClaimMapViews
import Derived.JoinedTies
import Derived.KernelRfl
namespace Go.Proofs.YtmlnpimlfbfkbaaGreat
/- THE CELL 'sum', in the pinned program and in every row, IS THE sha256 OF THE DUMP (.gsa) THAT YtmlnpimlfbfkbaaGreatProg.lean LOADS. Nothing in Lean hashes anything: it is a label: what it is worth is what the hold of that sum in a sandbox is worth. -/
noncomputable def Tryz.pinned : Pinned := { name := "ytmlnpimlfbfkbaagreat", sum := "a37ccc8e53691a171992a54785f2d4de8e47c08e0a0154cd137b274f81558a5e", checked := Tryz.checked }
namespace Rows
def none {H : Type} : Left H := { results := [], args := [] }

/-- 'laws.FnExactPartialDecision': WHATEVER THE INPUT: true; the input reads as it did. -/
def fnExactPartialDecisionSpec : ChangeSpec := { name := "fnExactPartialDecision", fn := fun _ => fun
  | [d1, d2, d3, d4] => { results := [.lit (.bool true)], args := [d1, d2, d3, d4] }
  | _ => none }
def fnExactPartialDecisionRow : OpenClaim := { program := "ytmlnpimlfbfkbaagreat", sum := "a37ccc8e53691a171992a54785f2d4de8e47c08e0a0154cd137b274f81558a5e", func := "loop.example/accesspolicies/laws.FnExactPartialDecision", spec := "fnExactPartialDecision", unfollowed := true, recurses := true, loops := true, apart := false }
def FnExactPartialDecisionSaid : Prop := fnExactPartialDecisionRow.holds Tryz.pinned (OpenSpec.ofChange fnExactPartialDecisionSpec)

/-- ITS FALSE NEIGHBOUR: 'it returns false'. Refute it at one input. -/
def fnExactPartialDecisionWrong : ChangeSpec := { name := "fnExactPartialDecision", fn := fun _ => fun
  | [d1, d2, d3, d4] => { results := [.lit (.bool false)], args := [d1, d2, d3, d4] }
  | _ => none }
def FnExactPartialDecisionWrongFalsely : Prop := fnExactPartialDecisionRow.holds Tryz.pinned (OpenSpec.ofChange fnExactPartialDecisionWrong)

/-- 'laws.FnExactDecide': WHATEVER THE INPUT: true; the input reads as it did. -/
def fnExactDecideSpec : ChangeSpec := { name := "fnExactDecide", fn := fun _ => fun
  | [d1, d2, d3] => { results := [.lit (.bool true)], args := [d1, d2, d3] }
  | _ => none }
def fnExactDecideRow : OpenClaim := { program := "ytmlnpimlfbfkbaagreat", sum := "a37ccc8e53691a171992a54785f2d4de8e47c08e0a0154cd137b274f81558a5e", func := "loop.example/accesspolicies/laws.FnExactDecide", spec := "fnExactDecide", unfollowed := true, recurses := true, loops := true, apart := false }
def FnExactDecideSaid : Prop := fnExactDecideRow.holds Tryz.pinned (OpenSpec.ofChange fnExactDecideSpec)

/-- ITS FALSE NEIGHBOUR: 'it returns false'. Refute it at one input. -/
def fnExactDecideWrong : ChangeSpec := { name := "fnExactDecide", fn := fun _ => fun
  | [d1, d2, d3] => { results := [.lit (.bool false)], args := [d1, d2, d3] }
  | _ => none }
def FnExactDecideWrongFalsely : Prop := fnExactDecideRow.holds Tryz.pinned (OpenSpec.ofChange fnExactDecideWrong)

/-- 'laws.FnExactAccessTable': WHATEVER THE INPUT: true; the input reads as it did. -/
def fnExactAccessTableSpec : ChangeSpec := { name := "fnExactAccessTable", fn := fun _ => fun
  | [d1, d2, d3] => { results := [.lit (.bool true)], args := [d1, d2, d3] }
  | _ => none }
def fnExactAccessTableRow : OpenClaim := { program := "ytmlnpimlfbfkbaagreat", sum := "a37ccc8e53691a171992a54785f2d4de8e47c08e0a0154cd137b274f81558a5e", func := "loop.example/accesspolicies/laws.FnExactAccessTable", spec := "fnExactAccessTable", unfollowed := true, recurses := true, loops := true, apart := false }
def FnExactAccessTableSaid : Prop := fnExactAccessTableRow.holds Tryz.pinned (OpenSpec.ofChange fnExactAccessTableSpec)

/-- ITS FALSE NEIGHBOUR: 'it returns false'. Refute it at one input. -/
def fnExactAccessTableWrong : ChangeSpec := { name := "fnExactAccessTable", fn := fun _ => fun
  | [d1, d2, d3] => { results := [.lit (.bool false)], args := [d1, d2, d3] }
  | _ => none }
def FnExactAccessTableWrongFalsely : Prop := fnExactAccessTableRow.holds Tryz.pinned (OpenSpec.ofChange fnExactAccessTableWrong)

/-- 'laws.FnExactFirstDifference': WHATEVER THE INPUT: true; the input reads as it did. -/
def fnExactFirstDifferenceSpec : ChangeSpec := { name := "fnExactFirstDifference", fn := fun _ => fun
  | [d1, d2, d3, d4] => { results := [.lit (.bool true)], args := [d1, d2, d3, d4] }
  | _ => none }
def fnExactFirstDifferenceRow : OpenClaim := { program := "ytmlnpimlfbfkbaagreat", sum := "a37ccc8e53691a171992a54785f2d4de8e47c08e0a0154cd137b274f81558a5e", func := "loop.example/accesspolicies/laws.FnExactFirstDifference", spec := "fnExactFirstDifference", unfollowed := true, recurses := true, loops := true, apart := false }
def FnExactFirstDifferenceSaid : Prop := fnExactFirstDifferenceRow.holds Tryz.pinned (OpenSpec.ofChange fnExactFirstDifferenceSpec)

/-- ITS FALSE NEIGHBOUR: 'it returns false'. Refute it at one input. -/
def fnExactFirstDifferenceWrong : ChangeSpec := { name := "fnExactFirstDifference", fn := fun _ => fun
  | [d1, d2, d3, d4] => { results := [.lit (.bool false)], args := [d1, d2, d3, d4] }
  | _ => none }
def FnExactFirstDifferenceWrongFalsely : Prop := fnExactFirstDifferenceRow.holds Tryz.pinned (OpenSpec.ofChange fnExactFirstDifferenceWrong)

/-- 'laws.FnExactShadowed': WHATEVER THE INPUT: true; the input reads as it did. -/
def fnExactShadowedSpec : ChangeSpec := { name := "fnExactShadowed", fn := fun _ => fun
  | [d1, d2, d3] => { results := [.lit (.bool true)], args := [d1, d2, d3] }
  | _ => none }
def fnExactShadowedRow : OpenClaim := { program := "ytmlnpimlfbfkbaagreat", sum := "a37ccc8e53691a171992a54785f2d4de8e47c08e0a0154cd137b274f81558a5e", func := "loop.example/accesspolicies/laws.FnExactShadowed", spec := "fnExactShadowed", unfollowed := true, recurses := true, loops := true, apart := false }
def FnExactShadowedSaid : Prop := fnExactShadowedRow.holds Tryz.pinned (OpenSpec.ofChange fnExactShadowedSpec)

/-- ITS FALSE NEIGHBOUR: 'it returns false'. Refute it at one input. -/
def fnExactShadowedWrong : ChangeSpec := { name := "fnExactShadowed", fn := fun _ => fun
  | [d1, d2, d3] => { results := [.lit (.bool false)], args := [d1, d2, d3] }
  | _ => none }
def FnExactShadowedWrongFalsely : Prop := fnExactShadowedRow.holds Tryz.pinned (OpenSpec.ofChange fnExactShadowedWrong)

/-- 'laws.FnExactGainedActs': WHATEVER THE INPUT: true; the input reads as it did. -/
def fnExactGainedActsSpec : ChangeSpec := { name := "fnExactGainedActs", fn := fun _ => fun
  | [d1, d2, d3, d4] => { results := [.lit (.bool true)], args := [d1, d2, d3, d4] }
  | _ => none }
def fnExactGainedActsRow : OpenClaim := { program := "ytmlnpimlfbfkbaagreat", sum := "a37ccc8e53691a171992a54785f2d4de8e47c08e0a0154cd137b274f81558a5e", func := "loop.example/accesspolicies/laws.FnExactGainedActs", spec := "fnExactGainedActs", unfollowed := true, recurses := true, loops := true, apart := false }
def FnExactGainedActsSaid : Prop := fnExactGainedActsRow.holds Tryz.pinned (OpenSpec.ofChange fnExactGainedActsSpec)

/-- ITS FALSE NEIGHBOUR: 'it returns false'. Refute it at one input. -/
def fnExactGainedActsWrong : ChangeSpec := { name := "fnExactGainedActs", fn := fun _ => fun
  | [d1, d2, d3, d4] => { results := [.lit (.bool false)], args := [d1, d2, d3, d4] }
  | _ => none }
def FnExactGainedActsWrongFalsely : Prop := fnExactGainedActsRow.holds Tryz.pinned (OpenSpec.ofChange fnExactGainedActsWrong)

/-- 'laws.FnExactFewerPolicies': WHATEVER THE INPUT: true; the input reads as it did. -/
def fnExactFewerPoliciesSpec : ChangeSpec := { name := "fnExactFewerPolicies", fn := fun _ => fun
  | [d1, d2, d3] => { results := [.lit (.bool true)], args := [d1, d2, d3] }
  | _ => none }
def fnExactFewerPoliciesRow : OpenClaim := { program := "ytmlnpimlfbfkbaagreat", sum := "a37ccc8e53691a171992a54785f2d4de8e47c08e0a0154cd137b274f81558a5e", func := "loop.example/accesspolicies/laws.FnExactFewerPolicies", spec := "fnExactFewerPolicies", unfollowed := true, recurses := true, loops := true, apart := false }
def FnExactFewerPoliciesSaid : Prop := fnExactFewerPoliciesRow.holds Tryz.pinned (OpenSpec.ofChange fnExactFewerPoliciesSpec)

/-- ITS FALSE NEIGHBOUR: 'it returns false'. Refute it at one input. -/
def fnExactFewerPoliciesWrong : ChangeSpec := { name := "fnExactFewerPolicies", fn := fun _ => fun
  | [d1, d2, d3] => { results := [.lit (.bool false)], args := [d1, d2, d3] }
  | _ => none }
def FnExactFewerPoliciesWrongFalsely : Prop := fnExactFewerPoliciesRow.holds Tryz.pinned (OpenSpec.ofChange fnExactFewerPoliciesWrong)

/- THE SECOND FORM. 'bulk': how many values and letters a reading holds, each counted each time it is reached (what is shared counts as often as it is met; a slice's spare places count too). A statement '..UptoSaid' is the law's where the arguments, and the package variables that the reading takes, are together of bulk at most 1048576: NARROWER than '..Said'. Prove '..Said' where nothing that the law and all that it calls make is longer than what came in: it says more and counts as full. Else prove '..UptoSaid'. A law counts once. -/
mutual
def uptoBulk {H : Type} : DataW H → Nat
  | .lit (.string bytes) => bytes.length + 1
  | .lit _ => 1
  | .nil => 1
  | .ptr d => uptoBulk d + 1
  | .slice elems spare => uptoBulkAll elems + uptoBulkAll spare + 1
  | .agg parts => uptoBulkAll parts + 1
  | .iface _ d => uptoBulk d + 1
  | .map entries => uptoBulkEntries entries + 1
  | .held _ => 1
def uptoBulkAll {H : Type} : List (DataW H) → Nat
  | [] => 0
  | d :: r => uptoBulk d + uptoBulkAll r
def uptoBulkEntries {H : Type} : List (Lit × DataW H) → Nat
  | [] => 0
  | x :: r => uptoBulkEntry x + uptoBulkEntries r
def uptoBulkEntry {H : Type} : Lit × DataW H → Nat
  | (.string bytes, d) => bytes.length + uptoBulk d + 1
  | (_, d) => uptoBulk d + 1
 end
def uptoSmall : (H : Type) → List (DataW H) → Bool := fun _ ds => decide (uptoBulkAll ds ≤ 1048576)
def OpenSpec.upto (s : _root_.Go.ChangeSpec) : _root_.Go.OpenSpec := { _root_.Go.OpenSpec.ofChange s with cond := some uptoSmall }

/-- 'laws.FnExactPartialDecision', WHERE WHAT IT READS IS OF BULK AT MOST 1048576: true; the input reads as it did. -/
def fnExactPartialDecisionUptoRow : OpenClaim := { program := "ytmlnpimlfbfkbaagreat", sum := "a37ccc8e53691a171992a54785f2d4de8e47c08e0a0154cd137b274f81558a5e", func := "loop.example/accesspolicies/laws.FnExactPartialDecision", spec := "fnExactPartialDecision", unfollowed := true, recurses := true, loops := true, apart := false, narrowed := true }
def FnExactPartialDecisionUptoSaid : Prop := fnExactPartialDecisionUptoRow.holds Tryz.pinned (OpenSpec.upto fnExactPartialDecisionSpec)

/-- 'laws.FnExactDecide', WHERE WHAT IT READS IS OF BULK AT MOST 1048576: true; the input reads as it did. -/
def fnExactDecideUptoRow : OpenClaim := { program := "ytmlnpimlfbfkbaagreat", sum := "a37ccc8e53691a171992a54785f2d4de8e47c08e0a0154cd137b274f81558a5e", func := "loop.example/accesspolicies/laws.FnExactDecide", spec := "fnExactDecide", unfollowed := true, recurses := true, loops := true, apart := false, narrowed := true }
def FnExactDecideUptoSaid : Prop := fnExactDecideUptoRow.holds Tryz.pinned (OpenSpec.upto fnExactDecideSpec)

/-- 'laws.FnExactAccessTable', WHERE WHAT IT READS IS OF BULK AT MOST 1048576: true; the input reads as it did. -/
def fnExactAccessTableUptoRow : OpenClaim := { program := "ytmlnpimlfbfkbaagreat", sum := "a37ccc8e53691a171992a54785f2d4de8e47c08e0a0154cd137b274f81558a5e", func := "loop.example/accesspolicies/laws.FnExactAccessTable", spec := "fnExactAccessTable", unfollowed := true, recurses := true, loops := true, apart := false, narrowed := true }
def FnExactAccessTableUptoSaid : Prop := fnExactAccessTableUptoRow.holds Tryz.pinned (OpenSpec.upto fnExactAccessTableSpec)

/-- 'laws.FnExactFirstDifference', WHERE WHAT IT READS IS OF BULK AT MOST 1048576: true; the input reads as it did. -/
def fnExactFirstDifferenceUptoRow : OpenClaim := { program := "ytmlnpimlfbfkbaagreat", sum := "a37ccc8e53691a171992a54785f2d4de8e47c08e0a0154cd137b274f81558a5e", func := "loop.example/accesspolicies/laws.FnExactFirstDifference", spec := "fnExactFirstDifference", unfollowed := true, recurses := true, loops := true, apart := false, narrowed := true }
def FnExactFirstDifferenceUptoSaid : Prop := fnExactFirstDifferenceUptoRow.holds Tryz.pinned (OpenSpec.upto fnExactFirstDifferenceSpec)

/-- 'laws.FnExactShadowed', WHERE WHAT IT READS IS OF BULK AT MOST 1048576: true; the input reads as it did. -/
def fnExactShadowedUptoRow : OpenClaim := { program := "ytmlnpimlfbfkbaagreat", sum := "a37ccc8e53691a171992a54785f2d4de8e47c08e0a0154cd137b274f81558a5e", func := "loop.example/accesspolicies/laws.FnExactShadowed", spec := "fnExactShadowed", unfollowed := true, recurses := true, loops := true, apart := false, narrowed := true }
def FnExactShadowedUptoSaid : Prop := fnExactShadowedUptoRow.holds Tryz.pinned (OpenSpec.upto fnExactShadowedSpec)

/-- 'laws.FnExactGainedActs', WHERE WHAT IT READS IS OF BULK AT MOST 1048576: true; the input reads as it did. -/
def fnExactGainedActsUptoRow : OpenClaim := { program := "ytmlnpimlfbfkbaagreat", sum := "a37ccc8e53691a171992a54785f2d4de8e47c08e0a0154cd137b274f81558a5e", func := "loop.example/accesspolicies/laws.FnExactGainedActs", spec := "fnExactGainedActs", unfollowed := true, recurses := true, loops := true, apart := false, narrowed := true }
def FnExactGainedActsUptoSaid : Prop := fnExactGainedActsUptoRow.holds Tryz.pinned (OpenSpec.upto fnExactGainedActsSpec)

/-- 'laws.FnExactFewerPolicies', WHERE WHAT IT READS IS OF BULK AT MOST 1048576: true; the input reads as it did. -/
def fnExactFewerPoliciesUptoRow : OpenClaim := { program := "ytmlnpimlfbfkbaagreat", sum := "a37ccc8e53691a171992a54785f2d4de8e47c08e0a0154cd137b274f81558a5e", func := "loop.example/accesspolicies/laws.FnExactFewerPolicies", spec := "fnExactFewerPolicies", unfollowed := true, recurses := true, loops := true, apart := false, narrowed := true }
def FnExactFewerPoliciesUptoSaid : Prop := fnExactFewerPoliciesUptoRow.holds Tryz.pinned (OpenSpec.upto fnExactFewerPoliciesSpec)

end Rows
end Go.Proofs.YtmlnpimlfbfkbaaGreat
