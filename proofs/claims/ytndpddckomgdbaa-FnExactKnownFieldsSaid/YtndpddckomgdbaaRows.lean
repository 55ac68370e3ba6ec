/-
  NARROWER THAN 'FOR EVERY INPUT', by the rows' own cells (each row's printed sentence says how): FnExactSamePolicy: loops · FnExactOpenPolicy: loops · FnExactLinkPolicy: loops · FnExactPushed: loops.
  DERIVED. THE GIVEN ROWS OF THIS SEAT. 10 by the template 'for every input the law returns true; each argument reads behind the call as it read before'; 0 by the template 'total and deterministic' (their statements: YtndpddckomgdbaaTotals.lean).
  GIVEN WITH THE SEED: the statements are not yours to turn. If you find one false, say at which input.
  Laid BY PROGRAM, IN A SANDBOX (cutbox-rows.mjs): the forced cells as the released guide's own fill.sh prints them over the translation b4aab8cac74e73f9… (all of the seat's roots in one cut). By AI agents, Wed Nov 11 2026. No macro, syntax, notation, axiom, sorry.
-/
import Derived.Test.YtndpddckomgdbaaChecked
import GoSem.Claim
import GoSem.ClaimJoined
import GoSem.ClaimMapViews
import Derived.JoinedTies
import Derived.KernelRfl
namespace Go.Proofs.Ytndpddckomgdbaa
/- THE CELL 'sum', in the pinned program and in every row, IS THE sha256 OF THE DUMP (.gsa) THAT YtndpddckomgdbaaProg.lean LOADS. Nothing in Lean hashes anything: it is a label: what it is worth is what the hold of that sum in a sandbox is worth. -/
noncomputable def Try.pinned : Pinned := { name := "ytndpddckomgdbaa", sum := "b4aab8cac74e73f90dc421466d1cde4cc2c2e581bdddade46a4177e1681b8ee0", checked := Try.checked }
namespace Rows
def none {H : Type} : Left H := { results := [], args := [] }

/-- 'laws.FnSamePolicy': WHATEVER THE INPUT: true; the input reads as it did. -/
def fnSamePolicySpec : ChangeSpec := { name := "fnSamePolicy", fn := fun _ => fun
  | [d] => { results := [.lit (.bool true)], args := [d] }
  | _ => none }
def fnSamePolicyRow : OpenClaim := { program := "ytndpddckomgdbaa", sum := "b4aab8cac74e73f90dc421466d1cde4cc2c2e581bdddade46a4177e1681b8ee0", func := "loop.example/accesspolicies/laws.FnSamePolicy", spec := "fnSamePolicy", recurses := true, apart := false }
def FnSamePolicySaid : Prop := fnSamePolicyRow.holds Try.pinned (OpenSpec.ofChange fnSamePolicySpec)

/-- ITS FALSE NEIGHBOUR: 'it returns false'. Refute it at one input. -/
def fnSamePolicyWrong : ChangeSpec := { name := "fnSamePolicy", fn := fun _ => fun
  | [d] => { results := [.lit (.bool false)], args := [d] }
  | _ => none }
def FnSamePolicyWrongFalsely : Prop := fnSamePolicyRow.holds Try.pinned (OpenSpec.ofChange fnSamePolicyWrong)

/-- 'laws.FnExactSamePolicy': WHATEVER THE INPUT: true; the input reads as it did. -/
def fnExactSamePolicySpec : ChangeSpec := { name := "fnExactSamePolicy", fn := fun _ => fun
  | [d1, d2] => { results := [.lit (.bool true)], args := [d1, d2] }
  | _ => none }
def fnExactSamePolicyRow : OpenClaim := { program := "ytndpddckomgdbaa", sum := "b4aab8cac74e73f90dc421466d1cde4cc2c2e581bdddade46a4177e1681b8ee0", func := "loop.example/accesspolicies/laws.FnExactSamePolicy", spec := "fnExactSamePolicy", recurses := true, loops := true, apart := false }
def FnExactSamePolicySaid : Prop := fnExactSamePolicyRow.holds Try.pinned (OpenSpec.ofChange fnExactSamePolicySpec)

/-- ITS FALSE NEIGHBOUR: 'it returns false'. Refute it at one input. -/
def fnExactSamePolicyWrong : ChangeSpec := { name := "fnExactSamePolicy", fn := fun _ => fun
  | [d1, d2] => { results := [.lit (.bool false)], args := [d1, d2] }
  | _ => none }
def FnExactSamePolicyWrongFalsely : Prop := fnExactSamePolicyRow.holds Try.pinned (OpenSpec.ofChange fnExactSamePolicyWrong)

/-- 'laws.FnLinkPolicy': WHATEVER THE INPUT: true; the input reads as it did. -/
def fnLinkPolicySpec : ChangeSpec := { name := "fnLinkPolicy", fn := fun _ => fun
  | [d] => { results := [.lit (.bool true)], args := [d] }
  | _ => none }
def fnLinkPolicyRow : OpenClaim := { program := "ytndpddckomgdbaa", sum := "b4aab8cac74e73f90dc421466d1cde4cc2c2e581bdddade46a4177e1681b8ee0", func := "loop.example/accesspolicies/laws.FnLinkPolicy", spec := "fnLinkPolicy", unfollowed := true, recurses := true, apart := false }
def FnLinkPolicySaid : Prop := fnLinkPolicyRow.holds Try.pinned (OpenSpec.ofChange fnLinkPolicySpec)

/-- ITS FALSE NEIGHBOUR: 'it returns false'. Refute it at one input. -/
def fnLinkPolicyWrong : ChangeSpec := { name := "fnLinkPolicy", fn := fun _ => fun
  | [d] => { results := [.lit (.bool false)], args := [d] }
  | _ => none }
def FnLinkPolicyWrongFalsely : Prop := fnLinkPolicyRow.holds Try.pinned (OpenSpec.ofChange fnLinkPolicyWrong)

/-- 'laws.FnOpenPolicy': WHATEVER THE INPUT: true; the input reads as it did. -/
def fnOpenPolicySpec : ChangeSpec := { name := "fnOpenPolicy", fn := fun _ => fun
  | [d] => { results := [.lit (.bool true)], args := [d] }
  | _ => none }
def fnOpenPolicyRow : OpenClaim := { program := "ytndpddckomgdbaa", sum := "b4aab8cac74e73f90dc421466d1cde4cc2c2e581bdddade46a4177e1681b8ee0", func := "loop.example/accesspolicies/laws.FnOpenPolicy", spec := "fnOpenPolicy", unfollowed := true, recurses := true, apart := false }
def FnOpenPolicySaid : Prop := fnOpenPolicyRow.holds Try.pinned (OpenSpec.ofChange fnOpenPolicySpec)

/-- ITS FALSE NEIGHBOUR: 'it returns false'. Refute it at one input. -/
def fnOpenPolicyWrong : ChangeSpec := { name := "fnOpenPolicy", fn := fun _ => fun
  | [d] => { results := [.lit (.bool false)], args := [d] }
  | _ => none }
def FnOpenPolicyWrongFalsely : Prop := fnOpenPolicyRow.holds Try.pinned (OpenSpec.ofChange fnOpenPolicyWrong)

/-- 'laws.FnExactOpenPolicy': WHATEVER THE INPUT: true; the input reads as it did. -/
def fnExactOpenPolicySpec : ChangeSpec := { name := "fnExactOpenPolicy", fn := fun _ => fun
  | [d] => { results := [.lit (.bool true)], args := [d] }
  | _ => none }
def fnExactOpenPolicyRow : OpenClaim := { program := "ytndpddckomgdbaa", sum := "b4aab8cac74e73f90dc421466d1cde4cc2c2e581bdddade46a4177e1681b8ee0", func := "loop.example/accesspolicies/laws.FnExactOpenPolicy", spec := "fnExactOpenPolicy", unfollowed := true, recurses := true, loops := true, apart := false }
def FnExactOpenPolicySaid : Prop := fnExactOpenPolicyRow.holds Try.pinned (OpenSpec.ofChange fnExactOpenPolicySpec)

/-- ITS FALSE NEIGHBOUR: 'it returns false'. Refute it at one input. -/
def fnExactOpenPolicyWrong : ChangeSpec := { name := "fnExactOpenPolicy", fn := fun _ => fun
  | [d] => { results := [.lit (.bool false)], args := [d] }
  | _ => none }
def FnExactOpenPolicyWrongFalsely : Prop := fnExactOpenPolicyRow.holds Try.pinned (OpenSpec.ofChange fnExactOpenPolicyWrong)

/-- 'laws.FnExactLinkPolicy': WHATEVER THE INPUT: true; the input reads as it did. -/
def fnExactLinkPolicySpec : ChangeSpec := { name := "fnExactLinkPolicy", fn := fun _ => fun
  | [d1, d2, d3] => { results := [.lit (.bool true)], args := [d1, d2, d3] }
  | _ => none }
def fnExactLinkPolicyRow : OpenClaim := { program := "ytndpddckomgdbaa", sum := "b4aab8cac74e73f90dc421466d1cde4cc2c2e581bdddade46a4177e1681b8ee0", func := "loop.example/accesspolicies/laws.FnExactLinkPolicy", spec := "fnExactLinkPolicy", unfollowed := true, recurses := true, loops := true, apart := false }
def FnExactLinkPolicySaid : Prop := fnExactLinkPolicyRow.holds Try.pinned (OpenSpec.ofChange fnExactLinkPolicySpec)

/-- ITS FALSE NEIGHBOUR: 'it returns false'. Refute it at one input. -/
def fnExactLinkPolicyWrong : ChangeSpec := { name := "fnExactLinkPolicy", fn := fun _ => fun
  | [d1, d2, d3] => { results := [.lit (.bool false)], args := [d1, d2, d3] }
  | _ => none }
def FnExactLinkPolicyWrongFalsely : Prop := fnExactLinkPolicyRow.holds Try.pinned (OpenSpec.ofChange fnExactLinkPolicyWrong)

/-- 'laws.FnPushed': WHATEVER THE INPUT: true; the input reads as it did. -/
def fnPushedSpec : ChangeSpec := { name := "fnPushed", fn := fun _ => fun
  | [d] => { results := [.lit (.bool true)], args := [d] }
  | _ => none }
def fnPushedRow : OpenClaim := { program := "ytndpddckomgdbaa", sum := "b4aab8cac74e73f90dc421466d1cde4cc2c2e581bdddade46a4177e1681b8ee0", func := "loop.example/accesspolicies/laws.FnPushed", spec := "fnPushed", recurses := true, apart := false }
def FnPushedSaid : Prop := fnPushedRow.holds Try.pinned (OpenSpec.ofChange fnPushedSpec)

/-- ITS FALSE NEIGHBOUR: 'it returns false'. Refute it at one input. -/
def fnPushedWrong : ChangeSpec := { name := "fnPushed", fn := fun _ => fun
  | [d] => { results := [.lit (.bool false)], args := [d] }
  | _ => none }
def FnPushedWrongFalsely : Prop := fnPushedRow.holds Try.pinned (OpenSpec.ofChange fnPushedWrong)

/-- 'laws.FnExactPushed': WHATEVER THE INPUT: true; the input reads as it did. -/
def fnExactPushedSpec : ChangeSpec := { name := "fnExactPushed", fn := fun _ => fun
  | [d] => { results := [.lit (.bool true)], args := [d] }
  | _ => none }
def fnExactPushedRow : OpenClaim := { program := "ytndpddckomgdbaa", sum := "b4aab8cac74e73f90dc421466d1cde4cc2c2e581bdddade46a4177e1681b8ee0", func := "loop.example/accesspolicies/laws.FnExactPushed", spec := "fnExactPushed", recurses := true, loops := true, apart := false }
def FnExactPushedSaid : Prop := fnExactPushedRow.holds Try.pinned (OpenSpec.ofChange fnExactPushedSpec)

/-- ITS FALSE NEIGHBOUR: 'it returns false'. Refute it at one input. -/
def fnExactPushedWrong : ChangeSpec := { name := "fnExactPushed", fn := fun _ => fun
  | [d] => { results := [.lit (.bool false)], args := [d] }
  | _ => none }
def FnExactPushedWrongFalsely : Prop := fnExactPushedRow.holds Try.pinned (OpenSpec.ofChange fnExactPushedWrong)

/-- 'laws.FnKnownFields': WHATEVER THE INPUT: true; the input reads as it did. -/
def fnKnownFieldsSpec : ChangeSpec := { name := "fnKnownFields", fn := fun _ => fun
  | [d] => { results := [.lit (.bool true)], args := [d] }
  | _ => none }
def fnKnownFieldsRow : OpenClaim := { program := "ytndpddckomgdbaa", sum := "b4aab8cac74e73f90dc421466d1cde4cc2c2e581bdddade46a4177e1681b8ee0", func := "loop.example/accesspolicies/laws.FnKnownFields", spec := "fnKnownFields", apart := false }
def FnKnownFieldsSaid : Prop := fnKnownFieldsRow.holds Try.pinned (OpenSpec.ofChange fnKnownFieldsSpec)

/-- ITS FALSE NEIGHBOUR: 'it returns false'. Refute it at one input. -/
def fnKnownFieldsWrong : ChangeSpec := { name := "fnKnownFields", fn := fun _ => fun
  | [d] => { results := [.lit (.bool false)], args := [d] }
  | _ => none }
def FnKnownFieldsWrongFalsely : Prop := fnKnownFieldsRow.holds Try.pinned (OpenSpec.ofChange fnKnownFieldsWrong)

/-- 'laws.FnExactKnownFields': WHATEVER THE INPUT: true; the input reads as it did. -/
def fnExactKnownFieldsSpec : ChangeSpec := { name := "fnExactKnownFields", fn := fun _ => fun
  | [d1, d2] => { results := [.lit (.bool true)], args := [d1, d2] }
  | _ => none }
def fnExactKnownFieldsRow : OpenClaim := { program := "ytndpddckomgdbaa", sum := "b4aab8cac74e73f90dc421466d1cde4cc2c2e581bdddade46a4177e1681b8ee0", func := "loop.example/accesspolicies/laws.FnExactKnownFields", spec := "fnExactKnownFields", apart := false }
def FnExactKnownFieldsSaid : Prop := fnExactKnownFieldsRow.holds Try.pinned (OpenSpec.ofChange fnExactKnownFieldsSpec)

/-- ITS FALSE NEIGHBOUR: 'it returns false'. Refute it at one input. -/
def fnExactKnownFieldsWrong : ChangeSpec := { name := "fnExactKnownFields", fn := fun _ => fun
  | [d1, d2] => { results := [.lit (.bool false)], args := [d1, d2] }
  | _ => none }
def FnExactKnownFieldsWrongFalsely : Prop := fnExactKnownFieldsRow.holds Try.pinned (OpenSpec.ofChange fnExactKnownFieldsWrong)

/- THE SECOND FORM. 'bulk': how many values and letters a reading holds, each counted each time it is reached (what is shared counts as often as it is met; a slice's spare places count too). A statement '..UptoSaid' is the law's where the arguments, and the package variables that the reading takes, are together of bulk at most 1048576: NARROWER than '..Said'. Prove '..Said' where nothing that the law and all that it calls make is longer than what came in: it says more and counts as full. Else prove '..UptoSaid'. A law counts once. -/
mutual
def uptoBulk {H : Type} : DataW H → Nat
  | .lit (.string bytes) => bytes.length + 1
  | .lit _ => 1
  | .nil => 1
  | .ptr d => uptoBulk d + 1
  | .slice elems spare => uptoBulkAll elems + uptoBulkAll spare + 1
  | .agg parts => uptoBulkAll parts + 1
  | .iface _ d => uptoBulk d + 1
  | .map entries => uptoBulkEntries entries + 1
  | .held _ => 1
def uptoBulkAll {H : Type} : List (DataW H) → Nat
  | [] => 0
  | d :: r => uptoBulk d + uptoBulkAll r
def uptoBulkEntries {H : Type} : List (Lit × DataW H) → Nat
  | [] => 0
  | x :: r => uptoBulkEntry x + uptoBulkEntries r
def uptoBulkEntry {H : Type} : Lit × DataW H → Nat
  | (.string bytes, d) => bytes.length + uptoBulk d + 1
  | (_, d) => uptoBulk d + 1
 end
def uptoSmall : (H : Type) → List (DataW H) → Bool := fun _ ds => decide (uptoBulkAll ds ≤ 1048576)
def OpenSpec.upto (s : _root_.Go.ChangeSpec) : _root_.Go.OpenSpec := { _root_.Go.OpenSpec.ofChange s with cond := some uptoSmall }

/-- 'laws.FnSamePolicy', WHERE WHAT IT READS IS OF BULK AT MOST 1048576: true; the input reads as it did. -/
def fnSamePolicyUptoRow : OpenClaim := { program := "ytndpddckomgdbaa", sum := "b4aab8cac74e73f90dc421466d1cde4cc2c2e581bdddade46a4177e1681b8ee0", func := "loop.example/accesspolicies/laws.FnSamePolicy", spec := "fnSamePolicy", recurses := true, apart := false, narrowed := true }
def FnSamePolicyUptoSaid : Prop := fnSamePolicyUptoRow.holds Try.pinned (OpenSpec.upto fnSamePolicySpec)

/-- 'laws.FnExactSamePolicy', WHERE WHAT IT READS IS OF BULK AT MOST 1048576: true; the input reads as it did. -/
def fnExactSamePolicyUptoRow : OpenClaim := { program := "ytndpddckomgdbaa", sum := "b4aab8cac74e73f90dc421466d1cde4cc2c2e581bdddade46a4177e1681b8ee0", func := "loop.example/accesspolicies/laws.FnExactSamePolicy", spec := "fnExactSamePolicy", recurses := true, loops := true, apart := false, narrowed := true }
def FnExactSamePolicyUptoSaid : Prop := fnExactSamePolicyUptoRow.holds Try.pinned (OpenSpec.upto fnExactSamePolicySpec)

/-- 'laws.FnLinkPolicy', WHERE WHAT IT READS IS OF BULK AT MOST 1048576: true; the input reads as it did. -/
def fnLinkPolicyUptoRow : OpenClaim := { program := "ytndpddckomgdbaa", sum := "b4aab8cac74e73f90dc421466d1cde4cc2c2e581bdddade46a4177e1681b8ee0", func := "loop.example/accesspolicies/laws.FnLinkPolicy", spec := "fnLinkPolicy", unfollowed := true, recurses := true, apart := false, narrowed := true }
def FnLinkPolicyUptoSaid : Prop := fnLinkPolicyUptoRow.holds Try.pinned (OpenSpec.upto fnLinkPolicySpec)

/-- 'laws.FnOpenPolicy', WHERE WHAT IT READS IS OF BULK AT MOST 1048576: true; the input reads as it did. -/
def fnOpenPolicyUptoRow : OpenClaim := { program := "ytndpddckomgdbaa", sum := "b4aab8cac74e73f90dc421466d1cde4cc2c2e581bdddade46a4177e1681b8ee0", func := "loop.example/accesspolicies/laws.FnOpenPolicy", spec := "fnOpenPolicy", unfollowed := true, recurses := true, apart := false, narrowed := true }
def FnOpenPolicyUptoSaid : Prop := fnOpenPolicyUptoRow.holds Try.pinned (OpenSpec.upto fnOpenPolicySpec)

/-- 'laws.FnExactOpenPolicy', WHERE WHAT IT READS IS OF BULK AT MOST 1048576: true; the input reads as it did. -/
def fnExactOpenPolicyUptoRow : OpenClaim := { program := "ytndpddckomgdbaa", sum := "b4aab8cac74e73f90dc421466d1cde4cc2c2e581bdddade46a4177e1681b8ee0", func := "loop.example/accesspolicies/laws.FnExactOpenPolicy", spec := "fnExactOpenPolicy", unfollowed := true, recurses := true, loops := true, apart := false, narrowed := true }
def FnExactOpenPolicyUptoSaid : Prop := fnExactOpenPolicyUptoRow.holds Try.pinned (OpenSpec.upto fnExactOpenPolicySpec)

/-- 'laws.FnExactLinkPolicy', WHERE WHAT IT READS IS OF BULK AT MOST 1048576: true; the input reads as it did. -/
def fnExactLinkPolicyUptoRow : OpenClaim := { program := "ytndpddckomgdbaa", sum := "b4aab8cac74e73f90dc421466d1cde4cc2c2e581bdddade46a4177e1681b8ee0", func := "loop.example/accesspolicies/laws.FnExactLinkPolicy", spec := "fnExactLinkPolicy", unfollowed := true, recurses := true, loops := true, apart := false, narrowed := true }
def FnExactLinkPolicyUptoSaid : Prop := fnExactLinkPolicyUptoRow.holds Try.pinned (OpenSpec.upto fnExactLinkPolicySpec)

/-- 'laws.FnPushed', WHERE WHAT IT READS IS OF BULK AT MOST 1048576: true; the input reads as it did. -/
def fnPushedUptoRow : OpenClaim := { program := "ytndpddckomgdbaa", sum := "b4aab8cac74e73f90dc421466d1cde4cc2c2e581bdddade46a4177e1681b8ee0", func := "loop.example/accesspolicies/laws.FnPushed", spec := "fnPushed", recurses := true, apart := false, narrowed := true }
def FnPushedUptoSaid : Prop := fnPushedUptoRow.holds Try.pinned (OpenSpec.upto fnPushedSpec)

/-- 'laws.FnExactPushed', WHERE WHAT IT READS IS OF BULK AT MOST 1048576: true; the input reads as it did. -/
def fnExactPushedUptoRow : OpenClaim := { program := "ytndpddckomgdbaa", sum := "b4aab8cac74e73f90dc421466d1cde4cc2c2e581bdddade46a4177e1681b8ee0", func := "loop.example/accesspolicies/laws.FnExactPushed", spec := "fnExactPushed", recurses := true, loops := true, apart := false, narrowed := true }
def FnExactPushedUptoSaid : Prop := fnExactPushedUptoRow.holds Try.pinned (OpenSpec.upto fnExactPushedSpec)

/-- 'laws.FnKnownFields', WHERE WHAT IT READS IS OF BULK AT MOST 1048576: true; the input reads as it did. -/
def fnKnownFieldsUptoRow : OpenClaim := { program := "ytndpddckomgdbaa", sum := "b4aab8cac74e73f90dc421466d1cde4cc2c2e581bdddade46a4177e1681b8ee0", func := "loop.example/accesspolicies/laws.FnKnownFields", spec := "fnKnownFields", apart := false, narrowed := true }
def FnKnownFieldsUptoSaid : Prop := fnKnownFieldsUptoRow.holds Try.pinned (OpenSpec.upto fnKnownFieldsSpec)

/-- 'laws.FnExactKnownFields', WHERE WHAT IT READS IS OF BULK AT MOST 1048576: true; the input reads as it did. -/
def fnExactKnownFieldsUptoRow : OpenClaim := { program := "ytndpddckomgdbaa", sum := "b4aab8cac74e73f90dc421466d1cde4cc2c2e581bdddade46a4177e1681b8ee0", func := "loop.example/accesspolicies/laws.FnExactKnownFields", spec := "fnExactKnownFields", apart := false, narrowed := true }
def FnExactKnownFieldsUptoSaid : Prop := fnExactKnownFieldsUptoRow.holds Try.pinned (OpenSpec.upto fnExactKnownFieldsSpec)

end Rows
end Go.Proofs.Ytndpddckomgdbaa
