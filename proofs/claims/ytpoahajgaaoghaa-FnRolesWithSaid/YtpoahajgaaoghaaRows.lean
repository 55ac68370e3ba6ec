/-
  No cell of these rows narrows 'for every input' (looked for: loops, veiled, ifaces, maps, wideKeys, modest, calm, conditions, laid).
  DERIVED. THE GIVEN ROWS OF THIS SEAT. 5 by the template 'for every input the law returns true; each argument reads behind the call as it read before'; 0 by the template 'total and deterministic' (their statements: YtpoahajgaaoghaaTotals.lean).
  GIVEN WITH THE SEED: the statements are not yours to turn. If you find one false, say at which input.
  Laid BY PROGRAM, IN A SANDBOX (cutbox-rows.mjs): the forced cells as the released guide's own fill.sh prints them over the translation 956d8da3f8f9ef04… (all of the seat's roots in one cut). By AI agents, Wed Nov 11 2026. No macro, syntax, notation, axiom, sorry.
-/
import Derived.Test.YtpoahajgaaoghaaChecked
import GoSem.Claim
import GoSem.ClaimJoined
import GoSem.ClaimMapViews
import Derived.JoinedTies
import Derived.KernelRfl
namespace Go.Proofs.Ytpoahajgaaoghaa
/- THE CELL 'sum', in the pinned program and in every row, IS THE sha256 OF THE DUMP (.gsa) THAT YtpoahajgaaoghaaProg.lean LOADS. Nothing in Lean hashes anything: it is a label: what it is worth is what the hold of that sum in a sandbox is worth. -/
noncomputable def Try.pinned : Pinned := { name := "ytpoahajgaaoghaa", sum := "956d8da3f8f9ef04f384f5a29a4e3487ee0ae1f209348ad98e2fd916ea19a542", checked := Try.checked }
namespace Rows
def none {H : Type} : Left H := { results := [], args := [] }

/-- 'laws.FnRolesValid': WHATEVER THE INPUT: true; the input reads as it did. -/
def fnRolesValidSpec : ChangeSpec := { name := "fnRolesValid", fn := fun _ => fun
  | [d] => { results := [.lit (.bool true)], args := [d] }
  | _ => none }
def fnRolesValidRow : OpenClaim := { program := "ytpoahajgaaoghaa", sum := "956d8da3f8f9ef04f384f5a29a4e3487ee0ae1f209348ad98e2fd916ea19a542", func := "loop.example/accesspolicies/laws.FnRolesValid", spec := "fnRolesValid", apart := false }
def FnRolesValidSaid : Prop := fnRolesValidRow.holds Try.pinned (OpenSpec.ofChange fnRolesValidSpec)

/-- ITS FALSE NEIGHBOUR: 'it returns false'. Refute it at one input. -/
def fnRolesValidWrong : ChangeSpec := { name := "fnRolesValid", fn := fun _ => fun
  | [d] => { results := [.lit (.bool false)], args := [d] }
  | _ => none }
def FnRolesValidWrongFalsely : Prop := fnRolesValidRow.holds Try.pinned (OpenSpec.ofChange fnRolesValidWrong)

/-- 'laws.FnExactRolesValid': WHATEVER THE INPUT: true; the input reads as it did. -/
def fnExactRolesValidSpec : ChangeSpec := { name := "fnExactRolesValid", fn := fun _ => fun
  | [d] => { results := [.lit (.bool true)], args := [d] }
  | _ => none }
def fnExactRolesValidRow : OpenClaim := { program := "ytpoahajgaaoghaa", sum := "956d8da3f8f9ef04f384f5a29a4e3487ee0ae1f209348ad98e2fd916ea19a542", func := "loop.example/accesspolicies/laws.FnExactRolesValid", spec := "fnExactRolesValid", apart := false }
def FnExactRolesValidSaid : Prop := fnExactRolesValidRow.holds Try.pinned (OpenSpec.ofChange fnExactRolesValidSpec)

/-- ITS FALSE NEIGHBOUR: 'it returns false'. Refute it at one input. -/
def fnExactRolesValidWrong : ChangeSpec := { name := "fnExactRolesValid", fn := fun _ => fun
  | [d] => { results := [.lit (.bool false)], args := [d] }
  | _ => none }
def FnExactRolesValidWrongFalsely : Prop := fnExactRolesValidRow.holds Try.pinned (OpenSpec.ofChange fnExactRolesValidWrong)

/-- 'laws.FnRoleCycle': WHATEVER THE INPUT: true; the input reads as it did. -/
def fnRoleCycleSpec : ChangeSpec := { name := "fnRoleCycle", fn := fun _ => fun
  | [d] => { results := [.lit (.bool true)], args := [d] }
  | _ => none }
def fnRoleCycleRow : OpenClaim := { program := "ytpoahajgaaoghaa", sum := "956d8da3f8f9ef04f384f5a29a4e3487ee0ae1f209348ad98e2fd916ea19a542", func := "loop.example/accesspolicies/laws.FnRoleCycle", spec := "fnRoleCycle", apart := false }
def FnRoleCycleSaid : Prop := fnRoleCycleRow.holds Try.pinned (OpenSpec.ofChange fnRoleCycleSpec)

/-- ITS FALSE NEIGHBOUR: 'it returns false'. Refute it at one input. -/
def fnRoleCycleWrong : ChangeSpec := { name := "fnRoleCycle", fn := fun _ => fun
  | [d] => { results := [.lit (.bool false)], args := [d] }
  | _ => none }
def FnRoleCycleWrongFalsely : Prop := fnRoleCycleRow.holds Try.pinned (OpenSpec.ofChange fnRoleCycleWrong)

/-- 'laws.FnExactRoleCycle': WHATEVER THE INPUT: true; the input reads as it did. -/
def fnExactRoleCycleSpec : ChangeSpec := { name := "fnExactRoleCycle", fn := fun _ => fun
  | [d] => { results := [.lit (.bool true)], args := [d] }
  | _ => none }
def fnExactRoleCycleRow : OpenClaim := { program := "ytpoahajgaaoghaa", sum := "956d8da3f8f9ef04f384f5a29a4e3487ee0ae1f209348ad98e2fd916ea19a542", func := "loop.example/accesspolicies/laws.FnExactRoleCycle", spec := "fnExactRoleCycle", apart := false }
def FnExactRoleCycleSaid : Prop := fnExactRoleCycleRow.holds Try.pinned (OpenSpec.ofChange fnExactRoleCycleSpec)

/-- ITS FALSE NEIGHBOUR: 'it returns false'. Refute it at one input. -/
def fnExactRoleCycleWrong : ChangeSpec := { name := "fnExactRoleCycle", fn := fun _ => fun
  | [d] => { results := [.lit (.bool false)], args := [d] }
  | _ => none }
def FnExactRoleCycleWrongFalsely : Prop := fnExactRoleCycleRow.holds Try.pinned (OpenSpec.ofChange fnExactRoleCycleWrong)

/-- 'laws.FnRolesWith': WHATEVER THE INPUT: true; the input reads as it did. -/
def fnRolesWithSpec : ChangeSpec := { name := "fnRolesWith", fn := fun _ => fun
  | [d] => { results := [.lit (.bool true)], args := [d] }
  | _ => none }
def fnRolesWithRow : OpenClaim := { program := "ytpoahajgaaoghaa", sum := "956d8da3f8f9ef04f384f5a29a4e3487ee0ae1f209348ad98e2fd916ea19a542", func := "loop.example/accesspolicies/laws.FnRolesWith", spec := "fnRolesWith", apart := false }
def FnRolesWithSaid : Prop := fnRolesWithRow.holds Try.pinned (OpenSpec.ofChange fnRolesWithSpec)

/-- ITS FALSE NEIGHBOUR: 'it returns false'. Refute it at one input. -/
def fnRolesWithWrong : ChangeSpec := { name := "fnRolesWith", fn := fun _ => fun
  | [d] => { results := [.lit (.bool false)], args := [d] }
  | _ => none }
def FnRolesWithWrongFalsely : Prop := fnRolesWithRow.holds Try.pinned (OpenSpec.ofChange fnRolesWithWrong)

/- THE SECOND FORM. 'bulk': how many values and letters a reading holds, each counted each time it is reached (what is shared counts as often as it is met; a slice's spare places count too). A statement '..UptoSaid' is the law's where the arguments, and the package variables that the reading takes, are together of bulk at most 1048576: NARROWER than '..Said'. Prove '..Said' where nothing that the law and all that it calls make is longer than what came in: it says more and counts as full. Else prove '..UptoSaid'. A law counts once. -/
mutual
def uptoBulk {H : Type} : DataW H → Nat
  | .lit (.string bytes) => bytes.length + 1
  | .lit _ => 1
  | .nil => 1
  | .ptr d => uptoBulk d + 1
  | .slice elems spare => uptoBulkAll elems + uptoBulkAll spare + 1
  | .agg parts => uptoBulkAll parts + 1
  | .iface _ d => uptoBulk d + 1
  | .map entries => uptoBulkEntries entries + 1
  | .held _ => 1
def uptoBulkAll {H : Type} : List (DataW H) → Nat
  | [] => 0
  | d :: r => uptoBulk d + uptoBulkAll r
def uptoBulkEntries {H : Type} : List (Lit × DataW H) → Nat
  | [] => 0
  | x :: r => uptoBulkEntry x + uptoBulkEntries r
def uptoBulkEntry {H : Type} : Lit × DataW H → Nat
  | (.string bytes, d) => bytes.length + uptoBulk d + 1
  | (_, d) => uptoBulk d + 1
 end
def uptoSmall : (H : Type) → List (DataW H) → Bool := fun _ ds => decide (uptoBulkAll ds ≤ 1048576)
def OpenSpec.upto (s : _root_.Go.ChangeSpec) : _root_.Go.OpenSpec := { _root_.Go.OpenSpec.ofChange s with cond := some uptoSmall }

/-- 'laws.FnRolesValid', WHERE WHAT IT READS IS OF BULK AT MOST 1048576: true; the input reads as it did. -/
def fnRolesValidUptoRow : OpenClaim := { program := "ytpoahajgaaoghaa", sum := "956d8da3f8f9ef04f384f5a29a4e3487ee0ae1f209348ad98e2fd916ea19a542", func := "loop.example/accesspolicies/laws.FnRolesValid", spec := "fnRolesValid", apart := false, narrowed := true }
def FnRolesValidUptoSaid : Prop := fnRolesValidUptoRow.holds Try.pinned (OpenSpec.upto fnRolesValidSpec)

/-- 'laws.FnExactRolesValid', WHERE WHAT IT READS IS OF BULK AT MOST 1048576: true; the input reads as it did. -/
def fnExactRolesValidUptoRow : OpenClaim := { program := "ytpoahajgaaoghaa", sum := "956d8da3f8f9ef04f384f5a29a4e3487ee0ae1f209348ad98e2fd916ea19a542", func := "loop.example/accesspolicies/laws.FnExactRolesValid", spec := "fnExactRolesValid", apart := false, narrowed := true }
def FnExactRolesValidUptoSaid : Prop := fnExactRolesValidUptoRow.holds Try.pinned (OpenSpec.upto fnExactRolesValidSpec)

/-- 'laws.FnRoleCycle', WHERE WHAT IT READS IS OF BULK AT MOST 1048576: true; the input reads as it did. -/
def fnRoleCycleUptoRow : OpenClaim := { program := "ytpoahajgaaoghaa", sum := "956d8da3f8f9ef04f384f5a29a4e3487ee0ae1f209348ad98e2fd916ea19a542", func := "loop.example/accesspolicies/laws.FnRoleCycle", spec := "fnRoleCycle", apart := false, narrowed := true }
def FnRoleCycleUptoSaid : Prop := fnRoleCycleUptoRow.holds Try.pinned (OpenSpec.upto fnRoleCycleSpec)

/-- 'laws.FnExactRoleCycle', WHERE WHAT IT READS IS OF BULK AT MOST 1048576: true; the input reads as it did. -/
def fnExactRoleCycleUptoRow : OpenClaim := { program := "ytpoahajgaaoghaa", sum := "956d8da3f8f9ef04f384f5a29a4e3487ee0ae1f209348ad98e2fd916ea19a542", func := "loop.example/accesspolicies/laws.FnExactRoleCycle", spec := "fnExactRoleCycle", apart := false, narrowed := true }
def FnExactRoleCycleUptoSaid : Prop := fnExactRoleCycleUptoRow.holds Try.pinned (OpenSpec.upto fnExactRoleCycleSpec)

/-- 'laws.FnRolesWith', WHERE WHAT IT READS IS OF BULK AT MOST 1048576: true; the input reads as it did. -/
def fnRolesWithUptoRow : OpenClaim := { program := "ytpoahajgaaoghaa", sum := "956d8da3f8f9ef04f384f5a29a4e3487ee0ae1f209348ad98e2fd916ea19a542", func := "loop.example/accesspolicies/laws.FnRolesWith", spec := "fnRolesWith", apart := false, narrowed := true }
def FnRolesWithUptoSaid : Prop := fnRolesWithUptoRow.holds Try.pinned (OpenSpec.upto fnRolesWithSpec)

end Rows
end Go.Proofs.Ytpoahajgaaoghaa
