/-
  NARROWER THAN 'FOR EVERY INPUT', by the rows' own cells (each row's printed sentence says how): FnExactDeskValid: loops · FnExactPushNot: loops.
  DERIVED. THE GIVEN ROWS OF THIS SEAT. 8 by the template 'for every input the law returns true; each argument reads behind the call as it read before'; 0 by the template 'total and deterministic' (their statements: YtdfbaedkcfhdfaaTotals.lean).
  GIVEN WITH THE SEED: the statements are not yours to turn. If you find one false, say at which input.
  Laid BY PROGRAM, IN A SANDBOX (cutbox-rows.mjs): the forced cells as the released guide's own fill.sh prints them over the translation 60fcb3bf3875365d… (all of the seat's roots in one cut). By AI agents, Wed Nov 11 2026. No macro, syntax, notation, axiom, sorry.
-/
import Derived.Test.YtdfbaedkcfhdfaaChecked
import GoSem.Claim
import GoSem.ClaimJoined
import GoSem.ClaimMapViews
import Derived.JoinedTies
import Derived.KernelRfl
namespace Go.Proofs.Ytdfbaedkcfhdfaa
/- THE CELL 'sum', in the pinned program and in every row, IS THE sha256 OF THE DUMP (.gsa) THAT YtdfbaedkcfhdfaaProg.lean LOADS. Nothing in Lean hashes anything: it is a label: what it is worth is what the hold of that sum in a sandbox is worth. -/
noncomputable def Try.pinned : Pinned := { name := "ytdfbaedkcfhdfaa", sum := "60fcb3bf3875365d424255bf252c1164fabe1e10e3f6cd9239f621883baa770e", checked := Try.checked }
namespace Rows
def none {H : Type} : Left H := { results := [], args := [] }

/-- 'laws.FnLeaveGroup': WHATEVER THE INPUT: true; the input reads as it did. -/
def fnLeaveGroupSpec : ChangeSpec := { name := "fnLeaveGroup", fn := fun _ => fun
  | [d] => { results := [.lit (.bool true)], args := [d] }
  | _ => none }
def fnLeaveGroupRow : OpenClaim := { program := "ytdfbaedkcfhdfaa", sum := "60fcb3bf3875365d424255bf252c1164fabe1e10e3f6cd9239f621883baa770e", func := "loop.example/accesspolicies/laws.FnLeaveGroup", spec := "fnLeaveGroup", unfollowed := true, recurses := true, apart := false }
def FnLeaveGroupSaid : Prop := fnLeaveGroupRow.holds Try.pinned (OpenSpec.ofChange fnLeaveGroupSpec)

/-- ITS FALSE NEIGHBOUR: 'it returns false'. Refute it at one input. -/
def fnLeaveGroupWrong : ChangeSpec := { name := "fnLeaveGroup", fn := fun _ => fun
  | [d] => { results := [.lit (.bool false)], args := [d] }
  | _ => none }
def FnLeaveGroupWrongFalsely : Prop := fnLeaveGroupRow.holds Try.pinned (OpenSpec.ofChange fnLeaveGroupWrong)

/-- 'laws.FnExactLeaveGroup': WHATEVER THE INPUT: true; the input reads as it did. -/
def fnExactLeaveGroupSpec : ChangeSpec := { name := "fnExactLeaveGroup", fn := fun _ => fun
  | [d1, d2, d3] => { results := [.lit (.bool true)], args := [d1, d2, d3] }
  | _ => none }
def fnExactLeaveGroupRow : OpenClaim := { program := "ytdfbaedkcfhdfaa", sum := "60fcb3bf3875365d424255bf252c1164fabe1e10e3f6cd9239f621883baa770e", func := "loop.example/accesspolicies/laws.FnExactLeaveGroup", spec := "fnExactLeaveGroup", unfollowed := true, recurses := true, apart := false }
def FnExactLeaveGroupSaid : Prop := fnExactLeaveGroupRow.holds Try.pinned (OpenSpec.ofChange fnExactLeaveGroupSpec)

/-- ITS FALSE NEIGHBOUR: 'it returns false'. Refute it at one input. -/
def fnExactLeaveGroupWrong : ChangeSpec := { name := "fnExactLeaveGroup", fn := fun _ => fun
  | [d1, d2, d3] => { results := [.lit (.bool false)], args := [d1, d2, d3] }
  | _ => none }
def FnExactLeaveGroupWrongFalsely : Prop := fnExactLeaveGroupRow.holds Try.pinned (OpenSpec.ofChange fnExactLeaveGroupWrong)

/-- 'laws.FnJoinGroup': WHATEVER THE INPUT: true; the input reads as it did. -/
def fnJoinGroupSpec : ChangeSpec := { name := "fnJoinGroup", fn := fun _ => fun
  | [d] => { results := [.lit (.bool true)], args := [d] }
  | _ => none }
def fnJoinGroupRow : OpenClaim := { program := "ytdfbaedkcfhdfaa", sum := "60fcb3bf3875365d424255bf252c1164fabe1e10e3f6cd9239f621883baa770e", func := "loop.example/accesspolicies/laws.FnJoinGroup", spec := "fnJoinGroup", unfollowed := true, recurses := true, apart := false }
def FnJoinGroupSaid : Prop := fnJoinGroupRow.holds Try.pinned (OpenSpec.ofChange fnJoinGroupSpec)

/-- ITS FALSE NEIGHBOUR: 'it returns false'. Refute it at one input. -/
def fnJoinGroupWrong : ChangeSpec := { name := "fnJoinGroup", fn := fun _ => fun
  | [d] => { results := [.lit (.bool false)], args := [d] }
  | _ => none }
def FnJoinGroupWrongFalsely : Prop := fnJoinGroupRow.holds Try.pinned (OpenSpec.ofChange fnJoinGroupWrong)

/-- 'laws.FnExactJoinGroup': WHATEVER THE INPUT: true; the input reads as it did. -/
def fnExactJoinGroupSpec : ChangeSpec := { name := "fnExactJoinGroup", fn := fun _ => fun
  | [d1, d2, d3] => { results := [.lit (.bool true)], args := [d1, d2, d3] }
  | _ => none }
def fnExactJoinGroupRow : OpenClaim := { program := "ytdfbaedkcfhdfaa", sum := "60fcb3bf3875365d424255bf252c1164fabe1e10e3f6cd9239f621883baa770e", func := "loop.example/accesspolicies/laws.FnExactJoinGroup", spec := "fnExactJoinGroup", recurses := true, apart := false }
def FnExactJoinGroupSaid : Prop := fnExactJoinGroupRow.holds Try.pinned (OpenSpec.ofChange fnExactJoinGroupSpec)

/-- ITS FALSE NEIGHBOUR: 'it returns false'. Refute it at one input. -/
def fnExactJoinGroupWrong : ChangeSpec := { name := "fnExactJoinGroup", fn := fun _ => fun
  | [d1, d2, d3] => { results := [.lit (.bool false)], args := [d1, d2, d3] }
  | _ => none }
def FnExactJoinGroupWrongFalsely : Prop := fnExactJoinGroupRow.holds Try.pinned (OpenSpec.ofChange fnExactJoinGroupWrong)

/-- 'laws.FnDeskValid': WHATEVER THE INPUT: true; the input reads as it did. -/
def fnDeskValidSpec : ChangeSpec := { name := "fnDeskValid", fn := fun _ => fun
  | [d] => { results := [.lit (.bool true)], args := [d] }
  | _ => none }
def fnDeskValidRow : OpenClaim := { program := "ytdfbaedkcfhdfaa", sum := "60fcb3bf3875365d424255bf252c1164fabe1e10e3f6cd9239f621883baa770e", func := "loop.example/accesspolicies/laws.FnDeskValid", spec := "fnDeskValid", recurses := true, apart := false }
def FnDeskValidSaid : Prop := fnDeskValidRow.holds Try.pinned (OpenSpec.ofChange fnDeskValidSpec)

/-- ITS FALSE NEIGHBOUR: 'it returns false'. Refute it at one input. -/
def fnDeskValidWrong : ChangeSpec := { name := "fnDeskValid", fn := fun _ => fun
  | [d] => { results := [.lit (.bool false)], args := [d] }
  | _ => none }
def FnDeskValidWrongFalsely : Prop := fnDeskValidRow.holds Try.pinned (OpenSpec.ofChange fnDeskValidWrong)

/-- 'laws.FnExactDeskValid': WHATEVER THE INPUT: true; the input reads as it did. -/
def fnExactDeskValidSpec : ChangeSpec := { name := "fnExactDeskValid", fn := fun _ => fun
  | [d] => { results := [.lit (.bool true)], args := [d] }
  | _ => none }
def fnExactDeskValidRow : OpenClaim := { program := "ytdfbaedkcfhdfaa", sum := "60fcb3bf3875365d424255bf252c1164fabe1e10e3f6cd9239f621883baa770e", func := "loop.example/accesspolicies/laws.FnExactDeskValid", spec := "fnExactDeskValid", recurses := true, loops := true, apart := false }
def FnExactDeskValidSaid : Prop := fnExactDeskValidRow.holds Try.pinned (OpenSpec.ofChange fnExactDeskValidSpec)

/-- ITS FALSE NEIGHBOUR: 'it returns false'. Refute it at one input. -/
def fnExactDeskValidWrong : ChangeSpec := { name := "fnExactDeskValid", fn := fun _ => fun
  | [d] => { results := [.lit (.bool false)], args := [d] }
  | _ => none }
def FnExactDeskValidWrongFalsely : Prop := fnExactDeskValidRow.holds Try.pinned (OpenSpec.ofChange fnExactDeskValidWrong)

/-- 'laws.FnPushNot': WHATEVER THE INPUT: true; the input reads as it did. -/
def fnPushNotSpec : ChangeSpec := { name := "fnPushNot", fn := fun _ => fun
  | [d1, d2] => { results := [.lit (.bool true)], args := [d1, d2] }
  | _ => none }
def fnPushNotRow : OpenClaim := { program := "ytdfbaedkcfhdfaa", sum := "60fcb3bf3875365d424255bf252c1164fabe1e10e3f6cd9239f621883baa770e", func := "loop.example/accesspolicies/laws.FnPushNot", spec := "fnPushNot", unfollowed := true, recurses := true, apart := false }
def FnPushNotSaid : Prop := fnPushNotRow.holds Try.pinned (OpenSpec.ofChange fnPushNotSpec)

/-- ITS FALSE NEIGHBOUR: 'it returns false'. Refute it at one input. -/
def fnPushNotWrong : ChangeSpec := { name := "fnPushNot", fn := fun _ => fun
  | [d1, d2] => { results := [.lit (.bool false)], args := [d1, d2] }
  | _ => none }
def FnPushNotWrongFalsely : Prop := fnPushNotRow.holds Try.pinned (OpenSpec.ofChange fnPushNotWrong)

/-- 'laws.FnExactPushNot': WHATEVER THE INPUT: true; the input reads as it did. -/
def fnExactPushNotSpec : ChangeSpec := { name := "fnExactPushNot", fn := fun _ => fun
  | [d1, d2] => { results := [.lit (.bool true)], args := [d1, d2] }
  | _ => none }
def fnExactPushNotRow : OpenClaim := { program := "ytdfbaedkcfhdfaa", sum := "60fcb3bf3875365d424255bf252c1164fabe1e10e3f6cd9239f621883baa770e", func := "loop.example/accesspolicies/laws.FnExactPushNot", spec := "fnExactPushNot", unfollowed := true, recurses := true, loops := true, apart := false }
def FnExactPushNotSaid : Prop := fnExactPushNotRow.holds Try.pinned (OpenSpec.ofChange fnExactPushNotSpec)

/-- ITS FALSE NEIGHBOUR: 'it returns false'. Refute it at one input. -/
def fnExactPushNotWrong : ChangeSpec := { name := "fnExactPushNot", fn := fun _ => fun
  | [d1, d2] => { results := [.lit (.bool false)], args := [d1, d2] }
  | _ => none }
def FnExactPushNotWrongFalsely : Prop := fnExactPushNotRow.holds Try.pinned (OpenSpec.ofChange fnExactPushNotWrong)

/- THE SECOND FORM. 'bulk': how many values and letters a reading holds, each counted each time it is reached (what is shared counts as often as it is met; a slice's spare places count too). A statement '..UptoSaid' is the law's where the arguments, and the package variables that the reading takes, are together of bulk at most 1048576: NARROWER than '..Said'. Prove '..Said' where nothing that the law and all that it calls make is longer than what came in: it says more and counts as full. Else prove '..UptoSaid'. A law counts once. -/
mutual
def uptoBulk {H : Type} : DataW H → Nat
  | .lit (.string bytes) => bytes.length + 1
  | .lit _ => 1
  | .nil => 1
  | .ptr d => uptoBulk d + 1
  | .slice elems spare => uptoBulkAll elems + uptoBulkAll spare + 1
  | .agg parts => uptoBulkAll parts + 1
  | .iface _ d => uptoBulk d + 1
  | .map entries => uptoBulkEntries entries + 1
  | .held _ => 1
def uptoBulkAll {H : Type} : List (DataW H) → Nat
  | [] => 0
  | d :: r => uptoBulk d + uptoBulkAll r
def uptoBulkEntries {H : Type} : List (Lit × DataW H) → Nat
  | [] => 0
  | x :: r => uptoBulkEntry x + uptoBulkEntries r
def uptoBulkEntry {H : Type} : Lit × DataW H → Nat
  | (.string bytes, d) => bytes.length + uptoBulk d + 1
  | (_, d) => uptoBulk d + 1
 end
def uptoSmall : (H : Type) → List (DataW H) → Bool := fun _ ds => decide (uptoBulkAll ds ≤ 1048576)
def OpenSpec.upto (s : _root_.Go.ChangeSpec) : _root_.Go.OpenSpec := { _root_.Go.OpenSpec.ofChange s with cond := some uptoSmall }

/-- 'laws.FnLeaveGroup', WHERE WHAT IT READS IS OF BULK AT MOST 1048576: true; the input reads as it did. -/
def fnLeaveGroupUptoRow : OpenClaim := { program := "ytdfbaedkcfhdfaa", sum := "60fcb3bf3875365d424255bf252c1164fabe1e10e3f6cd9239f621883baa770e", func := "loop.example/accesspolicies/laws.FnLeaveGroup", spec := "fnLeaveGroup", unfollowed := true, recurses := true, apart := false, narrowed := true }
def FnLeaveGroupUptoSaid : Prop := fnLeaveGroupUptoRow.holds Try.pinned (OpenSpec.upto fnLeaveGroupSpec)

/-- 'laws.FnExactLeaveGroup', WHERE WHAT IT READS IS OF BULK AT MOST 1048576: true; the input reads as it did. -/
def fnExactLeaveGroupUptoRow : OpenClaim := { program := "ytdfbaedkcfhdfaa", sum := "60fcb3bf3875365d424255bf252c1164fabe1e10e3f6cd9239f621883baa770e", func := "loop.example/accesspolicies/laws.FnExactLeaveGroup", spec := "fnExactLeaveGroup", unfollowed := true, recurses := true, apart := false, narrowed := true }
def FnExactLeaveGroupUptoSaid : Prop := fnExactLeaveGroupUptoRow.holds Try.pinned (OpenSpec.upto fnExactLeaveGroupSpec)

/-- 'laws.FnJoinGroup', WHERE WHAT IT READS IS OF BULK AT MOST 1048576: true; the input reads as it did. -/
def fnJoinGroupUptoRow : OpenClaim := { program := "ytdfbaedkcfhdfaa", sum := "60fcb3bf3875365d424255bf252c1164fabe1e10e3f6cd9239f621883baa770e", func := "loop.example/accesspolicies/laws.FnJoinGroup", spec := "fnJoinGroup", unfollowed := true, recurses := true, apart := false, narrowed := true }
def FnJoinGroupUptoSaid : Prop := fnJoinGroupUptoRow.holds Try.pinned (OpenSpec.upto fnJoinGroupSpec)

/-- 'laws.FnExactJoinGroup', WHERE WHAT IT READS IS OF BULK AT MOST 1048576: true; the input reads as it did. -/
def fnExactJoinGroupUptoRow : OpenClaim := { program := "ytdfbaedkcfhdfaa", sum := "60fcb3bf3875365d424255bf252c1164fabe1e10e3f6cd9239f621883baa770e", func := "loop.example/accesspolicies/laws.FnExactJoinGroup", spec := "fnExactJoinGroup", recurses := true, apart := false, narrowed := true }
def FnExactJoinGroupUptoSaid : Prop := fnExactJoinGroupUptoRow.holds Try.pinned (OpenSpec.upto fnExactJoinGroupSpec)

/-- 'laws.FnDeskValid', WHERE WHAT IT READS IS OF BULK AT MOST 1048576: true; the input reads as it did. -/
def fnDeskValidUptoRow : OpenClaim := { program := "ytdfbaedkcfhdfaa", sum := "60fcb3bf3875365d424255bf252c1164fabe1e10e3f6cd9239f621883baa770e", func := "loop.example/accesspolicies/laws.FnDeskValid", spec := "fnDeskValid", recurses := true, apart := false, narrowed := true }
def FnDeskValidUptoSaid : Prop := fnDeskValidUptoRow.holds Try.pinned (OpenSpec.upto fnDeskValidSpec)

/-- 'laws.FnExactDeskValid', WHERE WHAT IT READS IS OF BULK AT MOST 1048576: true; the input reads as it did. -/
def fnExactDeskValidUptoRow : OpenClaim := { program := "ytdfbaedkcfhdfaa", sum := "60fcb3bf3875365d424255bf252c1164fabe1e10e3f6cd9239f621883baa770e", func := "loop.example/accesspolicies/laws.FnExactDeskValid", spec := "fnExactDeskValid", recurses := true, loops := true, apart := false, narrowed := true }
def FnExactDeskValidUptoSaid : Prop := fnExactDeskValidUptoRow.holds Try.pinned (OpenSpec.upto fnExactDeskValidSpec)

/-- 'laws.FnPushNot', WHERE WHAT IT READS IS OF BULK AT MOST 1048576: true; the input reads as it did. -/
def fnPushNotUptoRow : OpenClaim := { program := "ytdfbaedkcfhdfaa", sum := "60fcb3bf3875365d424255bf252c1164fabe1e10e3f6cd9239f621883baa770e", func := "loop.example/accesspolicies/laws.FnPushNot", spec := "fnPushNot", unfollowed := true, recurses := true, apart := false, narrowed := true }
def FnPushNotUptoSaid : Prop := fnPushNotUptoRow.holds Try.pinned (OpenSpec.upto fnPushNotSpec)

/-- 'laws.FnExactPushNot', WHERE WHAT IT READS IS OF BULK AT MOST 1048576: true; the input reads as it did. -/
def fnExactPushNotUptoRow : OpenClaim := { program := "ytdfbaedkcfhdfaa", sum := "60fcb3bf3875365d424255bf252c1164fabe1e10e3f6cd9239f621883baa770e", func := "loop.example/accesspolicies/laws.FnExactPushNot", spec := "fnExactPushNot", unfollowed := true, recurses := true, loops := true, apart := false, narrowed := true }
def FnExactPushNotUptoSaid : Prop := fnExactPushNotUptoRow.holds Try.pinned (OpenSpec.upto fnExactPushNotSpec)

end Rows
end Go.Proofs.Ytdfbaedkcfhdfaa
