/-
  NARROWER THAN 'FOR EVERY INPUT', by the rows' own cells (each row's printed sentence says how): FnExactAllowed: loops · FnExactAllowsMore: loops · FnExactCountAllowed: loops · FnExactAllowedActs: loops · FnExactWhoMay: loops.
  DERIVED. THE GIVEN ROWS OF THIS SEAT. 5 by the template 'for every input the law returns true; each argument reads behind the call as it read before'; 0 by the template 'total and deterministic' (their statements: YtmlnpimlfbfkbaaTotals.lean).
  GIVEN WITH THE SEED: the statements are not yours to turn. If you find one false, say at which input.
  Laid BY PROGRAM, IN A SANDBOX (cutbox-rows.mjs): the forced cells as the released guide's own fill.sh prints them over the translation 04064e8d5a380827… (all of the seat's roots in one cut). By AI agents, Wed Nov 11 2026. No macro, syntax, notation, axiom, sorry.
-/
import Derived.Test.YtmlnpimlfbfkbaaChecked
import GoSem.Claim
import GoSem.ClaimJoined
import GoSem.ClaimMapViews
import Derived.JoinedTies
import Derived.KernelRfl
namespace Go.Proofs.Ytmlnpimlfbfkbaa
/- THE CELL 'sum', in the pinned program and in every row, IS THE sha256 OF THE DUMP (.gsa) THAT YtmlnpimlfbfkbaaProg.lean LOADS. Nothing in Lean hashes anything: it is a label: what it is worth is what the hold of that sum in a sandbox is worth. -/
noncomputable def Try.pinned : Pinned := { name := "ytmlnpimlfbfkbaa", sum := "04064e8d5a3808273a43b63427e219eb918b0bd00647c35d80eb629802cd6e0e", checked := Try.checked }
namespace Rows
def none {H : Type} : Left H := { results := [], args := [] }

/-- 'laws.FnExactAllowed': WHATEVER THE INPUT: true; the input reads as it did. -/
def fnExactAllowedSpec : ChangeSpec := { name := "fnExactAllowed", fn := fun _ => fun
  | [d1, d2, d3] => { results := [.lit (.bool true)], args := [d1, d2, d3] }
  | _ => none }
def fnExactAllowedRow : OpenClaim := { program := "ytmlnpimlfbfkbaa", sum := "04064e8d5a3808273a43b63427e219eb918b0bd00647c35d80eb629802cd6e0e", func := "loop.example/accesspolicies/laws.FnExactAllowed", spec := "fnExactAllowed", unfollowed := true, recurses := true, loops := true, apart := false }
def FnExactAllowedSaid : Prop := fnExactAllowedRow.holds Try.pinned (OpenSpec.ofChange fnExactAllowedSpec)

/-- ITS FALSE NEIGHBOUR: 'it returns false'. Refute it at one input. -/
def fnExactAllowedWrong : ChangeSpec := { name := "fnExactAllowed", fn := fun _ => fun
  | [d1, d2, d3] => { results := [.lit (.bool false)], args := [d1, d2, d3] }
  | _ => none }
def FnExactAllowedWrongFalsely : Prop := fnExactAllowedRow.holds Try.pinned (OpenSpec.ofChange fnExactAllowedWrong)

/-- 'laws.FnExactAllowsMore': WHATEVER THE INPUT: true; the input reads as it did. -/
def fnExactAllowsMoreSpec : ChangeSpec := { name := "fnExactAllowsMore", fn := fun _ => fun
  | [d1, d2, d3, d4] => { results := [.lit (.bool true)], args := [d1, d2, d3, d4] }
  | _ => none }
def fnExactAllowsMoreRow : OpenClaim := { program := "ytmlnpimlfbfkbaa", sum := "04064e8d5a3808273a43b63427e219eb918b0bd00647c35d80eb629802cd6e0e", func := "loop.example/accesspolicies/laws.FnExactAllowsMore", spec := "fnExactAllowsMore", unfollowed := true, recurses := true, loops := true, apart := false }
def FnExactAllowsMoreSaid : Prop := fnExactAllowsMoreRow.holds Try.pinned (OpenSpec.ofChange fnExactAllowsMoreSpec)

/-- ITS FALSE NEIGHBOUR: 'it returns false'. Refute it at one input. -/
def fnExactAllowsMoreWrong : ChangeSpec := { name := "fnExactAllowsMore", fn := fun _ => fun
  | [d1, d2, d3, d4] => { results := [.lit (.bool false)], args := [d1, d2, d3, d4] }
  | _ => none }
def FnExactAllowsMoreWrongFalsely : Prop := fnExactAllowsMoreRow.holds Try.pinned (OpenSpec.ofChange fnExactAllowsMoreWrong)

/-- 'laws.FnExactCountAllowed': WHATEVER THE INPUT: true; the input reads as it did. -/
def fnExactCountAllowedSpec : ChangeSpec := { name := "fnExactCountAllowed", fn := fun _ => fun
  | [d1, d2, d3] => { results := [.lit (.bool true)], args := [d1, d2, d3] }
  | _ => none }
def fnExactCountAllowedRow : OpenClaim := { program := "ytmlnpimlfbfkbaa", sum := "04064e8d5a3808273a43b63427e219eb918b0bd00647c35d80eb629802cd6e0e", func := "loop.example/accesspolicies/laws.FnExactCountAllowed", spec := "fnExactCountAllowed", unfollowed := true, recurses := true, loops := true, apart := false }
def FnExactCountAllowedSaid : Prop := fnExactCountAllowedRow.holds Try.pinned (OpenSpec.ofChange fnExactCountAllowedSpec)

/-- ITS FALSE NEIGHBOUR: 'it returns false'. Refute it at one input. -/
def fnExactCountAllowedWrong : ChangeSpec := { name := "fnExactCountAllowed", fn := fun _ => fun
  | [d1, d2, d3] => { results := [.lit (.bool false)], args := [d1, d2, d3] }
  | _ => none }
def FnExactCountAllowedWrongFalsely : Prop := fnExactCountAllowedRow.holds Try.pinned (OpenSpec.ofChange fnExactCountAllowedWrong)

/-- 'laws.FnExactAllowedActs': WHATEVER THE INPUT: true; the input reads as it did. -/
def fnExactAllowedActsSpec : ChangeSpec := { name := "fnExactAllowedActs", fn := fun _ => fun
  | [d1, d2, d3, d4, d5] => { results := [.lit (.bool true)], args := [d1, d2, d3, d4, d5] }
  | _ => none }
def fnExactAllowedActsRow : OpenClaim := { program := "ytmlnpimlfbfkbaa", sum := "04064e8d5a3808273a43b63427e219eb918b0bd00647c35d80eb629802cd6e0e", func := "loop.example/accesspolicies/laws.FnExactAllowedActs", spec := "fnExactAllowedActs", unfollowed := true, recurses := true, loops := true, apart := false }
def FnExactAllowedActsSaid : Prop := fnExactAllowedActsRow.holds Try.pinned (OpenSpec.ofChange fnExactAllowedActsSpec)

/-- ITS FALSE NEIGHBOUR: 'it returns false'. Refute it at one input. -/
def fnExactAllowedActsWrong : ChangeSpec := { name := "fnExactAllowedActs", fn := fun _ => fun
  | [d1, d2, d3, d4, d5] => { results := [.lit (.bool false)], args := [d1, d2, d3, d4, d5] }
  | _ => none }
def FnExactAllowedActsWrongFalsely : Prop := fnExactAllowedActsRow.holds Try.pinned (OpenSpec.ofChange fnExactAllowedActsWrong)

/-- 'laws.FnExactWhoMay': WHATEVER THE INPUT: true; the input reads as it did. -/
def fnExactWhoMaySpec : ChangeSpec := { name := "fnExactWhoMay", fn := fun _ => fun
  | [d1, d2, d3, d4, d5] => { results := [.lit (.bool true)], args := [d1, d2, d3, d4, d5] }
  | _ => none }
def fnExactWhoMayRow : OpenClaim := { program := "ytmlnpimlfbfkbaa", sum := "04064e8d5a3808273a43b63427e219eb918b0bd00647c35d80eb629802cd6e0e", func := "loop.example/accesspolicies/laws.FnExactWhoMay", spec := "fnExactWhoMay", unfollowed := true, recurses := true, loops := true, apart := false }
def FnExactWhoMaySaid : Prop := fnExactWhoMayRow.holds Try.pinned (OpenSpec.ofChange fnExactWhoMaySpec)

/-- ITS FALSE NEIGHBOUR: 'it returns false'. Refute it at one input. -/
def fnExactWhoMayWrong : ChangeSpec := { name := "fnExactWhoMay", fn := fun _ => fun
  | [d1, d2, d3, d4, d5] => { results := [.lit (.bool false)], args := [d1, d2, d3, d4, d5] }
  | _ => none }
def FnExactWhoMayWrongFalsely : Prop := fnExactWhoMayRow.holds Try.pinned (OpenSpec.ofChange fnExactWhoMayWrong)

/- THE SECOND FORM. 'bulk': how many values and letters a reading holds, each counted each time it is reached (what is shared counts as often as it is met; a slice's spare places count too). A statement '..UptoSaid' is the law's where the arguments, and the package variables that the reading takes, are together of bulk at most 1048576: NARROWER than '..Said'. Prove '..Said' where nothing that the law and all that it calls make is longer than what came in: it says more and counts as full. Else prove '..UptoSaid'. A law counts once. -/
mutual
def uptoBulk {H : Type} : DataW H → Nat
  | .lit (.string bytes) => bytes.length + 1
  | .lit _ => 1
  | .nil => 1
  | .ptr d => uptoBulk d + 1
  | .slice elems spare => uptoBulkAll elems + uptoBulkAll spare + 1
  | .agg parts => uptoBulkAll parts + 1
  | .iface _ d => uptoBulk d + 1
  | .map entries => uptoBulkEntries entries + 1
  | .held _ => 1
def uptoBulkAll {H : Type} : List (DataW H) → Nat
  | [] => 0
  | d :: r => uptoBulk d + uptoBulkAll r
def uptoBulkEntries {H : Type} : List (Lit × DataW H) → Nat
  | [] => 0
  | x :: r => uptoBulkEntry x + uptoBulkEntries r
def uptoBulkEntry {H : Type} : Lit × DataW H → Nat
  | (.string bytes, d) => bytes.length + uptoBulk d + 1
  | (_, d) => uptoBulk d + 1
 end
def uptoSmall : (H : Type) → List (DataW H) → Bool := fun _ ds => decide (uptoBulkAll ds ≤ 1048576)
def OpenSpec.upto (s : _root_.Go.ChangeSpec) : _root_.Go.OpenSpec := { _root_.Go.OpenSpec.ofChange s with cond := some uptoSmall }

/-- 'laws.FnExactAllowed', WHERE WHAT IT READS IS OF BULK AT MOST 1048576: true; the input reads as it did. -/
def fnExactAllowedUptoRow : OpenClaim := { program := "ytmlnpimlfbfkbaa", sum := "04064e8d5a3808273a43b63427e219eb918b0bd00647c35d80eb629802cd6e0e", func := "loop.example/accesspolicies/laws.FnExactAllowed", spec := "fnExactAllowed", unfollowed := true, recurses := true, loops := true, apart := false, narrowed := true }
def FnExactAllowedUptoSaid : Prop := fnExactAllowedUptoRow.holds Try.pinned (OpenSpec.upto fnExactAllowedSpec)

/-- 'laws.FnExactAllowsMore', WHERE WHAT IT READS IS OF BULK AT MOST 1048576: true; the input reads as it did. -/
def fnExactAllowsMoreUptoRow : OpenClaim := { program := "ytmlnpimlfbfkbaa", sum := "04064e8d5a3808273a43b63427e219eb918b0bd00647c35d80eb629802cd6e0e", func := "loop.example/accesspolicies/laws.FnExactAllowsMore", spec := "fnExactAllowsMore", unfollowed := true, recurses := true, loops := true, apart := false, narrowed := true }
def FnExactAllowsMoreUptoSaid : Prop := fnExactAllowsMoreUptoRow.holds Try.pinned (OpenSpec.upto fnExactAllowsMoreSpec)

/-- 'laws.FnExactCountAllowed', WHERE WHAT IT READS IS OF BULK AT MOST 1048576: true; the input reads as it did. -/
def fnExactCountAllowedUptoRow : OpenClaim := { program := "ytmlnpimlfbfkbaa", sum := "04064e8d5a3808273a43b63427e219eb918b0bd00647c35d80eb629802cd6e0e", func := "loop.example/accesspolicies/laws.FnExactCountAllowed", spec := "fnExactCountAllowed", unfollowed := true, recurses := true, loops := true, apart := false, narrowed := true }
def FnExactCountAllowedUptoSaid : Prop := fnExactCountAllowedUptoRow.holds Try.pinned (OpenSpec.upto fnExactCountAllowedSpec)

/-- 'laws.FnExactAllowedActs', WHERE WHAT IT READS IS OF BULK AT MOST 1048576: true; the input reads as it did. -/
def fnExactAllowedActsUptoRow : OpenClaim := { program := "ytmlnpimlfbfkbaa", sum := "04064e8d5a3808273a43b63427e219eb918b0bd00647c35d80eb629802cd6e0e", func := "loop.example/accesspolicies/laws.FnExactAllowedActs", spec := "fnExactAllowedActs", unfollowed := true, recurses := true, loops := true, apart := false, narrowed := true }
def FnExactAllowedActsUptoSaid : Prop := fnExactAllowedActsUptoRow.holds Try.pinned (OpenSpec.upto fnExactAllowedActsSpec)

/-- 'laws.FnExactWhoMay', WHERE WHAT IT READS IS OF BULK AT MOST 1048576: true; the input reads as it did. -/
def fnExactWhoMayUptoRow : OpenClaim := { program := "ytmlnpimlfbfkbaa", sum := "04064e8d5a3808273a43b63427e219eb918b0bd00647c35d80eb629802cd6e0e", func := "loop.example/accesspolicies/laws.FnExactWhoMay", spec := "fnExactWhoMay", unfollowed := true, recurses := true, loops := true, apart := false, narrowed := true }
def FnExactWhoMayUptoSaid : Prop := fnExactWhoMayUptoRow.holds Try.pinned (OpenSpec.upto fnExactWhoMaySpec)

end Rows
end Go.Proofs.Ytmlnpimlfbfkbaa
