/- Walks of functions of the cut by the abstract logic, and what they compute. Filled by a program of mine from a template. -/
import Derived.Test.YtnhfakijgbkadaaGreatDoorT2
import Derived.Test.YtnhfakijgbkadaaGreatDoorE1
namespace Go.Proofs.YtnhfakijgbkadaaGreatDoor
open Go Go.AL
set_option linter.unusedSimpArgs false
set_option linter.unusedVariables false

/-- A drawn text. -/
def isS (v : AV) : Prop := ∃ s : List UInt8, v = S s ∧ s.length ≤ 16
/-- A drawn expression, with at most c expressions in it. -/
def isE (c : Nat) (v : AV) : Prop := ∃ e : Expr, v = .agg [.int .i64 e.kind, .int .i64 e.number, .str e.name, .sl 4 (e.parts.map encE) .no] ∧ cntE e ≤ c
def isE1 (c : Nat) (x : List DV) : Prop := ∃ e : Expr, erL x = encE e ∧ cntE e ≤ c
def isEs (c : Nat) (X : List (List DV)) : Prop := ∃ ps : List Expr, erLL X = ps.map encE ∧ cntEs ps ≤ c
def cT : Nat → Nat
  | 0 => 2
  | d + 1 => 2 * cT d + 4 * d + 8

end Go.Proofs.YtnhfakijgbkadaaGreatDoor
