/- Walks of functions of the cut by the abstract logic, and what they compute. Filled by a program of mine from a template. -/
import Derived.Test.YtnbhcnjmjlplhaaDoorLG
namespace Go.Proofs.YtnbhcnjmjlplhaaDoor
open Go Go.AL
set_option linter.unusedSimpArgs false
set_option linter.unusedVariables false

/-- What is left of a bound: never more than before. -/
def szR (left : Int) (small : Prop) (v : AV) : Prop := ∃ r : Int, v = I r ∧ -1 ≤ r ∧ r ≤ left ∧ (0 ≤ r → small)
def BIG : Nat := 1048576
def smL {α : Type} (sm : α → Prop) (l : List α) : Prop := l.length ≤ BIG ∧ ∀ x ∈ l, sm x
structure Decision where
  allow : Bool
  why : List (Int)
  faults : List (Int)
def encDecision (r : Decision) : List DV := [.bool r.allow, .sl 1 (r.why.map encI) .no, .sl 1 (r.faults.map encI) .no]
theorem er_encDecision (l : List Decision) : erLL (l.map encDecision) = l.map encDecision := er_map (fun r => by simp [encDecision, erL, DV.er, er_encI]) l
theorem Decision.eta (r : Decision) : Decision.mk r.allow r.why r.faults = r := rfl
attribute [go_sem] er_encDecision Decision.eta
def smDecision (r : Decision) : Prop := smL (fun _ => True) r.why ∧ smL (fun _ => True) r.faults
end Go.Proofs.YtnbhcnjmjlplhaaDoor
