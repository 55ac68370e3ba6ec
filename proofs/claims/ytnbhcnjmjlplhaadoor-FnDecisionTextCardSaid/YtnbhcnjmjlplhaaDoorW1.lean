/- Walks of functions of the cut by the abstract logic, and what they compute. Filled by a program of mine from a template. -/
import Derived.Test.YtnbhcnjmjlplhaaDoorF0
namespace Go.Proofs.YtnbhcnjmjlplhaaDoor
open Go Go.AL
set_option linter.unusedSimpArgs false
set_option linter.unusedVariables false

/-- A valid value among many things. -/
def valB (k n many : Int) : Bool := if k = 1 then inB n 0 1 else if k = 2 then inB n 0 99 else if k = 3 then (decide (0 ≤ n) && decide (n < many)) else false

def fieldsGo (many : Int) : List Field → List Field → Bool
  | _, [] => true
  | pre, f :: r => nameB f.name && !(pre.any fun y => y.name == f.name) && valB f.kind f.number many && fieldsGo many (pre ++ [f]) r
/-- Valid fields among many things. -/
def fieldsB (l : List Field) (many : Int) : Bool := fieldsGo many [] l && decide ((l.length : Int) ≤ 4)

def worldGo (n : Nat) : Nat → List Thing → Bool
  | _, [] => true
  | k, t :: r => ascB t.groups 0 ((k : Int) - 1) && fieldsB t.fields n && worldGo n (k + 1) r
/-- A valid world. -/
def worldB (w : List Thing) : Bool := worldGo w.length 0 w && decide ((w.length : Int) ≤ 7)



end Go.Proofs.YtnbhcnjmjlplhaaDoor
