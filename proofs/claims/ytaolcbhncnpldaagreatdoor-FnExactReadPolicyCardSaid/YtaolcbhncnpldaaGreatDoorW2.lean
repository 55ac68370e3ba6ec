/- Walks of functions of the cut by the abstract logic, and what they compute. Filled by a program of mine from a template. -/
import Derived.Test.YtaolcbhncnpldaaGreatDoorW1
namespace Go.Proofs.YtaolcbhncnpldaaGreatDoor
open Go Go.AL
set_option linter.unusedSimpArgs false
set_option linter.unusedVariables false

/-- Groups have lesser numbers. -/
def okW (w : List Thing) : Prop := ∀ (k : Nat) (t : Thing), w[k]? = some t → ∀ g ∈ t.groups, 0 ≤ g ∧ g < k
/-- A thing is in another one, by groups at most so often. -/
def inW (w : List Thing) (g : Int) : Nat → Int → Bool
  | 0, t => t == g
  | d + 1, t => t == g || (w.getD t.toNat ⟨[], []⟩).groups.any (inW w g d)

/-- A thing of a valid world is in another one. -/
def isInB (w : List Thing) (t g : Int) : Bool := worldB w && inB t 0 ((w.length : Int) - 1) && inB g 0 ((w.length : Int) - 1) && inW w g w.length t

/-- A valid request. -/
def reqB (w : List Thing) (r : Request) : Bool := worldB w && inB r.who 0 ((w.length : Int) - 1) && inB r.what 0 ((w.length : Int) - 1) && inB r.act 0 3 && fieldsB r.fields w.length
/-- The value of the first field of a name. -/
def fieldO (l : List Field) (nm : List UInt8) : Option (Int × Int) :=
  match l with
  | [] => none
  | f :: r => if f.name = nm then some (f.kind, f.number) else fieldO r nm
def fo1 (x : Option (Int × Int)) : Int := (x.getD (0, 0)).1
def fo2 (x : Option (Int × Int)) : Int := (x.getD (0, 0)).2
end Go.Proofs.YtaolcbhncnpldaaGreatDoor
