import Derived.Test.YtdfbaedkcfhdfaaU1
namespace Go.Proofs.Ytdfbaedkcfhdfaa
open Go Go.AL
set_option linter.unusedSimpArgs false
set_option linter.unusedVariables false
def filtG (g : Int) (l : List Int) : List Int:=l.filter fun x=>decide (x < g)
def insG (g : Int) (l : List Int) : List Int:=filtG g l ++ [g] ++ l.drop (filtG g l).length
def joinB (w : List Thing) (t g : Int) : Option (List Thing) :=
  if worldB w && inB t 0 ((w.length : Int) - 1) && inB g 0 (t - 1) then
    match w[t.toNat]? with
    | some x=>if g ∈ x.groups then none else some (w.set t.toNat ⟨insG g x.groups,x.fields⟩)
    | none=>none
  else none
def joinA (o : Option (List Thing)) : AV:=match o with
  | some w=>.tup [LT w,.d (.bool true)]
  | none=>.tup [LT [],.d (.bool false)]
end Go.Proofs.Ytdfbaedkcfhdfaa
