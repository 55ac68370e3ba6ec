/- Walks of functions of the cut by the abstract logic, and what they compute. Filled by a program of mine from a template. -/
import Derived.Test.YtfgalmgldidcmaaGreatZ0
namespace Go.Proofs.YtfgalmgldidcmaaGreat
open Go Go.AL
set_option linter.unusedSimpArgs false
set_option linter.unusedVariables false

theorem Request.eta (r : Request) : Request.mk r.who r.act r.what r.fields = r := rfl
/-- All requests with the same fields: parts of the list. -/
def rq3 (fs : List Field) (who act b : Nat) : List Request := (List.range b).map fun (x : Nat) => ⟨who, act, x, fs⟩
def rq2 (n : Nat) (fs : List Field) (who a : Nat) : List Request := (List.range a).flatMap fun act => rq3 fs who act n
def rq1 (n : Nat) (fs : List Field) (k : Nat) : List Request := (List.range k).flatMap fun who => rq2 n fs who 4
def allR (w : List Thing) (fs : List Field) : List Request := if worldB w && fieldsB fs w.length then rq1 w.length fs w.length else []
def rqZ : Request := ⟨0, 0, 0, []⟩
/-- The first request that is decided otherwise. -/
def diffL (w : List Thing) (a b : List Policy) : List Request → Option Request
  | [] => none
  | r :: l => if ((decB w r a).allow == (decB w r b).allow) = true then diffL w a b l else some r
def moreL (w : List Thing) (a b : List Policy) : List Request → Bool
  | [] => true
  | r :: l => if ((decB w r b).allow && !(decB w r a).allow) = true then false else moreL w a b l
def cntL (w : List Thing) (a : List Policy) : List Request → Nat
  | [] => 0
  | r :: l => if (decB w r a).allow = true then 1 + cntL w a l else cntL w a l
def okA (w : List Thing) (fs : List Field) (a b : List Policy) : Bool := worldB w && fieldsB fs w.length && polsB a && polsB b
def diffB (w : List Thing) (fs : List Field) (a b : List Policy) : Option Request := diffL w a b (allR w fs)
def fdB (w : List Thing) (fs : List Field) (a b : List Policy) : Option Request := if okA w fs a b then diffB w fs a b else none
def moreB (w : List Thing) (fs : List Field) (a b : List Policy) : Bool := okA w fs a b && moreL w a b (allR w fs)
def cntB (w : List Thing) (fs : List Field) (a : List Policy) : Int := if okA w fs a a then (cntL w a (allR w fs) : Int) else -1
end Go.Proofs.YtfgalmgldidcmaaGreat
