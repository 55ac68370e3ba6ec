/- Walks of functions of the cut by the abstract logic, and what they compute. Filled by a program of mine from a template. -/
import Derived.Test.YtfgalmgldidcmaaGreatE1
namespace Go.Proofs.YtfgalmgldidcmaaGreat
open Go Go.AL
set_option linter.unusedSimpArgs false
set_option linter.unusedVariables false

/-- What is left of a bound: never more than before. -/
def szR (left : Int) (small : Prop) (v : AV) : Prop := ∃ r : Int, v = I r ∧ -1 ≤ r ∧ r ≤ left ∧ (0 ≤ r → small)
def BIG : Nat := 1048576
def smL {α : Type} (sm : α → Prop) (l : List α) : Prop := l.length ≤ BIG ∧ ∀ x ∈ l, sm x
/-- It is not large. -/
def smExpr (e : Expr) : Prop := wE e ≤ BIG
def szW (left : Int) (n : Nat) (v : AV) : Prop := ∃ r : Int, v = I r ∧ -1 ≤ r ∧ r ≤ left ∧ (0 ≤ r → r + n ≤ left)
structure Policy where
  name : List UInt8
  allow : Bool
  who : Int
  what : Int
  acts : Int
  when : Expr
def encPolicy (r : Policy) : List DV := [.str r.name, .bool r.allow, .int .i64 r.who, .int .i64 r.what, .int .i64 r.acts, .int .i64 r.when.kind, .int .i64 r.when.number, .str r.when.name, .sl 4 (r.when.parts.map encE) .no]
theorem er_encPolicy (l : List Policy) : erLL (l.map encPolicy) = l.map encPolicy := er_map (fun r => by simp [encPolicy, erL, DV.er, er_encE]) l
theorem Policy.eta (r : Policy) : Policy.mk r.name r.allow r.who r.what r.acts r.when = r := rfl
attribute [go_sem] er_encPolicy Policy.eta
def smPolicy (r : Policy) : Prop := r.name.length ≤ BIG ∧ smExpr r.when
end Go.Proofs.YtfgalmgldidcmaaGreat
