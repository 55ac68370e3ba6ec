/- Walks of functions of the cut by the abstract logic, and what they compute. Filled by a program of mine from a template. -/
import Derived.Test.YtfgalmgldidcmaaGreatL0
import Derived.Test.YtfgalmgldidcmaaGreatD4
namespace Go.Proofs.YtfgalmgldidcmaaGreat
open Go Go.AL
set_option linter.unusedSimpArgs false
set_option linter.unusedVariables false

def isFD (v : AV) : Prop := ∃ (w : List Thing) (fs : List Field) (a b : List Policy), v = .tup [LT w, LF fs, LP a, LP b] ∧ smallP a ∧ smallP b ∧ a.length ≤ 9 ∧ b.length ≤ 9 ∧ fs.length ≤ 6
end Go.Proofs.YtfgalmgldidcmaaGreat
