/- Walks of functions of the cut by the abstract logic, and what they compute. Filled by a program of mine from a template. -/
import Derived.Test.YtdfbaedkcfhdfaaG1
namespace Go.Proofs.Ytdfbaedkcfhdfaa
open Go Go.AL
set_option linter.unusedSimpArgs false
set_option linter.unusedVariables false

def valS (fn : FuncId) (w : List Thing) (r : Request) (e : Expr) (v : Ev) : Prop := Gives Try.prog fn [LT w, .agg [.int .i64 r.who, .int .i64 r.act, .int .i64 r.what, .sl 3 (r.fields.map encF) .no], .agg [.int .i64 e.kind, .int .i64 e.number, .str e.name, .sl 4 (e.parts.map encE) .no]] (.tup [.agg [.int .i64 v.k, .int .i64 v.n], I v.f])
def eitherV (stop : Int) (v u : Ev) : Ev := if (kindV 1 v).f ≠ 0 then evF (kindV 1 v).f else if (kindV 1 v).n = stop then kindV 1 v else kindV 1 u
end Go.Proofs.Ytdfbaedkcfhdfaa
