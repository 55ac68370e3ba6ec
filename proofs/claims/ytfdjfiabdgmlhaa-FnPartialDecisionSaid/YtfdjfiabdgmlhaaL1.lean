/- Walks of functions of the cut by the abstract logic, and what they compute. Filled by a program of mine from a template. -/
import Derived.Test.YtfdjfiabdgmlhaaL0
import Derived.Test.YtfdjfiabdgmlhaaD4
namespace Go.Proofs.Ytfdjfiabdgmlhaa
open Go Go.AL
set_option linter.unusedSimpArgs false
set_option linter.unusedVariables false

def isFD (v : AV) : Prop := ∃ (w : List Thing) (fs : List Field) (a b : List Policy), v = .tup [LT w, LF fs, LP a, LP b] ∧ smallP a ∧ smallP b ∧ a.length ≤ 9 ∧ b.length ≤ 9 ∧ fs.length ≤ 6
theorem fd_wit {w : List Thing} {fs : List Field} {a b : List Policy} {o1 o2 o3 o4 : Own} (h1 : smallP a) (h2 : smallP b) (h3 : a.length ≤ 9) (h4 : b.length ≤ 9) (h5 : fs.length ≤ 6) :
    isFD (AV.erR (.tup [.d (.sl 2 (w.map encT) o1), .d (.sl 3 (fs.map encF) o2), .d (.sl 9 (a.map encPolicy) o3), .d (.sl 9 (b.map encPolicy) o4)])) :=
  ⟨w, fs, a, b, by simp [AV.erR, AV.er, DV.er, er_encT, er_encF, er_encPolicy], h1, h2, h3, h4, h5⟩
theorem smallP_cut {a : List Policy} (h : smallP a) (m n : Nat) : smallP ((a.drop m).take n) := fun p hp => h p (List.mem_of_mem_drop (List.mem_of_mem_take hp))
theorem dec_True : dec True = true := dec_t trivial
end Go.Proofs.Ytfdjfiabdgmlhaa
