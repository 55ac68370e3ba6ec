import Derived.Test.YtfdjfiabdgmlhaaZ1
namespace Go.Proofs.Ytfdjfiabdgmlhaa
open Go Go.AL
set_option linter.unusedSimpArgs false
set_option linter.unusedVariables false
theorem diffL_none {w : List Thing} {a b : List Policy} : ∀ {l : List Request},diffL w a b l = none → ∀ r ∈ l,(decB w r a).allow = (decB w r b).allow
  | [],_,r,hr=>by simp at hr
  | x :: l,h,r,hr=>by
    rw [diffL] at h
    split at h
    · rename_i hn
      rcases List.mem_cons.1 hr with rfl|hr
      · simpa using hn
      · exact diffL_none h r hr
    · cases h
end Go.Proofs.Ytfdjfiabdgmlhaa
