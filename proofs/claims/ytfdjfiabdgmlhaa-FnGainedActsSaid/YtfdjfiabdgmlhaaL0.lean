import Derived.Test.YtfdjfiabdgmlhaaZ1
namespace Go.Proofs.Ytfdjfiabdgmlhaa
open Go Go.AL
set_option linter.unusedSimpArgs false
set_option linter.unusedVariables false
end Go.Proofs.Ytfdjfiabdgmlhaa
