/- Walks of functions of the cut by the abstract logic, and what they compute. Filled by a program of mine from a template. -/
import Derived.Test.YtnbhcnjmjlplhaaDoorTXD
import Derived.Test.YtnbhcnjmjlplhaaDoorTP
import Derived.Test.YtnbhcnjmjlplhaaDoorCoreE
namespace Go.Proofs.YtnbhcnjmjlplhaaDoor
open Go Go.AL Go.RowKit
set_option linter.unusedSimpArgs false
set_option linter.unusedVariables false
/-! ### The library's functions on texts -/
end Go.Proofs.YtnbhcnjmjlplhaaDoor
