/- Walks of functions of the cut by the abstract logic, and what they compute. Filled by a program of mine from a template. -/
import Derived.Test.YtaolcbhncnpldaaGreatDoorTV
namespace Go.Proofs.YtaolcbhncnpldaaGreatDoor
open Go Go.AL
set_option linter.unusedSimpArgs false
set_option linter.unusedVariables false
/-! ### Texts of fields -/
/-- The texts of fields, each with a blank before it. -/
def flatT (l : List Field) : List UInt8 := (l.map fun f => 32 :: fieldT f).flatten
def fieldsT (l : List Field) : List UInt8 := if fieldsB l 7 then Lib.join (l.map fieldT) [32] else []
end Go.Proofs.YtaolcbhncnpldaaGreatDoor
