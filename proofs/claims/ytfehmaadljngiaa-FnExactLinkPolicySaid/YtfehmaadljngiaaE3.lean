import Derived.Test.YtfehmaadljngiaaE2
namespace Go.Proofs.Ytfehmaadljngiaa
open Go Go.AL
set_option linter.unusedSimpArgs false
set_option linter.unusedVariables false
noncomputable def samePB (a b : Policy) : Bool:=a.name == b.name && (a.allow == b.allow && (a.who == b.who && (a.what == b.what && (a.acts == b.acts && dec (a.when = b.when)))))
end Go.Proofs.Ytfehmaadljngiaa
