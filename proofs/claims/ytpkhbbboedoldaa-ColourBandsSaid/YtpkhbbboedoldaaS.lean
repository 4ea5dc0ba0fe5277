/- Pieces of code. Printed by a program of mine. -/
import Derived.Test.YtpkhbbboedoldaaTab
import Derived.Test.YtpkhbbboedoldaaP
namespace Go.Proofs.Ytpkhbbboedoldaa
open Go Go.Sx
set_option linter.unusedVariables false

noncomputable def asn64x0 : Go.Code := Go.Sx.bodyAt Try.f64 [1, 1, 1, 1, 0, 1, 0, 0, 1, 1, 0, 0, 1, 1, 0, 0]
noncomputable def bdy64x0 : Go.Code := Go.Sx.bodyAt Try.f64 [1, 1, 1, 1, 0, 1, 0, 0, 1, 1, 0, 0, 1, 1, 0, 1]

noncomputable def asn33x0 : Go.Code := Go.Sx.bodyAt Try.f33 [1, 1, 1, 0, 1, 0, 0, 1, 1, 0, 0, 1, 1, 0, 1, 0, 0]
noncomputable def bdy33x0 : Go.Code := Go.Sx.bodyAt Try.f33 [1, 1, 1, 0, 1, 0, 0, 1, 1, 0, 0, 1, 1, 0, 1, 0, 1]

end Go.Proofs.Ytpkhbbboedoldaa
