/- Pieces of code. Printed by a program of mine. -/
import Derived.Test.YtadejgckgnbaoaaTab
import Derived.Test.YtadejgckgnbaoaaP
namespace Go.Proofs.Ytadejgckgnbaoaa
open Go Go.Sx
set_option linter.unusedVariables false

noncomputable def asn51x0 : Go.Code := Go.Sx.bodyAt Try.f51 [1, 1, 1, 0, 1, 0, 0]
noncomputable def bdy51x0 : Go.Code := Go.Sx.bodyAt Try.f51 [1, 1, 1, 0, 1, 0, 1]

end Go.Proofs.Ytadejgckgnbaoaa
