/- Each function that the law comes to, as a plain function, with the proof that the call in the model gives what that function says (written by a program of this session out of the translation). No condition. -/
import Derived.Test.YtogapggfegplkaaPFnExactSameNetx0
import Derived.Test.YtogapggfegplkaaPFnExactSameNetx1
import Derived.Test.YtogapggfegplkaaPFnExactSameNetx2
import Derived.Test.YtogapggfegplkaaPFnExactSameNetx3
import Derived.Test.YtogapggfegplkaaPFnExactSameNetx4
import Derived.Test.YtogapggfegplkaaPFnExactSameNetx5
import Derived.Test.YtogapggfegplkaaPFnExactSameNetx6
import Derived.Test.YtogapggfegplkaaPFnExactSameNetx7
import Derived.Test.YtogapggfegplkaaPFnExactSameNetx8
import Derived.Test.YtogapggfegplkaaPFnExactSameNetx9
import Derived.Test.YtogapggfegplkaaPFnExactSameNetx10
namespace Go.Proofs.Ytogapggfegplkaa.PFnExactSameNet
open Go.RowKit Go.Proofs.YtogapggfegplkaaW.PrintWords Go.Proofs.YtogapggfegplkaaW.PrintLast Go.Proofs.YtogapggfegplkaaW.PrintMore
attribute [local go_sem] max2_int min2_int max_two min_two max_three min_three max_four min_four   -- for this text's walks alone
set_option linter.unusedVariables false
set_option linter.unusedSimpArgs false

end Go.Proofs.Ytogapggfegplkaa.PFnExactSameNet
