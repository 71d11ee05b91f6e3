/- Each function that the law comes to, as a plain function, with the proof that the call in the model gives what that function says (written by a program of this session out of the translation). No condition. -/
import Derived.Test.YtogapggfegplkaaPFnExactNetOkx0
import Derived.Test.YtogapggfegplkaaPFnExactNetOkx1
import Derived.Test.YtogapggfegplkaaPFnExactNetOkx2
import Derived.Test.YtogapggfegplkaaPFnExactNetOkx3
import Derived.Test.YtogapggfegplkaaPFnExactNetOkx4
import Derived.Test.YtogapggfegplkaaPFnExactNetOkx5
import Derived.Test.YtogapggfegplkaaPFnExactNetOkx6
import Derived.Test.YtogapggfegplkaaPFnExactNetOkx7
import Derived.Test.YtogapggfegplkaaPFnExactNetOkx8
import Derived.Test.YtogapggfegplkaaPFnExactNetOkx9
import Derived.Test.YtogapggfegplkaaPFnExactNetOkx10
import Derived.Test.YtogapggfegplkaaPFnExactNetOkx11
import Derived.Test.YtogapggfegplkaaPFnExactNetOkx12
import Derived.Test.YtogapggfegplkaaPFnExactNetOkx13
namespace Go.Proofs.Ytogapggfegplkaa.PFnExactNetOk
open Go.RowKit Go.Proofs.YtogapggfegplkaaW.PrintWords Go.Proofs.YtogapggfegplkaaW.PrintLast Go.Proofs.YtogapggfegplkaaW.PrintMore
attribute [local go_sem] max2_int min2_int max_two min_two max_three min_three max_four min_four   -- for this text's walks alone
set_option linter.unusedVariables false
set_option linter.unusedSimpArgs false

end Go.Proofs.Ytogapggfegplkaa.PFnExactNetOk
