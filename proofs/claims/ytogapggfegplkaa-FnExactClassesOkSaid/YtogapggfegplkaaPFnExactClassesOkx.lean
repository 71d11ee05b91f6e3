/- Each function that the law comes to, as a plain function, with the proof that the call in the model gives what that function says (written by a program of this session out of the translation). No condition. -/
import Derived.Test.YtogapggfegplkaaPFnExactClassesOkx0
import Derived.Test.YtogapggfegplkaaPFnExactClassesOkx1
import Derived.Test.YtogapggfegplkaaPFnExactClassesOkx2
import Derived.Test.YtogapggfegplkaaPFnExactClassesOkx3
import Derived.Test.YtogapggfegplkaaPFnExactClassesOkx4
import Derived.Test.YtogapggfegplkaaPFnExactClassesOkx5
import Derived.Test.YtogapggfegplkaaPFnExactClassesOkx6
import Derived.Test.YtogapggfegplkaaPFnExactClassesOkx7
import Derived.Test.YtogapggfegplkaaPFnExactClassesOkx8
namespace Go.Proofs.Ytogapggfegplkaa.PFnExactClassesOk
open Go.RowKit Go.Proofs.YtogapggfegplkaaW.PrintWords Go.Proofs.YtogapggfegplkaaW.PrintLast Go.Proofs.YtogapggfegplkaaW.PrintMore
attribute [local go_sem] max2_int min2_int max_two min_two max_three min_three max_four min_four   -- for this text's walks alone
set_option linter.unusedVariables false
set_option linter.unusedSimpArgs false

end Go.Proofs.Ytogapggfegplkaa.PFnExactClassesOk
