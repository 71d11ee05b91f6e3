/- Each function that the law comes to, as a plain function, with the proof that the call in the model gives what that function says (written by a program of this session out of the translation). No condition. -/
import Derived.Test.YtagmogkdlimofaaPFnExactHasCyclex0
import Derived.Test.YtagmogkdlimofaaPFnExactHasCyclex1
import Derived.Test.YtagmogkdlimofaaPFnExactHasCyclex2
import Derived.Test.YtagmogkdlimofaaPFnExactHasCyclex3
import Derived.Test.YtagmogkdlimofaaPFnExactHasCyclex4
import Derived.Test.YtagmogkdlimofaaPFnExactHasCyclex5
import Derived.Test.YtagmogkdlimofaaPFnExactHasCyclex6
import Derived.Test.YtagmogkdlimofaaPFnExactHasCyclex7
import Derived.Test.YtagmogkdlimofaaPFnExactHasCyclex8
namespace Go.Proofs.Ytagmogkdlimofaa.PFnExactHasCycle
open Go.RowKit Go.Proofs.YtagmogkdlimofaaW.PrintWords Go.Proofs.YtagmogkdlimofaaW.PrintLast Go.Proofs.YtagmogkdlimofaaW.PrintMore
attribute [local go_sem] max2_int min2_int max_two min_two max_three min_three max_four min_four   -- for this text's walks alone
set_option linter.unusedVariables false
set_option linter.unusedSimpArgs false

end Go.Proofs.Ytagmogkdlimofaa.PFnExactHasCycle
