/- Each function that the law comes to, as a plain function, with the proof that the call in the model gives what that function says (written by a program of this session out of the translation). No condition. -/
import Derived.Test.YtagmogkdlimofaaPFnOrdersx0
import Derived.Test.YtagmogkdlimofaaPFnOrdersx1
import Derived.Test.YtagmogkdlimofaaPFnOrdersx2
import Derived.Test.YtagmogkdlimofaaPFnOrdersx3
import Derived.Test.YtagmogkdlimofaaPFnOrdersx4
import Derived.Test.YtagmogkdlimofaaPFnOrdersx5
import Derived.Test.YtagmogkdlimofaaPFnOrdersx6
import Derived.Test.YtagmogkdlimofaaPFnOrdersx7
import Derived.Test.YtagmogkdlimofaaPFnOrdersx8
import Derived.Test.YtagmogkdlimofaaPFnOrdersx9
namespace Go.Proofs.Ytagmogkdlimofaa.PFnOrders
open Go.RowKit Go.Proofs.YtagmogkdlimofaaW.PrintWords Go.Proofs.YtagmogkdlimofaaW.PrintLast Go.Proofs.YtagmogkdlimofaaW.PrintMore
attribute [local go_sem] max2_int min2_int max_two min_two max_three min_three max_four min_four   -- for this text's walks alone
set_option linter.unusedVariables false
set_option linter.unusedSimpArgs false

end Go.Proofs.Ytagmogkdlimofaa.PFnOrders
