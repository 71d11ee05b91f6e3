/- The law's functions as plain functions, and their calls. No condition. -/
import Derived.Test.YtchhgfgebomegaaPFnSendsx0
import Derived.Test.YtchhgfgebomegaaPFnSendsx1
import Derived.Test.YtchhgfgebomegaaPFnSendsx2
import Derived.Test.YtchhgfgebomegaaPFnSendsx3
import Derived.Test.YtchhgfgebomegaaPFnSendsx4
import Derived.Test.YtchhgfgebomegaaPFnSendsx5
import Derived.Test.YtchhgfgebomegaaPFnSendsx6
import Derived.Test.YtchhgfgebomegaaPFnSendsx7
import Derived.Test.YtchhgfgebomegaaPFnSendsx8
import Derived.Test.YtchhgfgebomegaaPFnSendsx9
import Derived.Test.YtchhgfgebomegaaPFnSendsx10
import Derived.Test.YtchhgfgebomegaaPFnSendsx11
import Derived.Test.YtchhgfgebomegaaPFnSendsx12
import Derived.Test.YtchhgfgebomegaaPFnSendsx13
namespace Go.Proofs.Ytchhgfgebomegaa.PFnSends
open Go.RowKit Go.Proofs.YtchhgfgebomegaaW.PrintWords Go.Proofs.YtchhgfgebomegaaW.PrintLast Go.Proofs.YtchhgfgebomegaaW.PrintMore
attribute [local go_sem] max2_int min2_int max_two min_two max_three min_three max_four min_four
set_option linter.unusedVariables false
set_option linter.unusedSimpArgs false

end Go.Proofs.Ytchhgfgebomegaa.PFnSends
