/- Each function that the law comes to, as a plain function, with the proof that the call in the model gives what that function says (written by a program of this session out of the translation). No condition. -/
import Derived.Test.YtaofkfooijfjbaaPFnExactCreditTablex0
import Derived.Test.YtaofkfooijfjbaaPFnExactCreditTablex1
import Derived.Test.YtaofkfooijfjbaaPFnExactCreditTablex2
import Derived.Test.YtaofkfooijfjbaaPFnExactCreditTablex3
import Derived.Test.YtaofkfooijfjbaaPFnExactCreditTablex4
import Derived.Test.YtaofkfooijfjbaaPFnExactCreditTablex5
import Derived.Test.YtaofkfooijfjbaaPFnExactCreditTablex6
import Derived.Test.YtaofkfooijfjbaaPFnExactCreditTablex7
import Derived.Test.YtaofkfooijfjbaaPFnExactCreditTablex8
import Derived.Test.YtaofkfooijfjbaaPFnExactCreditTablex9
import Derived.Test.YtaofkfooijfjbaaPFnExactCreditTablex10
import Derived.Test.YtaofkfooijfjbaaPFnExactCreditTablex11
import Derived.Test.YtaofkfooijfjbaaPFnExactCreditTablex12
import Derived.Test.YtaofkfooijfjbaaPFnExactCreditTablex13
import Derived.Test.YtaofkfooijfjbaaPFnExactCreditTablex14
namespace Go.Proofs.Ytaofkfooijfjbaa.PFnExactCreditTable
open Go.RowKit Go.Proofs.YtaofkfooijfjbaaW.PrintWords Go.Proofs.YtaofkfooijfjbaaW.PrintLast Go.Proofs.YtaofkfooijfjbaaW.PrintMore
attribute [local go_sem] max2_int min2_int max_two min_two max_three min_three max_four min_four   -- for this text's walks alone
set_option linter.unusedVariables false
set_option linter.unusedSimpArgs false

end Go.Proofs.Ytaofkfooijfjbaa.PFnExactCreditTable
