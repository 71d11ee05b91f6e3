/- Each function that the law comes to, as a plain function, with the proof that the call in the model gives what that function says (written by a program of this session out of the translation). No condition. -/
import Derived.Test.YtaofkfooijfjbaaPFnExactEnteringx0
import Derived.Test.YtaofkfooijfjbaaPFnExactEnteringx1
import Derived.Test.YtaofkfooijfjbaaPFnExactEnteringx2
import Derived.Test.YtaofkfooijfjbaaPFnExactEnteringx3
import Derived.Test.YtaofkfooijfjbaaPFnExactEnteringx4
import Derived.Test.YtaofkfooijfjbaaPFnExactEnteringx5
import Derived.Test.YtaofkfooijfjbaaPFnExactEnteringx6
import Derived.Test.YtaofkfooijfjbaaPFnExactEnteringx7
import Derived.Test.YtaofkfooijfjbaaPFnExactEnteringx8
import Derived.Test.YtaofkfooijfjbaaPFnExactEnteringx9
import Derived.Test.YtaofkfooijfjbaaPFnExactEnteringx10
import Derived.Test.YtaofkfooijfjbaaPFnExactEnteringx11
import Derived.Test.YtaofkfooijfjbaaPFnExactEnteringx12
import Derived.Test.YtaofkfooijfjbaaPFnExactEnteringx13
import Derived.Test.YtaofkfooijfjbaaPFnExactEnteringx14
namespace Go.Proofs.Ytaofkfooijfjbaa.PFnExactEntering
open Go.RowKit Go.Proofs.YtaofkfooijfjbaaW.PrintWords Go.Proofs.YtaofkfooijfjbaaW.PrintLast Go.Proofs.YtaofkfooijfjbaaW.PrintMore
attribute [local go_sem] max2_int min2_int max_two min_two max_three min_three max_four min_four   -- for this text's walks alone
set_option linter.unusedVariables false
set_option linter.unusedSimpArgs false

end Go.Proofs.Ytaofkfooijfjbaa.PFnExactEntering
