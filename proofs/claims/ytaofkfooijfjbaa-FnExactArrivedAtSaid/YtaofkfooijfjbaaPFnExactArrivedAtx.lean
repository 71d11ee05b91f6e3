/- Each function that the law comes to, as a plain function, with the proof that the call in the model gives what that function says (written by a program of this session out of the translation). No condition. -/
import Derived.Test.YtaofkfooijfjbaaPFnExactArrivedAtx0
import Derived.Test.YtaofkfooijfjbaaPFnExactArrivedAtx1
import Derived.Test.YtaofkfooijfjbaaPFnExactArrivedAtx2
import Derived.Test.YtaofkfooijfjbaaPFnExactArrivedAtx3
import Derived.Test.YtaofkfooijfjbaaPFnExactArrivedAtx4
import Derived.Test.YtaofkfooijfjbaaPFnExactArrivedAtx5
import Derived.Test.YtaofkfooijfjbaaPFnExactArrivedAtx6
import Derived.Test.YtaofkfooijfjbaaPFnExactArrivedAtx7
import Derived.Test.YtaofkfooijfjbaaPFnExactArrivedAtx8
import Derived.Test.YtaofkfooijfjbaaPFnExactArrivedAtx9
import Derived.Test.YtaofkfooijfjbaaPFnExactArrivedAtx10
import Derived.Test.YtaofkfooijfjbaaPFnExactArrivedAtx11
import Derived.Test.YtaofkfooijfjbaaPFnExactArrivedAtx12
import Derived.Test.YtaofkfooijfjbaaPFnExactArrivedAtx13
import Derived.Test.YtaofkfooijfjbaaPFnExactArrivedAtx14
import Derived.Test.YtaofkfooijfjbaaPFnExactArrivedAtx15
import Derived.Test.YtaofkfooijfjbaaPFnExactArrivedAtx16
namespace Go.Proofs.Ytaofkfooijfjbaa.PFnExactArrivedAt
open Go.RowKit Go.Proofs.YtaofkfooijfjbaaW.PrintWords Go.Proofs.YtaofkfooijfjbaaW.PrintLast Go.Proofs.YtaofkfooijfjbaaW.PrintMore
attribute [local go_sem] max2_int min2_int max_two min_two max_three min_three max_four min_four   -- for this text's walks alone
set_option linter.unusedVariables false
set_option linter.unusedSimpArgs false

end Go.Proofs.Ytaofkfooijfjbaa.PFnExactArrivedAt
