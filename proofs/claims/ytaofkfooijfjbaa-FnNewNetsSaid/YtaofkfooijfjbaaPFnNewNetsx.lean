/- The law's functions as plain functions, and their calls. No condition. -/
import Derived.Test.YtaofkfooijfjbaaPFnNewNetsx0
import Derived.Test.YtaofkfooijfjbaaPFnNewNetsx1
import Derived.Test.YtaofkfooijfjbaaPFnNewNetsx2
import Derived.Test.YtaofkfooijfjbaaPFnNewNetsx3
import Derived.Test.YtaofkfooijfjbaaPFnNewNetsx4
import Derived.Test.YtaofkfooijfjbaaPFnNewNetsx5
import Derived.Test.YtaofkfooijfjbaaPFnNewNetsx6
import Derived.Test.YtaofkfooijfjbaaPFnNewNetsx7
import Derived.Test.YtaofkfooijfjbaaPFnNewNetsx8
import Derived.Test.YtaofkfooijfjbaaPFnNewNetsx9
import Derived.Test.YtaofkfooijfjbaaPFnNewNetsx10
namespace Go.Proofs.Ytaofkfooijfjbaa.PFnNewNets
open Go.RowKit Go.Proofs.YtaofkfooijfjbaaW.PrintWords Go.Proofs.YtaofkfooijfjbaaW.PrintLast Go.Proofs.YtaofkfooijfjbaaW.PrintMore
attribute [local go_sem] max2_int min2_int max_two min_two max_three min_three max_four min_four
set_option linter.unusedVariables false
set_option linter.unusedSimpArgs false

end Go.Proofs.Ytaofkfooijfjbaa.PFnNewNets
