/- Each function that the law comes to, as a plain function, with the proof that the call in the model gives what that function says (written by a program of this session out of the translation). No condition. -/
import Derived.Test.YthmfjdanmbcgbaaPFnExactIsRequestx0
import Derived.Test.YthmfjdanmbcgbaaPFnExactIsRequestx1
import Derived.Test.YthmfjdanmbcgbaaPFnExactIsRequestx2
import Derived.Test.YthmfjdanmbcgbaaPFnExactIsRequestx3
import Derived.Test.YthmfjdanmbcgbaaPFnExactIsRequestx4
import Derived.Test.YthmfjdanmbcgbaaPFnExactIsRequestx5
import Derived.Test.YthmfjdanmbcgbaaPFnExactIsRequestx6
import Derived.Test.YthmfjdanmbcgbaaPFnExactIsRequestx7
import Derived.Test.YthmfjdanmbcgbaaPFnExactIsRequestx8
import Derived.Test.YthmfjdanmbcgbaaPFnExactIsRequestx9
import Derived.Test.YthmfjdanmbcgbaaPFnExactIsRequestx10
import Derived.Test.YthmfjdanmbcgbaaPFnExactIsRequestx11
import Derived.Test.YthmfjdanmbcgbaaPFnExactIsRequestx12
import Derived.Test.YthmfjdanmbcgbaaPFnExactIsRequestx13
import Derived.Test.YthmfjdanmbcgbaaPFnExactIsRequestx14
import Derived.Test.YthmfjdanmbcgbaaPFnExactIsRequestx15
import Derived.Test.YthmfjdanmbcgbaaPFnExactIsRequestx16
namespace Go.Proofs.Ythmfjdanmbcgbaa.PFnExactIsRequest
open Go.RowKit Go.Proofs.YthmfjdanmbcgbaaW.PrintWords Go.Proofs.YthmfjdanmbcgbaaW.PrintLast Go.Proofs.YthmfjdanmbcgbaaW.PrintMore
attribute [local go_sem] max2_int min2_int max_two min_two max_three min_three max_four min_four   -- for this text's walks alone
set_option linter.unusedVariables false
set_option linter.unusedSimpArgs false

end Go.Proofs.Ythmfjdanmbcgbaa.PFnExactIsRequest
