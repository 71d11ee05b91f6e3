/- Each function that the law comes to, as a plain function, with the proof that the call in the model gives what that function says (written by a program of this session out of the translation). No condition. -/
import Derived.Test.YthmfjdanmbcgbaaPFnExactFlitsWaitingx0
import Derived.Test.YthmfjdanmbcgbaaPFnExactFlitsWaitingx1
import Derived.Test.YthmfjdanmbcgbaaPFnExactFlitsWaitingx2
import Derived.Test.YthmfjdanmbcgbaaPFnExactFlitsWaitingx3
import Derived.Test.YthmfjdanmbcgbaaPFnExactFlitsWaitingx4
import Derived.Test.YthmfjdanmbcgbaaPFnExactFlitsWaitingx5
import Derived.Test.YthmfjdanmbcgbaaPFnExactFlitsWaitingx6
import Derived.Test.YthmfjdanmbcgbaaPFnExactFlitsWaitingx7
import Derived.Test.YthmfjdanmbcgbaaPFnExactFlitsWaitingx8
import Derived.Test.YthmfjdanmbcgbaaPFnExactFlitsWaitingx9
import Derived.Test.YthmfjdanmbcgbaaPFnExactFlitsWaitingx10
import Derived.Test.YthmfjdanmbcgbaaPFnExactFlitsWaitingx11
import Derived.Test.YthmfjdanmbcgbaaPFnExactFlitsWaitingx12
import Derived.Test.YthmfjdanmbcgbaaPFnExactFlitsWaitingx13
import Derived.Test.YthmfjdanmbcgbaaPFnExactFlitsWaitingx14
namespace Go.Proofs.Ythmfjdanmbcgbaa.PFnExactFlitsWaiting
open Go.RowKit Go.Proofs.YthmfjdanmbcgbaaW.PrintWords Go.Proofs.YthmfjdanmbcgbaaW.PrintLast Go.Proofs.YthmfjdanmbcgbaaW.PrintMore
attribute [local go_sem] max2_int min2_int max_two min_two max_three min_three max_four min_four   -- for this text's walks alone
set_option linter.unusedVariables false
set_option linter.unusedSimpArgs false

end Go.Proofs.Ythmfjdanmbcgbaa.PFnExactFlitsWaiting
