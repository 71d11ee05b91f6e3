/- Each function that the law comes to, as a plain function, with the proof that the call in the model gives what that function says (written by a program of this session out of the translation). No condition. -/
import Derived.Test.YthmfjdanmbcgbaaPFnExactFlitsInsidex0
import Derived.Test.YthmfjdanmbcgbaaPFnExactFlitsInsidex1
import Derived.Test.YthmfjdanmbcgbaaPFnExactFlitsInsidex2
import Derived.Test.YthmfjdanmbcgbaaPFnExactFlitsInsidex3
import Derived.Test.YthmfjdanmbcgbaaPFnExactFlitsInsidex4
import Derived.Test.YthmfjdanmbcgbaaPFnExactFlitsInsidex5
import Derived.Test.YthmfjdanmbcgbaaPFnExactFlitsInsidex6
import Derived.Test.YthmfjdanmbcgbaaPFnExactFlitsInsidex7
import Derived.Test.YthmfjdanmbcgbaaPFnExactFlitsInsidex8
import Derived.Test.YthmfjdanmbcgbaaPFnExactFlitsInsidex9
import Derived.Test.YthmfjdanmbcgbaaPFnExactFlitsInsidex10
import Derived.Test.YthmfjdanmbcgbaaPFnExactFlitsInsidex11
import Derived.Test.YthmfjdanmbcgbaaPFnExactFlitsInsidex12
import Derived.Test.YthmfjdanmbcgbaaPFnExactFlitsInsidex13
import Derived.Test.YthmfjdanmbcgbaaPFnExactFlitsInsidex14
namespace Go.Proofs.Ythmfjdanmbcgbaa.PFnExactFlitsInside
open Go.RowKit Go.Proofs.YthmfjdanmbcgbaaW.PrintWords Go.Proofs.YthmfjdanmbcgbaaW.PrintLast Go.Proofs.YthmfjdanmbcgbaaW.PrintMore
attribute [local go_sem] max2_int min2_int max_two min_two max_three min_three max_four min_four   -- for this text's walks alone
set_option linter.unusedVariables false
set_option linter.unusedSimpArgs false

end Go.Proofs.Ythmfjdanmbcgbaa.PFnExactFlitsInside
