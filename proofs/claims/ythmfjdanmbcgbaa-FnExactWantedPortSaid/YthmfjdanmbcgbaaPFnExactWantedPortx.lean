/- Each function that the law comes to, as a plain function, with the proof that the call in the model gives what that function says (written by a program of this session out of the translation). No condition. -/
import Derived.Test.YthmfjdanmbcgbaaPFnExactWantedPortx0
import Derived.Test.YthmfjdanmbcgbaaPFnExactWantedPortx1
import Derived.Test.YthmfjdanmbcgbaaPFnExactWantedPortx2
import Derived.Test.YthmfjdanmbcgbaaPFnExactWantedPortx3
import Derived.Test.YthmfjdanmbcgbaaPFnExactWantedPortx4
import Derived.Test.YthmfjdanmbcgbaaPFnExactWantedPortx5
import Derived.Test.YthmfjdanmbcgbaaPFnExactWantedPortx6
import Derived.Test.YthmfjdanmbcgbaaPFnExactWantedPortx7
import Derived.Test.YthmfjdanmbcgbaaPFnExactWantedPortx8
import Derived.Test.YthmfjdanmbcgbaaPFnExactWantedPortx9
import Derived.Test.YthmfjdanmbcgbaaPFnExactWantedPortx10
import Derived.Test.YthmfjdanmbcgbaaPFnExactWantedPortx11
import Derived.Test.YthmfjdanmbcgbaaPFnExactWantedPortx12
import Derived.Test.YthmfjdanmbcgbaaPFnExactWantedPortx13
import Derived.Test.YthmfjdanmbcgbaaPFnExactWantedPortx14
import Derived.Test.YthmfjdanmbcgbaaPFnExactWantedPortx15
namespace Go.Proofs.Ythmfjdanmbcgbaa.PFnExactWantedPort
open Go.RowKit Go.Proofs.YthmfjdanmbcgbaaW.PrintWords Go.Proofs.YthmfjdanmbcgbaaW.PrintLast Go.Proofs.YthmfjdanmbcgbaaW.PrintMore
attribute [local go_sem] max2_int min2_int max_two min_two max_three min_three max_four min_four   -- for this text's walks alone
set_option linter.unusedVariables false
set_option linter.unusedSimpArgs false

end Go.Proofs.Ythmfjdanmbcgbaa.PFnExactWantedPort
