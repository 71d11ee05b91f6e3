/- Each function that the law comes to, as a plain function, with the proof that the call in the model gives what that function says (written by a program of this session out of the translation). No condition. -/
import Derived.Test.YthmfjdanmbcgbaaPFnExactCreditOfx0
import Derived.Test.YthmfjdanmbcgbaaPFnExactCreditOfx1
import Derived.Test.YthmfjdanmbcgbaaPFnExactCreditOfx2
import Derived.Test.YthmfjdanmbcgbaaPFnExactCreditOfx3
import Derived.Test.YthmfjdanmbcgbaaPFnExactCreditOfx4
import Derived.Test.YthmfjdanmbcgbaaPFnExactCreditOfx5
import Derived.Test.YthmfjdanmbcgbaaPFnExactCreditOfx6
import Derived.Test.YthmfjdanmbcgbaaPFnExactCreditOfx7
import Derived.Test.YthmfjdanmbcgbaaPFnExactCreditOfx8
import Derived.Test.YthmfjdanmbcgbaaPFnExactCreditOfx9
import Derived.Test.YthmfjdanmbcgbaaPFnExactCreditOfx10
import Derived.Test.YthmfjdanmbcgbaaPFnExactCreditOfx11
import Derived.Test.YthmfjdanmbcgbaaPFnExactCreditOfx12
import Derived.Test.YthmfjdanmbcgbaaPFnExactCreditOfx13
import Derived.Test.YthmfjdanmbcgbaaPFnExactCreditOfx14
import Derived.Test.YthmfjdanmbcgbaaPFnExactCreditOfx15
namespace Go.Proofs.Ythmfjdanmbcgbaa.PFnExactCreditOf
open Go.RowKit Go.Proofs.YthmfjdanmbcgbaaW.PrintWords Go.Proofs.YthmfjdanmbcgbaaW.PrintLast Go.Proofs.YthmfjdanmbcgbaaW.PrintMore
attribute [local go_sem] max2_int min2_int max_two min_two max_three min_three max_four min_four   -- for this text's walks alone
set_option linter.unusedVariables false
set_option linter.unusedSimpArgs false

end Go.Proofs.Ythmfjdanmbcgbaa.PFnExactCreditOf
