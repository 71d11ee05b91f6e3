/- Each function that the law comes to, as a plain function, with the proof that the call in the model gives what that function says (written by a program of this session out of the translation). No condition. -/
import Derived.Test.YthmfjdanmbcgbaaPFnExactTotalCreditx0
import Derived.Test.YthmfjdanmbcgbaaPFnExactTotalCreditx1
import Derived.Test.YthmfjdanmbcgbaaPFnExactTotalCreditx2
import Derived.Test.YthmfjdanmbcgbaaPFnExactTotalCreditx3
import Derived.Test.YthmfjdanmbcgbaaPFnExactTotalCreditx4
import Derived.Test.YthmfjdanmbcgbaaPFnExactTotalCreditx5
import Derived.Test.YthmfjdanmbcgbaaPFnExactTotalCreditx6
import Derived.Test.YthmfjdanmbcgbaaPFnExactTotalCreditx7
import Derived.Test.YthmfjdanmbcgbaaPFnExactTotalCreditx8
import Derived.Test.YthmfjdanmbcgbaaPFnExactTotalCreditx9
import Derived.Test.YthmfjdanmbcgbaaPFnExactTotalCreditx10
import Derived.Test.YthmfjdanmbcgbaaPFnExactTotalCreditx11
import Derived.Test.YthmfjdanmbcgbaaPFnExactTotalCreditx12
import Derived.Test.YthmfjdanmbcgbaaPFnExactTotalCreditx13
import Derived.Test.YthmfjdanmbcgbaaPFnExactTotalCreditx14
import Derived.Test.YthmfjdanmbcgbaaPFnExactTotalCreditx15
namespace Go.Proofs.Ythmfjdanmbcgbaa.PFnExactTotalCredit
open Go.RowKit Go.Proofs.YthmfjdanmbcgbaaW.PrintWords Go.Proofs.YthmfjdanmbcgbaaW.PrintLast Go.Proofs.YthmfjdanmbcgbaaW.PrintMore
attribute [local go_sem] max2_int min2_int max_two min_two max_three min_three max_four min_four   -- for this text's walks alone
set_option linter.unusedVariables false
set_option linter.unusedSimpArgs false

end Go.Proofs.Ythmfjdanmbcgbaa.PFnExactTotalCredit
