/- Each function that the law comes to, as a plain function, with the proof that the call in the model gives what that function says (written by a program of this session out of the translation). No condition. -/
import Derived.Test.YthmfjdanmbcgbaaPFnExactArrivedFlitsx0
import Derived.Test.YthmfjdanmbcgbaaPFnExactArrivedFlitsx1
import Derived.Test.YthmfjdanmbcgbaaPFnExactArrivedFlitsx2
import Derived.Test.YthmfjdanmbcgbaaPFnExactArrivedFlitsx3
import Derived.Test.YthmfjdanmbcgbaaPFnExactArrivedFlitsx4
import Derived.Test.YthmfjdanmbcgbaaPFnExactArrivedFlitsx5
import Derived.Test.YthmfjdanmbcgbaaPFnExactArrivedFlitsx6
import Derived.Test.YthmfjdanmbcgbaaPFnExactArrivedFlitsx7
import Derived.Test.YthmfjdanmbcgbaaPFnExactArrivedFlitsx8
import Derived.Test.YthmfjdanmbcgbaaPFnExactArrivedFlitsx9
import Derived.Test.YthmfjdanmbcgbaaPFnExactArrivedFlitsx10
import Derived.Test.YthmfjdanmbcgbaaPFnExactArrivedFlitsx11
import Derived.Test.YthmfjdanmbcgbaaPFnExactArrivedFlitsx12
import Derived.Test.YthmfjdanmbcgbaaPFnExactArrivedFlitsx13
namespace Go.Proofs.Ythmfjdanmbcgbaa.PFnExactArrivedFlits
open Go.RowKit Go.Proofs.YthmfjdanmbcgbaaW.PrintWords Go.Proofs.YthmfjdanmbcgbaaW.PrintLast Go.Proofs.YthmfjdanmbcgbaaW.PrintMore
attribute [local go_sem] max2_int min2_int max_two min_two max_three min_three max_four min_four   -- for this text's walks alone
set_option linter.unusedVariables false
set_option linter.unusedSimpArgs false

end Go.Proofs.Ythmfjdanmbcgbaa.PFnExactArrivedFlits
