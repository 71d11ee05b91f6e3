/- Each function that the law comes to, as a plain function, with the proof that the call in the model gives what that function says (written by a program of this session out of the translation). No condition. -/
import Derived.Test.YthmfjdanmbcgbaaPFnExactHasRoomx0
import Derived.Test.YthmfjdanmbcgbaaPFnExactHasRoomx1
import Derived.Test.YthmfjdanmbcgbaaPFnExactHasRoomx2
import Derived.Test.YthmfjdanmbcgbaaPFnExactHasRoomx3
import Derived.Test.YthmfjdanmbcgbaaPFnExactHasRoomx4
import Derived.Test.YthmfjdanmbcgbaaPFnExactHasRoomx5
import Derived.Test.YthmfjdanmbcgbaaPFnExactHasRoomx6
import Derived.Test.YthmfjdanmbcgbaaPFnExactHasRoomx7
import Derived.Test.YthmfjdanmbcgbaaPFnExactHasRoomx8
import Derived.Test.YthmfjdanmbcgbaaPFnExactHasRoomx9
import Derived.Test.YthmfjdanmbcgbaaPFnExactHasRoomx10
import Derived.Test.YthmfjdanmbcgbaaPFnExactHasRoomx11
import Derived.Test.YthmfjdanmbcgbaaPFnExactHasRoomx12
import Derived.Test.YthmfjdanmbcgbaaPFnExactHasRoomx13
import Derived.Test.YthmfjdanmbcgbaaPFnExactHasRoomx14
import Derived.Test.YthmfjdanmbcgbaaPFnExactHasRoomx15
namespace Go.Proofs.Ythmfjdanmbcgbaa.PFnExactHasRoom
open Go.RowKit Go.Proofs.YthmfjdanmbcgbaaW.PrintWords Go.Proofs.YthmfjdanmbcgbaaW.PrintLast Go.Proofs.YthmfjdanmbcgbaaW.PrintMore
attribute [local go_sem] max2_int min2_int max_two min_two max_three min_three max_four min_four   -- for this text's walks alone
set_option linter.unusedVariables false
set_option linter.unusedSimpArgs false

end Go.Proofs.Ythmfjdanmbcgbaa.PFnExactHasRoom
