/- Each function that the law comes to, as a plain function, with the proof that the call in the model gives what that function says (written by a program of this session out of the translation). No condition. -/
import Derived.Test.YtimdefbpoddoaaaPFnSplitSafex0
import Derived.Test.YtimdefbpoddoaaaPFnSplitSafex1
import Derived.Test.YtimdefbpoddoaaaPFnSplitSafex2
import Derived.Test.YtimdefbpoddoaaaPFnSplitSafex3
import Derived.Test.YtimdefbpoddoaaaPFnSplitSafex4
import Derived.Test.YtimdefbpoddoaaaPFnSplitSafex5
import Derived.Test.YtimdefbpoddoaaaPFnSplitSafex6
import Derived.Test.YtimdefbpoddoaaaPFnSplitSafex7
import Derived.Test.YtimdefbpoddoaaaPFnSplitSafex8
import Derived.Test.YtimdefbpoddoaaaPFnSplitSafex9
import Derived.Test.YtimdefbpoddoaaaPFnSplitSafex10
import Derived.Test.YtimdefbpoddoaaaPFnSplitSafex11
import Derived.Test.YtimdefbpoddoaaaPFnSplitSafex12
namespace Go.Proofs.Ytimdefbpoddoaaa.PFnSplitSafe
open Go.RowKit Go.Proofs.YtimdefbpoddoaaaW.PrintWords Go.Proofs.YtimdefbpoddoaaaW.PrintLast Go.Proofs.YtimdefbpoddoaaaW.PrintMore
attribute [local go_sem] max2_int min2_int max_two min_two max_three min_three max_four min_four   -- for this text's walks alone
set_option linter.unusedVariables false
set_option linter.unusedSimpArgs false

end Go.Proofs.Ytimdefbpoddoaaa.PFnSplitSafe
