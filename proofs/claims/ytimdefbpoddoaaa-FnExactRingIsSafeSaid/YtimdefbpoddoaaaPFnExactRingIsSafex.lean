/- Each function that the law comes to, as a plain function, with the proof that the call in the model gives what that function says (written by a program of this session out of the translation). No condition. -/
import Derived.Test.YtimdefbpoddoaaaPFnExactRingIsSafex0
import Derived.Test.YtimdefbpoddoaaaPFnExactRingIsSafex1
import Derived.Test.YtimdefbpoddoaaaPFnExactRingIsSafex2
import Derived.Test.YtimdefbpoddoaaaPFnExactRingIsSafex3
import Derived.Test.YtimdefbpoddoaaaPFnExactRingIsSafex4
import Derived.Test.YtimdefbpoddoaaaPFnExactRingIsSafex5
import Derived.Test.YtimdefbpoddoaaaPFnExactRingIsSafex6
import Derived.Test.YtimdefbpoddoaaaPFnExactRingIsSafex7
import Derived.Test.YtimdefbpoddoaaaPFnExactRingIsSafex8
import Derived.Test.YtimdefbpoddoaaaPFnExactRingIsSafex9
import Derived.Test.YtimdefbpoddoaaaPFnExactRingIsSafex10
import Derived.Test.YtimdefbpoddoaaaPFnExactRingIsSafex11
import Derived.Test.YtimdefbpoddoaaaPFnExactRingIsSafex12
import Derived.Test.YtimdefbpoddoaaaPFnExactRingIsSafex13
namespace Go.Proofs.Ytimdefbpoddoaaa.PFnExactRingIsSafe
open Go.RowKit Go.Proofs.YtimdefbpoddoaaaW.PrintWords Go.Proofs.YtimdefbpoddoaaaW.PrintLast Go.Proofs.YtimdefbpoddoaaaW.PrintMore
attribute [local go_sem] max2_int min2_int max_two min_two max_three min_three max_four min_four   -- for this text's walks alone
set_option linter.unusedVariables false
set_option linter.unusedSimpArgs false

end Go.Proofs.Ytimdefbpoddoaaa.PFnExactRingIsSafe
