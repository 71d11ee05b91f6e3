/- Each function that the law comes to, as a plain function, with the proof that the call in the model gives what that function says (written by a program of this session out of the translation). No condition. -/
import Derived.Test.YtimdefbpoddoaaaPFnRingsx0
import Derived.Test.YtimdefbpoddoaaaPFnRingsx1
import Derived.Test.YtimdefbpoddoaaaPFnRingsx2
import Derived.Test.YtimdefbpoddoaaaPFnRingsx3
import Derived.Test.YtimdefbpoddoaaaPFnRingsx4
import Derived.Test.YtimdefbpoddoaaaPFnRingsx5
import Derived.Test.YtimdefbpoddoaaaPFnRingsx6
import Derived.Test.YtimdefbpoddoaaaPFnRingsx7
import Derived.Test.YtimdefbpoddoaaaPFnRingsx8
namespace Go.Proofs.Ytimdefbpoddoaaa.PFnRings
open Go.RowKit Go.Proofs.YtimdefbpoddoaaaW.PrintWords Go.Proofs.YtimdefbpoddoaaaW.PrintLast Go.Proofs.YtimdefbpoddoaaaW.PrintMore
attribute [local go_sem] max2_int min2_int max_two min_two max_three min_three max_four min_four   -- for this text's walks alone
set_option linter.unusedVariables false
set_option linter.unusedSimpArgs false

end Go.Proofs.Ytimdefbpoddoaaa.PFnRings
