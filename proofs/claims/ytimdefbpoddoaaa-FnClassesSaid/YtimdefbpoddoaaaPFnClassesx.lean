/- Each function that the law comes to, as a plain function, with the proof that the call in the model gives what that function says (written by a program of this session out of the translation). No condition. -/
import Derived.Test.YtimdefbpoddoaaaPFnClassesx0
import Derived.Test.YtimdefbpoddoaaaPFnClassesx1
import Derived.Test.YtimdefbpoddoaaaPFnClassesx2
import Derived.Test.YtimdefbpoddoaaaPFnClassesx3
import Derived.Test.YtimdefbpoddoaaaPFnClassesx4
import Derived.Test.YtimdefbpoddoaaaPFnClassesx5
import Derived.Test.YtimdefbpoddoaaaPFnClassesx6
import Derived.Test.YtimdefbpoddoaaaPFnClassesx7
import Derived.Test.YtimdefbpoddoaaaPFnClassesx8
import Derived.Test.YtimdefbpoddoaaaPFnClassesx9
import Derived.Test.YtimdefbpoddoaaaPFnClassesx10
import Derived.Test.YtimdefbpoddoaaaPFnClassesx11
import Derived.Test.YtimdefbpoddoaaaPFnClassesx12
import Derived.Test.YtimdefbpoddoaaaPFnClassesx13
namespace Go.Proofs.Ytimdefbpoddoaaa.PFnClasses
open Go.RowKit Go.Proofs.YtimdefbpoddoaaaW.PrintWords Go.Proofs.YtimdefbpoddoaaaW.PrintLast Go.Proofs.YtimdefbpoddoaaaW.PrintMore
attribute [local go_sem] max2_int min2_int max_two min_two max_three min_three max_four min_four   -- for this text's walks alone
set_option linter.unusedVariables false
set_option linter.unusedSimpArgs false

end Go.Proofs.Ytimdefbpoddoaaa.PFnClasses
