/- Each function that the law comes to, as a plain function, with the proof that the call in the model gives what that function says (written by a program of this session out of the translation). No condition. -/
import Derived.Test.YtimdefbpoddoaaaPFnExactClassDependsx0
import Derived.Test.YtimdefbpoddoaaaPFnExactClassDependsx1
import Derived.Test.YtimdefbpoddoaaaPFnExactClassDependsx2
import Derived.Test.YtimdefbpoddoaaaPFnExactClassDependsx3
import Derived.Test.YtimdefbpoddoaaaPFnExactClassDependsx4
import Derived.Test.YtimdefbpoddoaaaPFnExactClassDependsx5
import Derived.Test.YtimdefbpoddoaaaPFnExactClassDependsx6
import Derived.Test.YtimdefbpoddoaaaPFnExactClassDependsx7
import Derived.Test.YtimdefbpoddoaaaPFnExactClassDependsx8
import Derived.Test.YtimdefbpoddoaaaPFnExactClassDependsx9
import Derived.Test.YtimdefbpoddoaaaPFnExactClassDependsx10
import Derived.Test.YtimdefbpoddoaaaPFnExactClassDependsx11
import Derived.Test.YtimdefbpoddoaaaPFnExactClassDependsx12
import Derived.Test.YtimdefbpoddoaaaPFnExactClassDependsx13
import Derived.Test.YtimdefbpoddoaaaPFnExactClassDependsx14
import Derived.Test.YtimdefbpoddoaaaPFnExactClassDependsx15
import Derived.Test.YtimdefbpoddoaaaPFnExactClassDependsx16
import Derived.Test.YtimdefbpoddoaaaPFnExactClassDependsx17
import Derived.Test.YtimdefbpoddoaaaPFnExactClassDependsx18
import Derived.Test.YtimdefbpoddoaaaPFnExactClassDependsx19
namespace Go.Proofs.Ytimdefbpoddoaaa.PFnExactClassDepends
open Go.RowKit Go.Proofs.YtimdefbpoddoaaaW.PrintWords Go.Proofs.YtimdefbpoddoaaaW.PrintLast Go.Proofs.YtimdefbpoddoaaaW.PrintMore
attribute [local go_sem] max2_int min2_int max_two min_two max_three min_three max_four min_four   -- for this text's walks alone
set_option linter.unusedVariables false
set_option linter.unusedSimpArgs false

end Go.Proofs.Ytimdefbpoddoaaa.PFnExactClassDepends
