/- Each function that the law comes to, as a plain function, with the proof that the call in the model gives what that function says (written by a program of this session out of the translation). No condition. -/
import Derived.Test.YtimdefbpoddoaaaPFnSafeRulesx0
import Derived.Test.YtimdefbpoddoaaaPFnSafeRulesx1
import Derived.Test.YtimdefbpoddoaaaPFnSafeRulesx2
import Derived.Test.YtimdefbpoddoaaaPFnSafeRulesx3
import Derived.Test.YtimdefbpoddoaaaPFnSafeRulesx4
import Derived.Test.YtimdefbpoddoaaaPFnSafeRulesx5
import Derived.Test.YtimdefbpoddoaaaPFnSafeRulesx6
import Derived.Test.YtimdefbpoddoaaaPFnSafeRulesx7
import Derived.Test.YtimdefbpoddoaaaPFnSafeRulesx8
import Derived.Test.YtimdefbpoddoaaaPFnSafeRulesx9
import Derived.Test.YtimdefbpoddoaaaPFnSafeRulesx10
import Derived.Test.YtimdefbpoddoaaaPFnSafeRulesx11
import Derived.Test.YtimdefbpoddoaaaPFnSafeRulesx12
namespace Go.Proofs.Ytimdefbpoddoaaa.PFnSafeRules
open Go.RowKit Go.Proofs.YtimdefbpoddoaaaW.PrintWords Go.Proofs.YtimdefbpoddoaaaW.PrintLast Go.Proofs.YtimdefbpoddoaaaW.PrintMore
attribute [local go_sem] max2_int min2_int max_two min_two max_three min_three max_four min_four   -- for this text's walks alone
set_option linter.unusedVariables false
set_option linter.unusedSimpArgs false

end Go.Proofs.Ytimdefbpoddoaaa.PFnSafeRules
