/- Each function that the law comes to, as a plain function, with the proof that the call in the model gives what that function says (written by a program of this session out of the translation). No condition. -/
import Derived.Test.YtimdefbpoddoaaaPFnExactProvesVerdictx0
import Derived.Test.YtimdefbpoddoaaaPFnExactProvesVerdictx1
import Derived.Test.YtimdefbpoddoaaaPFnExactProvesVerdictx2
import Derived.Test.YtimdefbpoddoaaaPFnExactProvesVerdictx3
import Derived.Test.YtimdefbpoddoaaaPFnExactProvesVerdictx4
import Derived.Test.YtimdefbpoddoaaaPFnExactProvesVerdictx5
import Derived.Test.YtimdefbpoddoaaaPFnExactProvesVerdictx6
import Derived.Test.YtimdefbpoddoaaaPFnExactProvesVerdictx7
import Derived.Test.YtimdefbpoddoaaaPFnExactProvesVerdictx8
import Derived.Test.YtimdefbpoddoaaaPFnExactProvesVerdictx9
import Derived.Test.YtimdefbpoddoaaaPFnExactProvesVerdictx10
import Derived.Test.YtimdefbpoddoaaaPFnExactProvesVerdictx11
import Derived.Test.YtimdefbpoddoaaaPFnExactProvesVerdictx12
import Derived.Test.YtimdefbpoddoaaaPFnExactProvesVerdictx13
import Derived.Test.YtimdefbpoddoaaaPFnExactProvesVerdictx14
import Derived.Test.YtimdefbpoddoaaaPFnExactProvesVerdictx15
import Derived.Test.YtimdefbpoddoaaaPFnExactProvesVerdictx16
import Derived.Test.YtimdefbpoddoaaaPFnExactProvesVerdictx17
import Derived.Test.YtimdefbpoddoaaaPFnExactProvesVerdictx18
namespace Go.Proofs.Ytimdefbpoddoaaa.PFnExactProvesVerdict
open Go.RowKit Go.Proofs.YtimdefbpoddoaaaW.PrintWords Go.Proofs.YtimdefbpoddoaaaW.PrintLast Go.Proofs.YtimdefbpoddoaaaW.PrintMore
attribute [local go_sem] max2_int min2_int max_two min_two max_three min_three max_four min_four   -- for this text's walks alone
set_option linter.unusedVariables false
set_option linter.unusedSimpArgs false

end Go.Proofs.Ytimdefbpoddoaaa.PFnExactProvesVerdict
