/- Each function that the law comes to, as a plain function, with the proof that the call in the model gives what that function says (written by a program of this session out of the translation). No condition. -/
import Derived.Test.YtjialkmfmpkjgaaPFnExactIsCyclex0
import Derived.Test.YtjialkmfmpkjgaaPFnExactIsCyclex1
import Derived.Test.YtjialkmfmpkjgaaPFnExactIsCyclex2
import Derived.Test.YtjialkmfmpkjgaaPFnExactIsCyclex3
import Derived.Test.YtjialkmfmpkjgaaPFnExactIsCyclex4
import Derived.Test.YtjialkmfmpkjgaaPFnExactIsCyclex5
import Derived.Test.YtjialkmfmpkjgaaPFnExactIsCyclex6
import Derived.Test.YtjialkmfmpkjgaaPFnExactIsCyclex7
namespace Go.Proofs.Ytjialkmfmpkjgaa.PFnExactIsCycle
open Go.RowKit Go.Proofs.YtjialkmfmpkjgaaW.PrintWords Go.Proofs.YtjialkmfmpkjgaaW.PrintLast Go.Proofs.YtjialkmfmpkjgaaW.PrintMore
attribute [local go_sem] max2_int min2_int max_two min_two max_three min_three max_four min_four   -- for this text's walks alone
set_option linter.unusedVariables false
set_option linter.unusedSimpArgs false

end Go.Proofs.Ytjialkmfmpkjgaa.PFnExactIsCycle
