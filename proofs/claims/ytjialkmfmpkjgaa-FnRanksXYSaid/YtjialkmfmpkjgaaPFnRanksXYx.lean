/- Each function that the law comes to, as a plain function, with the proof that the call in the model gives what that function says (written by a program of this session out of the translation). No condition. -/
import Derived.Test.YtjialkmfmpkjgaaPFnRanksXYx0
import Derived.Test.YtjialkmfmpkjgaaPFnRanksXYx1
import Derived.Test.YtjialkmfmpkjgaaPFnRanksXYx2
import Derived.Test.YtjialkmfmpkjgaaPFnRanksXYx3
import Derived.Test.YtjialkmfmpkjgaaPFnRanksXYx4
import Derived.Test.YtjialkmfmpkjgaaPFnRanksXYx5
import Derived.Test.YtjialkmfmpkjgaaPFnRanksXYx6
import Derived.Test.YtjialkmfmpkjgaaPFnRanksXYx7
namespace Go.Proofs.Ytjialkmfmpkjgaa.PFnRanksXY
open Go.RowKit Go.Proofs.YtjialkmfmpkjgaaW.PrintWords Go.Proofs.YtjialkmfmpkjgaaW.PrintLast Go.Proofs.YtjialkmfmpkjgaaW.PrintMore
attribute [local go_sem] max2_int min2_int max_two min_two max_three min_three max_four min_four   -- for this text's walks alone
set_option linter.unusedVariables false
set_option linter.unusedSimpArgs false

end Go.Proofs.Ytjialkmfmpkjgaa.PFnRanksXY
