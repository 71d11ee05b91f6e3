/- Each function that the law comes to, as a plain function, with the proof that the call in the model gives what that function says (written by a program of this session out of the translation). No condition. -/
import Derived.Test.YtmdfcdhblflaaaaPFnExactNetNewx0
import Derived.Test.YtmdfcdhblflaaaaPFnExactNetNewx1
import Derived.Test.YtmdfcdhblflaaaaPFnExactNetNewx2
import Derived.Test.YtmdfcdhblflaaaaPFnExactNetNewx3
import Derived.Test.YtmdfcdhblflaaaaPFnExactNetNewx4
import Derived.Test.YtmdfcdhblflaaaaPFnExactNetNewx5
import Derived.Test.YtmdfcdhblflaaaaPFnExactNetNewx6
import Derived.Test.YtmdfcdhblflaaaaPFnExactNetNewx7
import Derived.Test.YtmdfcdhblflaaaaPFnExactNetNewx8
import Derived.Test.YtmdfcdhblflaaaaPFnExactNetNewx9
import Derived.Test.YtmdfcdhblflaaaaPFnExactNetNewx10
import Derived.Test.YtmdfcdhblflaaaaPFnExactNetNewx11
import Derived.Test.YtmdfcdhblflaaaaPFnExactNetNewx12
import Derived.Test.YtmdfcdhblflaaaaPFnExactNetNewx13
namespace Go.Proofs.Ytmdfcdhblflaaaa.PFnExactNetNew
open Go.RowKit Go.Proofs.YtmdfcdhblflaaaaW.PrintWords Go.Proofs.YtmdfcdhblflaaaaW.PrintLast Go.Proofs.YtmdfcdhblflaaaaW.PrintMore
attribute [local go_sem] max2_int min2_int max_two min_two max_three min_three max_four min_four   -- for this text's walks alone
set_option linter.unusedVariables false
set_option linter.unusedSimpArgs false

end Go.Proofs.Ytmdfcdhblflaaaa.PFnExactNetNew
