/- Each function that the law comes to, as a plain function, with the proof that the call in the model gives what that function says (written by a program of this session out of the translation). No condition. -/
import Derived.Test.YtffkmajlelhiaaaPFnExactVerdictNamex0
import Derived.Test.YtffkmajlelhiaaaPFnExactVerdictNamex1
namespace Go.Proofs.Ytffkmajlelhiaaa.PFnExactVerdictName
open Go.RowKit Go.Proofs.YtffkmajlelhiaaaW.PrintWords Go.Proofs.YtffkmajlelhiaaaW.PrintLast Go.Proofs.YtffkmajlelhiaaaW.PrintMore
attribute [local go_sem] max2_int min2_int max_two min_two max_three min_three max_four min_four   -- for this text's walks alone
set_option linter.unusedVariables false
set_option linter.unusedSimpArgs false

end Go.Proofs.Ytffkmajlelhiaaa.PFnExactVerdictName
