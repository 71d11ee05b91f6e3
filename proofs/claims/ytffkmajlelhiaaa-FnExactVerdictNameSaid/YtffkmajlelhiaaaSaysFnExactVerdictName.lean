/- What the law FnExactVerdictName says over plain values (its Pure statement); the proof stands in the text Pure. No condition. -/
import Derived.Test.YtffkmajlelhiaaaPFnExactVerdictNamex1
import Derived.KernelRfl
namespace Go.Proofs.Ytffkmajlelhiaaa.Pure
open Go.RowKit Go.Proofs.Ytffkmajlelhiaaa.PFnExactVerdictName Go.Proofs.YtffkmajlelhiaaaW.PrintWords
def FnExactVerdictName_says : Prop := ∀ (a0 : Int), (Lit.int .i64 a0).wf = true → laws_FnExactVerdictName.f a0 = some true
end Go.Proofs.Ytffkmajlelhiaaa.Pure
