/- What the law FnExactFirstFrom says over plain values (its Pure statement); the proof stands in the text Pure. No condition. -/
import Derived.Test.YtffkmajlelhiaaaPFnExactFirstFromx2
import Derived.KernelRfl
namespace Go.Proofs.Ytffkmajlelhiaaa.Pure
open Go.RowKit Go.Proofs.Ytffkmajlelhiaaa.PFnExactFirstFrom Go.Proofs.YtffkmajlelhiaaaW.PrintWords
def FnExactFirstFrom_says : Prop := ∀ (l0 : List Int) (a1 : Int), l0.length ≤ maxLen → (Lit.int .i64 a1).wf = true → ∃ k, laws_FnExactFirstFrom.f k l0 a1 = some true
end Go.Proofs.Ytffkmajlelhiaaa.Pure
