/- What the law FnExactSplitClasses says over plain values (its Pure statement); the proof stands in the text Pure. No condition. -/
import Derived.Test.YtlfmckdhmklgpaaPFnExactSplitClassesx5
import Derived.KernelRfl
namespace Go.Proofs.Ytlfmckdhmklgpaa.Pure
open Go.RowKit Go.Proofs.Ytlfmckdhmklgpaa.PFnExactSplitClasses Go.Proofs.YtlfmckdhmklgpaaW.PrintWords
def FnExactSplitClasses_says : Prop := ∀ (a0_0 : Int) (a0_1 : Int), (Lit.int .i64 a0_0).wf = true → (Lit.int .i64 a0_1).wf = true → ∃ k, laws_FnExactSplitClasses.f k a0_0 a0_1 = some true
end Go.Proofs.Ytlfmckdhmklgpaa.Pure
