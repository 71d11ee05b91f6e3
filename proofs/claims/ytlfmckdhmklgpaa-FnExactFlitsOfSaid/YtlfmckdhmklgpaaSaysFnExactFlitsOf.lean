/- What the law FnExactFlitsOf says over plain values (its Pure statement); the proof stands in the text Pure. No condition. -/
import Derived.Test.YtlfmckdhmklgpaaPFnExactFlitsOfx4
import Derived.KernelRfl
namespace Go.Proofs.Ytlfmckdhmklgpaa.Pure
open Go.RowKit Go.Proofs.Ytlfmckdhmklgpaa.PFnExactFlitsOf Go.Proofs.YtlfmckdhmklgpaaW.PrintWords
def FnExactFlitsOf_says : Prop := ∀ (a0_0 : Int) (a0_1 : Int) (a1_0 : Int) (a1_1 : Int) (a1_2 : Int) (a1_3 : Int) (a1_4 : Int), (Lit.int .i64 a0_0).wf = true → (Lit.int .i64 a0_1).wf = true → (Lit.int .i64 a1_0).wf = true → (Lit.int .i64 a1_1).wf = true → (Lit.int .i64 a1_2).wf = true → (Lit.int .i64 a1_3).wf = true → (Lit.int .i64 a1_4).wf = true → ∃ k, laws_FnExactFlitsOf.f k a0_0 a0_1 a1_0 a1_1 a1_2 a1_3 a1_4 = some true
end Go.Proofs.Ytlfmckdhmklgpaa.Pure
