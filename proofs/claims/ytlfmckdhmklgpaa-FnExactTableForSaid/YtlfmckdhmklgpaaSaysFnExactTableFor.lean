/- What the law FnExactTableFor says over plain values (its Pure statement); the proof stands in the text Pure. No condition. -/
import Derived.Test.YtlfmckdhmklgpaaPFnExactTableForx3
import Derived.KernelRfl
namespace Go.Proofs.Ytlfmckdhmklgpaa.Pure
open Go.RowKit Go.Proofs.Ytlfmckdhmklgpaa.PFnExactTableFor Go.Proofs.YtlfmckdhmklgpaaW.PrintWords
def FnExactTableFor_says : Prop := ∀ (l0_0 : List Int) (l0_1 : List Int) (a1 : Int), l0_0.length ≤ maxLen → l0_1.length ≤ maxLen → (Lit.int .i64 a1).wf = true → ∃ k, laws_FnExactTableFor.f k l0_0 l0_1 a1 = some true
end Go.Proofs.Ytlfmckdhmklgpaa.Pure
