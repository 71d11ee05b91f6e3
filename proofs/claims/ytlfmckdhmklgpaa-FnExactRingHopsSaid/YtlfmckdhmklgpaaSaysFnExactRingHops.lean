/- What the law FnExactRingHops says over plain values (its Pure statement); the proof stands in the text Pure. No condition. -/
import Derived.Test.YtlfmckdhmklgpaaPFnExactRingHopsx2
import Derived.KernelRfl
namespace Go.Proofs.Ytlfmckdhmklgpaa.Pure
open Go.RowKit Go.Proofs.Ytlfmckdhmklgpaa.PFnExactRingHops Go.Proofs.YtlfmckdhmklgpaaW.PrintWords
def FnExactRingHops_says : Prop := ∀ (a0 : Int) (a1 : Int) (a2 : Int) (a3 : Bool), (Lit.int .i64 a0).wf = true → (Lit.int .i64 a1).wf = true → (Lit.int .i64 a2).wf = true → ∃ k, laws_FnExactRingHops.f k a0 a1 a2 a3 = some true
end Go.Proofs.Ytlfmckdhmklgpaa.Pure
