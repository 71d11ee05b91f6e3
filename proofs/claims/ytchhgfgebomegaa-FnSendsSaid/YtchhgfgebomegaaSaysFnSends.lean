/- What the law FnSends says over plain values (its Pure statement); the proof stands in the text Pure. No condition. -/
import Derived.Test.YtchhgfgebomegaaPFnSendsx13
import Derived.KernelRfl
namespace Go.Proofs.Ytchhgfgebomegaa.Pure
open Go.RowKit Go.Proofs.Ytchhgfgebomegaa.PFnSends Go.Proofs.YtchhgfgebomegaaW.PrintWords
def FnSends_says : Prop := ∀ (l0 : List Int), l0.length ≤ maxLen → ∃ k, laws_FnSends.f k l0 = some true
end Go.Proofs.Ytchhgfgebomegaa.Pure
