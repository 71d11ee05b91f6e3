/- What the law FnExactNetNew says over plain values (its Pure statement); the proof stands in the text Pure. No condition. -/
import Derived.Test.YtmdfcdhblflaaaaPFnExactNetNewx13
import Derived.KernelRfl
namespace Go.Proofs.Ytmdfcdhblflaaaa.Pure
open Go.RowKit Go.Proofs.Ytmdfcdhblflaaaa.PFnExactNetNew Go.Proofs.YtmdfcdhblflaaaaW.PrintWords
def FnExactNetNew_says : Prop := ∀ (a0_0 : Int) (a0_1 : Int) (l0_2 : List Int) (l1_0 : List Int) (l1_1 : List Int), (Lit.int .i64 a0_0).wf = true → (Lit.int .i64 a0_1).wf = true → l0_2.length ≤ maxLen → l1_0.length ≤ maxLen → l1_1.length ≤ maxLen → ∃ k, laws_FnExactNetNew.f k a0_0 a0_1 l0_2 l1_0 l1_1 = some true
end Go.Proofs.Ytmdfcdhblflaaaa.Pure
