/- What the law FnExactRingIsSafe says over plain values (its Pure statement); the proof stands in the text Pure. No condition. -/
import Derived.Test.YtimdefbpoddoaaaPFnExactRingIsSafex13
import Derived.KernelRfl
namespace Go.Proofs.Ytimdefbpoddoaaa.Pure
open Go.RowKit Go.Proofs.Ytimdefbpoddoaaa.PFnExactRingIsSafe Go.Proofs.YtimdefbpoddoaaaW.PrintWords
def FnExactRingIsSafe_says : Prop := ∀ (a0 : Int) (a1 : Bool), (Lit.int .i64 a0).wf = true → ∃ k, laws_FnExactRingIsSafe.f k a0 a1 = some true
end Go.Proofs.Ytimdefbpoddoaaa.Pure
