/- What the law FnExactRingDepends says over plain values (its Pure statement); the proof stands in the text Pure. No condition. -/
import Derived.Test.YtimdefbpoddoaaaPFnExactRingDependsx7
import Derived.KernelRfl
namespace Go.Proofs.Ytimdefbpoddoaaa.Pure
open Go.RowKit Go.Proofs.Ytimdefbpoddoaaa.PFnExactRingDepends Go.Proofs.YtimdefbpoddoaaaW.PrintWords
def FnExactRingDepends_says : Prop := ∀ (a0 : Int) (a1 : Bool), (Lit.int .i64 a0).wf = true → ∃ k, laws_FnExactRingDepends.f k a0 a1 = some true
end Go.Proofs.Ytimdefbpoddoaaa.Pure
