/- What the law FnSplitSafe says over plain values (its Pure statement); the proof stands in the text Pure. No condition. -/
import Derived.Test.YtimdefbpoddoaaaPFnSplitSafex12
import Derived.KernelRfl
namespace Go.Proofs.Ytimdefbpoddoaaa.Pure
open Go.RowKit Go.Proofs.Ytimdefbpoddoaaa.PFnSplitSafe Go.Proofs.YtimdefbpoddoaaaW.PrintWords
def FnSplitSafe_says : Prop := ∀ (l0 : List Int), l0.length ≤ maxLen → ∃ k, laws_FnSplitSafe.f k l0 = some true
end Go.Proofs.Ytimdefbpoddoaaa.Pure
