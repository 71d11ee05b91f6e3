/- What the law FnRanksXY says over plain values (its Pure statement); the proof stands in the text Pure. No condition. -/
import Derived.Test.YtjialkmfmpkjgaaPFnRanksXYx7
import Derived.KernelRfl
namespace Go.Proofs.Ytjialkmfmpkjgaa.Pure
open Go.RowKit Go.Proofs.Ytjialkmfmpkjgaa.PFnRanksXY Go.Proofs.YtjialkmfmpkjgaaW.PrintWords
def FnRanksXY_says : Prop := ∀ (l0 : List Int), l0.length ≤ maxLen → ∃ k, laws_FnRanksXY.f k l0 = some true
end Go.Proofs.Ytjialkmfmpkjgaa.Pure
