/- What the law FnRings says over plain values (its Pure statement); the proof stands in the text Pure. No condition. -/
import Derived.Test.YtimdefbpoddoaaaPFnRingsx8
import Derived.KernelRfl
namespace Go.Proofs.Ytimdefbpoddoaaa.Pure
open Go.RowKit Go.Proofs.Ytimdefbpoddoaaa.PFnRings Go.Proofs.YtimdefbpoddoaaaW.PrintWords
def FnRings_says : Prop := ∀ (l0 : List Int), l0.length ≤ maxLen → ∃ k, laws_FnRings.f k l0 = some true
end Go.Proofs.Ytimdefbpoddoaaa.Pure
