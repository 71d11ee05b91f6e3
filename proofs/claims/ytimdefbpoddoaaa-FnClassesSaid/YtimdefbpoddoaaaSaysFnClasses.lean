/- What the law FnClasses says over plain values (its Pure statement); the proof stands in the text Pure. No condition. -/
import Derived.Test.YtimdefbpoddoaaaPFnClassesx13
import Derived.KernelRfl
namespace Go.Proofs.Ytimdefbpoddoaaa.Pure
open Go.RowKit Go.Proofs.Ytimdefbpoddoaaa.PFnClasses Go.Proofs.YtimdefbpoddoaaaW.PrintWords
def FnClasses_says : Prop := ∀ (l0 : List Int), l0.length ≤ maxLen → ∃ k, laws_FnClasses.f k l0 = some true
end Go.Proofs.Ytimdefbpoddoaaa.Pure
