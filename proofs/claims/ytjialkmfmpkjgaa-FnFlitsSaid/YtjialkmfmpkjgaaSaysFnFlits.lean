/- What the law FnFlits says over plain values (its Pure statement); the proof stands in the text Pure. No condition. -/
import Derived.Test.YtjialkmfmpkjgaaPFnFlitsx5
import Derived.KernelRfl
namespace Go.Proofs.Ytjialkmfmpkjgaa.Pure
open Go.RowKit Go.Proofs.Ytjialkmfmpkjgaa.PFnFlits Go.Proofs.YtjialkmfmpkjgaaW.PrintWords
def FnFlits_says : Prop := ∀ (l0 : List Int), l0.length ≤ maxLen → ∃ k, laws_FnFlits.f k l0 = some true
end Go.Proofs.Ytjialkmfmpkjgaa.Pure
