/- What the law FnHops says over plain values (its Pure statement); the proof stands in the text Pure. No condition. -/
import Derived.Test.YtffkmajlelhiaaaPFnHopsx2
import Derived.KernelRfl
namespace Go.Proofs.Ytffkmajlelhiaaa.Pure
open Go.RowKit Go.Proofs.Ytffkmajlelhiaaa.PFnHops Go.Proofs.YtffkmajlelhiaaaW.PrintWords
def FnHops_says : Prop := ∀ (l0 : List Int), l0.length ≤ maxLen → ∃ k, laws_FnHops.f k l0 = some true
end Go.Proofs.Ytffkmajlelhiaaa.Pure
