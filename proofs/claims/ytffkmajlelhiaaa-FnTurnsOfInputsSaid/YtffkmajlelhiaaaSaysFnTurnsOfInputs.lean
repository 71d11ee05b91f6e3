/- What the law FnTurnsOfInputs says over plain values (its Pure statement); the proof stands in the text Pure. No condition. -/
import Derived.Test.YtffkmajlelhiaaaPFnTurnsOfInputsx2
import Derived.KernelRfl
namespace Go.Proofs.Ytffkmajlelhiaaa.Pure
open Go.RowKit Go.Proofs.Ytffkmajlelhiaaa.PFnTurnsOfInputs Go.Proofs.YtffkmajlelhiaaaW.PrintWords
def FnTurnsOfInputs_says : Prop := ∀ (l0 : List Int), l0.length ≤ maxLen → ∃ k, laws_FnTurnsOfInputs.f k l0 = some true
end Go.Proofs.Ytffkmajlelhiaaa.Pure
