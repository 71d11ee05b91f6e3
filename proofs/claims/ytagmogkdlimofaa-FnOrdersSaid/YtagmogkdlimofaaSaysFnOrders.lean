/- What the law FnOrders says over plain values (its Pure statement); the proof stands in the text Pure. No condition. -/
import Derived.Test.YtagmogkdlimofaaPFnOrdersx9
import Derived.KernelRfl
namespace Go.Proofs.Ytagmogkdlimofaa.Pure
open Go.RowKit Go.Proofs.Ytagmogkdlimofaa.PFnOrders Go.Proofs.YtagmogkdlimofaaW.PrintWords
def FnOrders_says : Prop := ∀ (l0 : List Int), l0.length ≤ maxLen → ∃ k, laws_FnOrders.f k l0 = some true
end Go.Proofs.Ytagmogkdlimofaa.Pure
