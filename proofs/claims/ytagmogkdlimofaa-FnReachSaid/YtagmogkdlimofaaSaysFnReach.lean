/- What the law FnReach says over plain values (its Pure statement); the proof stands in the text Pure. No condition. -/
import Derived.Test.YtagmogkdlimofaaPFnReachx9
import Derived.KernelRfl
namespace Go.Proofs.Ytagmogkdlimofaa.Pure
open Go.RowKit Go.Proofs.Ytagmogkdlimofaa.PFnReach Go.Proofs.YtagmogkdlimofaaW.PrintWords
def FnReach_says : Prop := ∀ (l0 : List Int), l0.length ≤ maxLen → ∃ k, laws_FnReach.f k l0 = some true
end Go.Proofs.Ytagmogkdlimofaa.Pure
