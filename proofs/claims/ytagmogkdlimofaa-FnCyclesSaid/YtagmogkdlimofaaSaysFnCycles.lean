/- What the law FnCycles says over plain values (its Pure statement); the proof stands in the text Pure. No condition. -/
import Derived.Test.YtagmogkdlimofaaPFnCyclesx11
import Derived.KernelRfl
namespace Go.Proofs.Ytagmogkdlimofaa.Pure
open Go.RowKit Go.Proofs.Ytagmogkdlimofaa.PFnCycles Go.Proofs.YtagmogkdlimofaaW.PrintWords
def FnCycles_says : Prop := ∀ (l0 : List Int), l0.length ≤ maxLen → ∃ k, laws_FnCycles.f k l0 = some true
end Go.Proofs.Ytagmogkdlimofaa.Pure
