/- What the law FnNewNets says over plain values (its Pure statement); the proof stands in the text Pure. No condition. -/
import Derived.Test.YtaofkfooijfjbaaPFnNewNetsx10
import Derived.KernelRfl
namespace Go.Proofs.Ytaofkfooijfjbaa.Pure
open Go.RowKit Go.Proofs.Ytaofkfooijfjbaa.PFnNewNets Go.Proofs.YtaofkfooijfjbaaW.PrintWords
def FnNewNets_says : Prop := ∀ (l0 : List Int), l0.length ≤ maxLen → ∃ k, laws_FnNewNets.f k l0 = some true
end Go.Proofs.Ytaofkfooijfjbaa.Pure
