/- What the law FnSafeRules says over plain values (its Pure statement); the proof stands in the text Pure. No condition. -/
import Derived.Test.YtimdefbpoddoaaaPFnSafeRulesx12
import Derived.KernelRfl
namespace Go.Proofs.Ytimdefbpoddoaaa.Pure
open Go.RowKit Go.Proofs.Ytimdefbpoddoaaa.PFnSafeRules Go.Proofs.YtimdefbpoddoaaaW.PrintWords
def FnSafeRules_says : Prop := ∀ (l0 : List Int), l0.length ≤ maxLen → ∃ k, laws_FnSafeRules.f k l0 = some true
end Go.Proofs.Ytimdefbpoddoaaa.Pure
