/- What the law FnExactSafeRules says over plain values (its Pure statement); the proof stands in the text Pure. No condition. -/
import Derived.Test.YtimdefbpoddoaaaPFnExactSafeRulesx24
import Derived.KernelRfl
namespace Go.Proofs.Ytimdefbpoddoaaa.Pure
open Go.RowKit Go.Proofs.Ytimdefbpoddoaaa.PFnExactSafeRules Go.Proofs.YtimdefbpoddoaaaW.PrintWords
def FnExactSafeRules_says : Prop := ∀ (a0_0 : Int) (a0_1 : Int), (Lit.int .i64 a0_0).wf = true → (Lit.int .i64 a0_1).wf = true → ∃ k, laws_FnExactSafeRules.f k a0_0 a0_1 = some true
end Go.Proofs.Ytimdefbpoddoaaa.Pure
