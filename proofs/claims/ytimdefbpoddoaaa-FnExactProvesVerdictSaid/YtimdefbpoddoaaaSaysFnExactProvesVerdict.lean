/- What the law FnExactProvesVerdict says over plain values (its Pure statement); the proof stands in the text Pure. No condition. -/
import Derived.Test.YtimdefbpoddoaaaPFnExactProvesVerdictx18
import Derived.KernelRfl
namespace Go.Proofs.Ytimdefbpoddoaaa.Pure
open Go.RowKit Go.Proofs.Ytimdefbpoddoaaa.PFnExactProvesVerdict Go.Proofs.YtimdefbpoddoaaaW.PrintWords
def FnExactProvesVerdict_says : Prop := ∀ (a0_0 : Int) (a0_1 : Int) (l0_2 : List Int) (l1_0 : List Int) (a2_0 : Int) (l2_1 : List Int) (l2_2 : List Int), (Lit.int .i64 a0_0).wf = true → (Lit.int .i64 a0_1).wf = true → l0_2.length ≤ maxLen → l1_0.length ≤ maxLen → (Lit.int .i64 a2_0).wf = true → l2_1.length ≤ maxLen → l2_2.length ≤ maxLen → ∃ k, laws_FnExactProvesVerdict.f k a0_0 a0_1 l0_2 l1_0 a2_0 l2_1 l2_2 = some true
end Go.Proofs.Ytimdefbpoddoaaa.Pure
