/- What the law FnExactCheckTable says over plain values (its Pure statement); the proof stands in the text Pure. No condition. -/
import Derived.Test.YtimdefbpoddoaaaPFnExactCheckTablex21
import Derived.KernelRfl
namespace Go.Proofs.Ytimdefbpoddoaaa.Pure
open Go.RowKit Go.Proofs.Ytimdefbpoddoaaa.PFnExactCheckTable Go.Proofs.YtimdefbpoddoaaaW.PrintWords
def FnExactCheckTable_says : Prop := ∀ (a0_0 : Int) (a0_1 : Int) (l0_2 : List Int) (l1_0 : List Int), (Lit.int .i64 a0_0).wf = true → (Lit.int .i64 a0_1).wf = true → l0_2.length ≤ maxLen → l1_0.length ≤ maxLen → ∃ k, laws_FnExactCheckTable.f k a0_0 a0_1 l0_2 l1_0 = some true
end Go.Proofs.Ytimdefbpoddoaaa.Pure
