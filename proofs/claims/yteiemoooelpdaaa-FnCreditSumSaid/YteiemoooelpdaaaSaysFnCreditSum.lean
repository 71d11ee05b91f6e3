/- What the law FnCreditSum says over plain values (its Pure statement); the proof stands in the text Pure. No condition. -/
import Derived.Test.YteiemoooelpdaaaPFnCreditSumx21
import Derived.KernelRfl
namespace Go.Proofs.Yteiemoooelpdaaa.Pure
open Go.RowKit Go.Proofs.Yteiemoooelpdaaa.PFnCreditSum Go.Proofs.YteiemoooelpdaaaW.PrintWords
def FnCreditSum_says : Prop := ∀ (l0 : List Int), l0.length ≤ maxLen → ∃ k, laws_FnCreditSum.f k l0 = some true
end Go.Proofs.Yteiemoooelpdaaa.Pure
