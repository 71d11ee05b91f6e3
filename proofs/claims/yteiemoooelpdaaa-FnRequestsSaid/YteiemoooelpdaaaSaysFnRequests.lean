/- What the law FnRequests says over plain values (its Pure statement); the proof stands in the text Pure. No condition. -/
import Derived.Test.YteiemoooelpdaaaPFnRequestsx21
import Derived.KernelRfl
namespace Go.Proofs.Yteiemoooelpdaaa.Pure
open Go.RowKit Go.Proofs.Yteiemoooelpdaaa.PFnRequests Go.Proofs.YteiemoooelpdaaaW.PrintWords
def FnRequests_says : Prop := ∀ (l0 : List Int), l0.length ≤ maxLen → ∃ k, laws_FnRequests.f k l0 = some true
end Go.Proofs.Yteiemoooelpdaaa.Pure
