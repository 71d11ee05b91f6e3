/- What the law FnExactIsCycle says over plain values (its Pure statement); the proof stands in the text Pure. No condition. -/
import Derived.Test.YtjialkmfmpkjgaaPFnExactIsCyclex7
import Derived.KernelRfl
namespace Go.Proofs.Ytjialkmfmpkjgaa.Pure
open Go.RowKit Go.Proofs.Ytjialkmfmpkjgaa.PFnExactIsCycle Go.Proofs.YtjialkmfmpkjgaaW.PrintWords
def G82 (x : S82) : Prop := (Lit.int .i64 x.f0).wf = true ∧ (Lit.int .i64 x.f1).wf = true
def FnExactIsCycle_says : Prop := ∀ (l0 : List S82) (l1 : List Int), (l0.length ≤ maxLen ∧ ∀ y_ ∈ l0, G82 y_) → l1.length ≤ maxLen → ∃ k, laws_FnExactIsCycle.f k l0 l1 = some true
end Go.Proofs.Ytjialkmfmpkjgaa.Pure
