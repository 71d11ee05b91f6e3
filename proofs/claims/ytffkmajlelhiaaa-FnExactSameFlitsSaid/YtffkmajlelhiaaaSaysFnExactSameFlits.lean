/- What the law FnExactSameFlits says over plain values (its Pure statement); the proof stands in the text Pure. No condition. -/
import Derived.Test.YtffkmajlelhiaaaPFnExactSameFlitsx3
import Derived.KernelRfl
namespace Go.Proofs.Ytffkmajlelhiaaa.Pure
open Go.RowKit Go.Proofs.Ytffkmajlelhiaaa.PFnExactSameFlits Go.Proofs.YtffkmajlelhiaaaW.PrintWords
def G87 (x : S87) : Prop := (Lit.int .i64 x.f0).wf = true ∧ (Lit.int .i64 x.f1).wf = true ∧ (Lit.int .i64 x.f2).wf = true ∧ True ∧ True
def FnExactSameFlits_says : Prop := ∀ (l0 : List S87) (l1 : List S87), (l0.length ≤ maxLen ∧ ∀ x ∈ l0, G87 x) → (l1.length ≤ maxLen ∧ ∀ x ∈ l1, G87 x) → ∃ k, laws_FnExactSameFlits.f k l0 l1 = some true
end Go.Proofs.Ytffkmajlelhiaaa.Pure
