/- What the law FnExactIdsDistinct says over plain values (its Pure statement); the proof stands in the text Pure. No condition. -/
import Derived.Test.YtffkmajlelhiaaaPFnExactIdsDistinctx2
import Derived.KernelRfl
namespace Go.Proofs.Ytffkmajlelhiaaa.Pure
open Go.RowKit Go.Proofs.Ytffkmajlelhiaaa.PFnExactIdsDistinct Go.Proofs.YtffkmajlelhiaaaW.PrintWords
def G29 (x : S29) : Prop := (Lit.int .i64 x.f0).wf = true ∧ (Lit.int .i64 x.f1).wf = true ∧ (Lit.int .i64 x.f2).wf = true ∧ (Lit.int .i64 x.f3).wf = true ∧ (Lit.int .i64 x.f4).wf = true
def FnExactIdsDistinct_says : Prop := ∀ (l0 : List S29), (l0.length ≤ maxLen ∧ ∀ x ∈ l0, G29 x) → ∃ k, laws_FnExactIdsDistinct.f k l0 = some true
end Go.Proofs.Ytffkmajlelhiaaa.Pure
