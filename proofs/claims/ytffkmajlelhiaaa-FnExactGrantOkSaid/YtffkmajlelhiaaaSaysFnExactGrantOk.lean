/- What the law FnExactGrantOk says over plain values (its Pure statement); the proof stands in the text Pure. No condition. -/
import Derived.Test.YtffkmajlelhiaaaPFnExactGrantOkx2
import Derived.KernelRfl
namespace Go.Proofs.Ytffkmajlelhiaaa.Pure
open Go.RowKit Go.Proofs.Ytffkmajlelhiaaa.PFnExactGrantOk Go.Proofs.YtffkmajlelhiaaaW.PrintWords
def G79 (x : S79) : Prop := (Lit.int .i64 x.f0).wf = true ∧ (Lit.int .i64 x.f1).wf = true ∧ (Lit.int .i64 x.f2).wf = true
def FnExactGrantOk_says : Prop := ∀ (l0 : List S79), (l0.length ≤ maxLen ∧ ∀ x ∈ l0, G79 x) → ∃ k, laws_FnExactGrantOk.f k l0 = some true
end Go.Proofs.Ytffkmajlelhiaaa.Pure
