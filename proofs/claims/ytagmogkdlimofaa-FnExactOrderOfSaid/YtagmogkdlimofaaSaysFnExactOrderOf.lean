/- What the law FnExactOrderOf says over plain values (its Pure statement); the proof stands in the text Pure. No condition. -/
import Derived.Test.YtagmogkdlimofaaPFnExactOrderOfx7
import Derived.KernelRfl
namespace Go.Proofs.Ytagmogkdlimofaa.Pure
open Go.RowKit Go.Proofs.Ytagmogkdlimofaa.PFnExactOrderOf Go.Proofs.YtagmogkdlimofaaW.PrintWords
def G53 (x : S53) : Prop := (Lit.int .i64 x.f0).wf = true ∧ (Lit.int .i64 x.f1).wf = true
def FnExactOrderOf_says : Prop := ∀ (l0 : List S53), (l0.length ≤ maxLen ∧ ∀ y_ ∈ l0, G53 y_) → ∃ k, laws_FnExactOrderOf.f k l0 = some true
end Go.Proofs.Ytagmogkdlimofaa.Pure
