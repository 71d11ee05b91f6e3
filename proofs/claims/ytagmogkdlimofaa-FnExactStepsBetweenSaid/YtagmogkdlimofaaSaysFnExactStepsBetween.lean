/- What the law FnExactStepsBetween says over plain values (its Pure statement); the proof stands in the text Pure. No condition. -/
import Derived.Test.YtagmogkdlimofaaPFnExactStepsBetweenx8
import Derived.KernelRfl
namespace Go.Proofs.Ytagmogkdlimofaa.Pure
open Go.RowKit Go.Proofs.Ytagmogkdlimofaa.PFnExactStepsBetween Go.Proofs.YtagmogkdlimofaaW.PrintWords
def G53 (x : S53) : Prop := (Lit.int .i64 x.f0).wf = true ∧ (Lit.int .i64 x.f1).wf = true
def FnExactStepsBetween_says : Prop := ∀ (l0 : List S53) (a1 : Int) (a2 : Int), (l0.length ≤ maxLen ∧ ∀ y_ ∈ l0, G53 y_) → (Lit.int .i64 a1).wf = true → (Lit.int .i64 a2).wf = true → ∃ k, laws_FnExactStepsBetween.f k l0 a1 a2 = some true
end Go.Proofs.Ytagmogkdlimofaa.Pure
