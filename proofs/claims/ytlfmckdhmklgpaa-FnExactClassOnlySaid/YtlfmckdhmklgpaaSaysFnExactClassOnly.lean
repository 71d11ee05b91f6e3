/- What the law FnExactClassOnly says over plain values (its Pure statement); the proof stands in the text Pure. No condition. -/
import Derived.Test.YtlfmckdhmklgpaaPFnExactClassOnlyx3
import Derived.KernelRfl
namespace Go.Proofs.Ytlfmckdhmklgpaa.Pure
open Go.RowKit Go.Proofs.Ytlfmckdhmklgpaa.PFnExactClassOnly Go.Proofs.YtlfmckdhmklgpaaW.PrintWords
def G112 (x : S112) : Prop := (Lit.int .i64 x.f0).wf = true ∧ (Lit.int .i64 x.f1).wf = true ∧ (Lit.int .i64 x.f2).wf = true ∧ True ∧ True
def FnExactClassOnly_says : Prop := ∀ (l0 : List S112) (a1 : Int), (l0.length ≤ maxLen ∧ ∀ x ∈ l0, G112 x) → (Lit.int .i64 a1).wf = true → ∃ k, laws_FnExactClassOnly.f k l0 a1 = some true
end Go.Proofs.Ytlfmckdhmklgpaa.Pure
