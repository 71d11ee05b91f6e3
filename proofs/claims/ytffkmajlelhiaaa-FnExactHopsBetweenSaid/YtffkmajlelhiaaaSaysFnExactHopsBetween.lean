/- What the law FnExactHopsBetween says over plain values (its Pure statement); the proof stands in the text Pure. No condition. -/
import Derived.Test.YtffkmajlelhiaaaPFnExactHopsBetweenx1
import Derived.KernelRfl
namespace Go.Proofs.Ytffkmajlelhiaaa.Pure
open Go.RowKit Go.Proofs.Ytffkmajlelhiaaa.PFnExactHopsBetween Go.Proofs.YtffkmajlelhiaaaW.PrintWords
def FnExactHopsBetween_says : Prop := ∀ (a0 : Int) (a1 : Int) (a2 : Int), (Lit.int .i64 a0).wf = true → (Lit.int .i64 a1).wf = true → (Lit.int .i64 a2).wf = true → ∃ k, laws_FnExactHopsBetween.f k a0 a1 a2 = some true
end Go.Proofs.Ytffkmajlelhiaaa.Pure
