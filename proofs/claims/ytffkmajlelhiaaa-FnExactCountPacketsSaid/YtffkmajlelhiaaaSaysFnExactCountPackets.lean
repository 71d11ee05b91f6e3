/- What the law FnExactCountPackets says over plain values (its Pure statement); the proof stands in the text Pure. No condition. -/
import Derived.Test.YtffkmajlelhiaaaPFnExactCountPacketsx2
import Derived.KernelRfl
namespace Go.Proofs.Ytffkmajlelhiaaa.Pure
open Go.RowKit Go.Proofs.Ytffkmajlelhiaaa.PFnExactCountPackets Go.Proofs.YtffkmajlelhiaaaW.PrintWords
def G87 (x : S87) : Prop := (Lit.int .i64 x.f0).wf = true ∧ (Lit.int .i64 x.f1).wf = true ∧ (Lit.int .i64 x.f2).wf = true ∧ True ∧ True
def FnExactCountPackets_says : Prop := ∀ (l0 : List S87), (l0.length ≤ maxLen ∧ ∀ x ∈ l0, G87 x) → ∃ k, laws_FnExactCountPackets.f k l0 = some true
end Go.Proofs.Ytffkmajlelhiaaa.Pure
