/- What the law FnExactWholePackets says over plain values (its Pure statement); the proof stands in the text Pure. No condition. -/
import Derived.Test.YtjialkmfmpkjgaaPFnExactWholePacketsx3
import Derived.KernelRfl
namespace Go.Proofs.Ytjialkmfmpkjgaa.Pure
open Go.RowKit Go.Proofs.Ytjialkmfmpkjgaa.PFnExactWholePackets Go.Proofs.YtjialkmfmpkjgaaW.PrintWords
def G67 (x : S67) : Prop := (Lit.int .i64 x.f0).wf = true ∧ (Lit.int .i64 x.f1).wf = true ∧ (Lit.int .i64 x.f2).wf = true ∧ True ∧ True
def FnExactWholePackets_says : Prop := ∀ (l0 : List S67), (l0.length ≤ maxLen ∧ ∀ y_ ∈ l0, G67 y_) → ∃ k, laws_FnExactWholePackets.f k l0 = some true
end Go.Proofs.Ytjialkmfmpkjgaa.Pure
