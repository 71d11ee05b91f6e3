/- What the law FnExactNumberPackets says over plain values (its Pure statement); the proof stands in the text Pure. No condition. -/
import Derived.Test.YtlfmckdhmklgpaaPFnExactNumberPacketsx3
import Derived.KernelRfl
namespace Go.Proofs.Ytlfmckdhmklgpaa.Pure
open Go.RowKit Go.Proofs.Ytlfmckdhmklgpaa.PFnExactNumberPackets Go.Proofs.YtlfmckdhmklgpaaW.PrintWords
def G76 (x : S76) : Prop := (Lit.int .i64 x.f0).wf = true ∧ (Lit.int .i64 x.f1).wf = true ∧ (Lit.int .i64 x.f2).wf = true ∧ (Lit.int .i64 x.f3).wf = true ∧ (Lit.int .i64 x.f4).wf = true
def FnExactNumberPackets_says : Prop := ∀ (l0 : List S76), (l0.length ≤ maxLen ∧ ∀ x ∈ l0, G76 x) → ∃ k, laws_FnExactNumberPackets.f k l0 = some true
end Go.Proofs.Ytlfmckdhmklgpaa.Pure
