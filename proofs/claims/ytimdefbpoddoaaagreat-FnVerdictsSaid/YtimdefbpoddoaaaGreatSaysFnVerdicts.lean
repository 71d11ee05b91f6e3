/- What the law FnVerdicts says over plain values (its Pure statement); the proof stands in the text Pure. No condition. -/
import Derived.Test.YtimdefbpoddoaaaGreatPFnVerdictsx23
import Derived.KernelRfl
namespace Go.Proofs.YtimdefbpoddoaaaGreat.Pure
open Go.RowKit Go.Proofs.YtimdefbpoddoaaaGreat.PFnVerdicts Go.Proofs.YtimdefbpoddoaaaGreatW.PrintWords
def FnVerdicts_says : Prop := ∀ (l0 : List Int), l0.length ≤ maxLen → ∃ k, laws_FnVerdicts.f k l0 = some true
end Go.Proofs.YtimdefbpoddoaaaGreat.Pure
