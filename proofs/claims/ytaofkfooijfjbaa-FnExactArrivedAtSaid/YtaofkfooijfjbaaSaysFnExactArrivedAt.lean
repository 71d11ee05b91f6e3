/- What the law FnExactArrivedAt says over plain values (its Pure statement); the proof stands in the text Pure. No condition. -/
import Derived.Test.YtaofkfooijfjbaaPFnExactArrivedAtx16
import Derived.KernelRfl
namespace Go.Proofs.Ytaofkfooijfjbaa.Pure
open Go.RowKit Go.Proofs.Ytaofkfooijfjbaa.PFnExactArrivedAt Go.Proofs.YtaofkfooijfjbaaW.PrintWords
def G133 (x : S133) : Prop := (Lit.int .i64 x.f0).wf = true ∧ (Lit.int .i64 x.f1).wf = true ∧ (Lit.int .i64 x.f2).wf = true ∧ True ∧ True
def G117 (x : List S133) : Prop := (x.length ≤ maxLen ∧ ∀ y_ ∈ x, G133 y_)
def FnExactArrivedAt_says : Prop := ∀ (a0_0 : Int) (a0_1 : Int) (l0_2 : List Int) (l0_3 : List Int) (l0_4 : List Int) (l0_5 : List (List S133)) (l0_6 : List Int) (l0_7 : List Int) (l0_8 : List (List S133)) (l0_9 : List (List S133)) (a0_10 : Int) (a1 : Int) (a2 : Int), (Lit.int .i64 a0_0).wf = true → (Lit.int .i64 a0_1).wf = true → l0_2.length ≤ maxLen → l0_3.length ≤ maxLen → l0_4.length ≤ maxLen → (l0_5.length ≤ maxLen ∧ ∀ y_ ∈ l0_5, G117 y_) → l0_6.length ≤ maxLen → l0_7.length ≤ maxLen → (l0_8.length ≤ maxLen ∧ ∀ y_ ∈ l0_8, G117 y_) → (l0_9.length ≤ maxLen ∧ ∀ y_ ∈ l0_9, G117 y_) → (Lit.int .i64 a0_10).wf = true → (Lit.int .i64 a1).wf = true → (Lit.int .i64 a2).wf = true → ∃ k, laws_FnExactArrivedAt.f k a0_0 a0_1 l0_2 l0_3 l0_4 l0_5 l0_6 l0_7 l0_8 l0_9 a0_10 a1 a2 = some true
end Go.Proofs.Ytaofkfooijfjbaa.Pure
