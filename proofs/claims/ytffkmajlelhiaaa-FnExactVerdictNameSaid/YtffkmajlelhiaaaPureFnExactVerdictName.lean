/- The plain statement of the law FnExactVerdictName: the program's VerdictName and the reference's give one text. No condition. -/
import Derived.Test.YtffkmajlelhiaaaPFnExactVerdictNamex
import Derived.Test.YtffkmajlelhiaaaU
import Derived.Test.YtffkmajlelhiaaaSaysFnExactVerdictName
namespace Go.Proofs.Ytffkmajlelhiaaa.Pure
open Go.RowKit Go.Proofs.Ytffkmajlelhiaaa.PFnExactVerdictName Go.Proofs.YtffkmajlelhiaaaW.PrintWords Go.Proofs.YtffkmajlelhiaaaW.PrintLast Go.Proofs.YtffkmajlelhiaaaW.PrintMore Go.Proofs.Ytffkmajlelhiaaa.U
set_option linter.unusedVariables false
set_option linter.unusedSimpArgs false

/-! ### in -/
theorem l01In_f (a b c : Int) : spec_l01In.f a b c = some (decide (b ≤ a ∧ a ≤ c)) := by
  unfold spec_l01In.f
  by_cases h : a ≥ b
  · rw [if_pos h]
    simp [show b ≤ a from h]
  · rw [if_neg h]
    simp [show ¬ b ≤ a from h]

theorem VerdictName_s (a : Int) : spec_VerdictName.f a = impl_VerdictName.f a := by
  unfold spec_VerdictName.f impl_VerdictName.f
  simp only [l01In_f, Option.bind_some, decide_eq_true_eq, List.length_cons, List.length_nil]
  by_cases h0 : a = 0
  · subst h0
    rfl
  by_cases h1 : a = 1
  · subst h1
    rfl
  by_cases h2 : a = 2
  · subst h2
    rfl
  rw [if_neg (by omega), if_neg h0, if_neg h1, if_neg h2]
theorem VerdictName_some (a : Int) : ∃ r, impl_VerdictName.f a = some r := by
  unfold impl_VerdictName.f
  repeat' split
  all_goals exact ⟨_, rfl⟩
theorem FnExactVerdictName : FnExactVerdictName_says := by
  intro a _
  obtain ⟨r, hr⟩ := VerdictName_some a
  unfold laws_FnExactVerdictName.f
  rw [VerdictName_s, hr]
  simp

end Go.Proofs.Ytffkmajlelhiaaa.Pure
