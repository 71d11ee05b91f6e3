/- The plain statement of the law FnExactBufferAt: the program's BufferAt and the reference's give one number. No condition. -/
import Derived.Test.YtffkmajlelhiaaaPFnExactBufferAtx
import Derived.Test.YtffkmajlelhiaaaU
import Derived.Test.YtffkmajlelhiaaaSaysFnExactBufferAt
namespace Go.Proofs.Ytffkmajlelhiaaa.Pure
open Go.RowKit Go.Proofs.Ytffkmajlelhiaaa.PFnExactBufferAt Go.Proofs.YtffkmajlelhiaaaW.PrintWords Go.Proofs.YtffkmajlelhiaaaW.PrintLast Go.Proofs.YtffkmajlelhiaaaW.PrintMore Go.Proofs.Ytffkmajlelhiaaa.U
set_option linter.unusedVariables false
set_option linter.unusedSimpArgs false

/-! ### in -/
theorem l01In_f (a b c : Int) : spec_l01In.f a b c = some (decide (b ≤ a ∧ a ≤ c)) := by
  unfold spec_l01In.f
  by_cases h : a ≥ b
  · rw [if_pos h]
    simp [show b ≤ a from h]
  · rw [if_neg h]
    simp [show ¬ b ≤ a from h]

/-! ### inside -/
theorem inside_f (a b c : Int) : impl_inside.f a b c = some (decide (b ≤ a ∧ a ≤ c)) := by
  unfold impl_inside.f
  by_cases h : b ≤ a
  · rw [if_pos h]
    simp [h]
  · rw [if_neg h]
    simp [h]

/-! ### BufferAt -/
theorem BufferAt_eq (a b c : Int) : impl_BufferAt.f a b c = spec_BufferAt.f a b c := by
  unfold impl_BufferAt.f spec_BufferAt.f
  simp only [l01In_f, inside_f]
theorem BufferAt_some (a b c : Int) : ∃ r, spec_BufferAt.f a b c = some r := by
  unfold spec_BufferAt.f
  simp only [l01In_f, Option.bind_some]
  repeat' split
  all_goals exact ⟨_, rfl⟩

theorem FnExactBufferAt : FnExactBufferAt_says := by
  intro a0 a1 a2 _ _ _
  obtain ⟨r, hr⟩ := BufferAt_some a0 a1 a2
  unfold laws_FnExactBufferAt.f
  rw [BufferAt_eq, hr]
  simp

end Go.Proofs.Ytffkmajlelhiaaa.Pure
