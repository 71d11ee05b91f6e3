/- The plain statement of the law FnExactHopsBetween: the program's HopsBetween and the reference's give one number. No condition. -/
import Derived.Test.YtffkmajlelhiaaaPFnExactHopsBetweenx
import Derived.Test.YtffkmajlelhiaaaU
import Derived.Test.YtffkmajlelhiaaaSaysFnExactHopsBetween
namespace Go.Proofs.Ytffkmajlelhiaaa.Pure
open Go.RowKit Go.Proofs.Ytffkmajlelhiaaa.PFnExactHopsBetween Go.Proofs.YtffkmajlelhiaaaW.PrintWords Go.Proofs.YtffkmajlelhiaaaW.PrintLast Go.Proofs.YtffkmajlelhiaaaW.PrintMore Go.Proofs.Ytffkmajlelhiaaa.U
set_option linter.unusedVariables false
set_option linter.unusedSimpArgs false

/-! ### in -/
theorem l01In_f (a b c : Int) : spec_l01In.f a b c = some (decide (b ≤ a ∧ a ≤ c)) := by
  unfold spec_l01In.f
  by_cases h : a ≥ b
  · rw [if_pos h]
    simp [show b ≤ a from h]
  · rw [if_neg h]
    simp [show ¬ b ≤ a from h]

/-! ### inside -/
theorem inside_f (a b c : Int) : impl_inside.f a b c = some (decide (b ≤ a ∧ a ≤ c)) := by
  unfold impl_inside.f
  by_cases h : b ≤ a
  · rw [if_pos h]
    simp [h]
  · rw [if_neg h]
    simp [h]

/-! ### isRing -/
theorem isRing_f (n a b : Int) : Ev (fun k => impl_isRing.f k n [a, b]) (decide (2 ≤ n ∧ n ≤ 12 ∧ 0 ≤ a ∧ a ≤ wrap64 (n - 1) ∧ 0 ≤ b ∧ b ≤ wrap64 (n - 1))) := by
  unfold impl_isRing.f
  refine Ev.suc ?_
  simp only [impl_isRing.l0, rd, inside_f, Option.bind_some]
  refine Ev.ite_pos (by simp) ?_
  refine Ev.ite_pos (by simp) ?_
  refine Ev.ite_pos (by simp) ?_
  simp only [show ([a, b] : List Int).getD (0 : Int).toNat 0 = a from rfl, decide_eq_true_eq]
  refine Ev.ite (fun ha => ?_) (fun ha => Ev.val ?_)
  · rw [show wrap64 (0 + 1) = 1 from w64 (x := 0 + 1) (by decide) (by decide)]
    refine Ev.suc ?_
    simp only [impl_isRing.l0, rd, inside_f, Option.bind_some]
    refine Ev.ite_pos (by simp) ?_
    refine Ev.ite_pos (by simp) ?_
    refine Ev.ite_pos (by simp) ?_
    simp only [show ([a, b] : List Int).getD (1 : Int).toNat 0 = b from rfl, decide_eq_true_eq]
    refine Ev.ite (fun hb => ?_) (fun hb => Ev.val ?_)
    · rw [show wrap64 (1 + 1) = 2 from w64 (x := 1 + 1) (by decide) (by decide)]
      refine Ev.suc ?_
      simp only [impl_isRing.l0, inside_f, Option.bind_some]
      refine Ev.ite_neg (by simp) ?_
      refine Ev.val ?_
      rw [decide_eq_decide]
      constructor
      · intro h
        exact ⟨h.1, h.2, ha.1, ha.2, hb.1, hb.2⟩
      · intro h
        exact ⟨h.1, h.2.1⟩
    · symm
      rw [decide_eq_false_iff_not]
      intro h
      exact hb ⟨h.2.2.2.2.1, h.2.2.2.2.2⟩
  · symm
    rw [decide_eq_false_iff_not]
    intro h
    exact ha ⟨h.2.2.1, h.2.2.2.1⟩

/-! ### HopsBetween -/
theorem l13Ok_f (n a b : Int) : spec_l13Ok.f n a b = some (decide (2 ≤ n ∧ n ≤ 12 ∧ 0 ≤ a ∧ a ≤ wrap64 (n - 1) ∧ 0 ≤ b ∧ b ≤ wrap64 (n - 1))) := by
  unfold spec_l13Ok.f
  simp only [l01In_f, Option.bind_some, decide_eq_true_eq]
  split
  · split
    · rename_i h1 h2
      simp only [Option.bind_some, Option.some.injEq, decide_eq_decide]
      exact ⟨fun h => ⟨h1.1, h1.2, h2.1, h2.2, h.1, h.2⟩, fun h => ⟨h.2.2.2.2.1, h.2.2.2.2.2⟩⟩
    · rename_i h1 h2
      simp only [Option.some.injEq]
      symm
      rw [decide_eq_false_iff_not]
      exact fun h => h2 ⟨h.2.2.1, h.2.2.2.1⟩
  · rename_i h1
    simp only [Option.some.injEq]
    symm
    rw [decide_eq_false_iff_not]
    exact fun h => h1 ⟨h.1, h.2.1⟩
abbrev ringOk (n a b : Int) : Prop := 2 ≤ n ∧ n ≤ 12 ∧ 0 ≤ a ∧ a ≤ wrap64 (n - 1) ∧ 0 ≤ b ∧ b ≤ wrap64 (n - 1)
def hopsR (n a b : Int) : Int := if ringOk n a b then Int.tmod (wrap64 ((wrap64 (b - a)) + n)) n else -1
theorem HopsBetween_s (n a b : Int) : spec_HopsBetween.f n a b = some (hopsR n a b) := by
  unfold spec_HopsBetween.f hopsR
  simp only [l13Ok_f, Option.bind_some, decide_eq_true_eq, ringOk]
  split
  · rename_i h
    rw [if_neg (by omega)]
  · rfl
theorem HopsBetween_i (n a b : Int) : Ev (fun k => impl_HopsBetween.f k n a b) (hopsR n a b) := by
  unfold impl_HopsBetween.f hopsR
  refine Ev.bind (isRing_f n a b) ?_
  simp only [decide_eq_true_eq, ringOk]
  refine Ev.ite (fun h => ?_) (fun h => ?_)
  · refine Ev.ite_neg (by omega) (Ev.val ?_)
    rw [if_pos h]
  · refine Ev.val ?_
    rw [if_neg h]

theorem FnExactHopsBetween : FnExactHopsBetween_says := by
  intro a0 a1 a2 _ _ _
  refine Ev.rounds ?_
  unfold laws_FnExactHopsBetween.f
  refine Ev.bindS (HopsBetween_s a0 a1 a2) ?_
  refine Ev.bind (HopsBetween_i a0 a1 a2) ?_
  exact Ev.ite_pos rfl (Ev.now _)

end Go.Proofs.Ytffkmajlelhiaaa.Pure
