/- The plain statement of the law FnExactPacketOk: the program's PacketOk and the reference's give one answer. No condition. -/
import Derived.Test.YtffkmajlelhiaaaPFnExactPacketOkx
import Derived.Test.YtffkmajlelhiaaaU
import Derived.Test.YtffkmajlelhiaaaSaysFnExactPacketOk
namespace Go.Proofs.Ytffkmajlelhiaaa.Pure
open Go.RowKit Go.Proofs.Ytffkmajlelhiaaa.PFnExactPacketOk Go.Proofs.YtffkmajlelhiaaaW.PrintWords Go.Proofs.YtffkmajlelhiaaaW.PrintLast Go.Proofs.YtffkmajlelhiaaaW.PrintMore Go.Proofs.Ytffkmajlelhiaaa.U
set_option linter.unusedVariables false
set_option linter.unusedSimpArgs false

/-! ### in -/
theorem l01In_f (a b c : Int) : spec_l01In.f a b c = some (decide (b ≤ a ∧ a ≤ c)) := by
  unfold spec_l01In.f
  by_cases h : a ≥ b
  · rw [if_pos h]
    simp [show b ≤ a from h]
  · rw [if_neg h]
    simp [show ¬ b ≤ a from h]

/-! ### grid -/
abbrev gOk (w h : Int) : Prop := 1 ≤ w ∧ w ≤ 4 ∧ 1 ≤ h ∧ h ≤ 4
def ncR (w h : Int) : Int := if gOk w h then w * h else 0
theorem mul_b {w h : Int} (hw : 1 ≤ w ∧ w ≤ 4) (hh : 1 ≤ h ∧ h ≤ 4) : 1 ≤ w * h ∧ w * h ≤ 16 := by
  obtain h1 | h1 | h1 | h1 : w = 1 ∨ w = 2 ∨ w = 3 ∨ w = 4 := by omega
  all_goals
    subst h1
    omega
theorem ncR_b (w h : Int) : 0 ≤ ncR w h ∧ ncR w h ≤ 16 := by
  unfold ncR
  split
  · rename_i hg
    have := mul_b ⟨hg.1, hg.2.1⟩ hg.2.2
    omega
  · omega
abbrev nodeOk (w h n : Int) : Prop := 0 ≤ n ∧ n ≤ ncR w h - 1

/-! ### grid_s -/
theorem GridOk_s (w h : Int) : spec_GridOk.f w h = some (decide (gOk w h)) := by
  unfold spec_GridOk.f gOk
  simp only [l01In_f, Option.bind_some, decide_eq_true_eq]
  split
  · rename_i h1
    simp [h1]
  · rename_i h1
    simp only [Option.some.injEq]
    symm
    rw [decide_eq_false_iff_not]
    exact fun h2 => h1 ⟨h2.1, h2.2.1⟩
theorem NodeCount_s (w h : Int) : spec_NodeCount.f w h = some (ncR w h) := by
  unfold spec_NodeCount.f ncR
  simp only [GridOk_s, Option.bind_some, decide_eq_true_eq]
  split
  · rename_i hg
    have := mul_b ⟨hg.1, hg.2.1⟩ hg.2.2
    rw [w64 (by omega) (by omega)]
  · rfl
theorem l02Has_s (w h n : Int) : spec_l02Has.f w h n = some (decide (nodeOk w h n)) := by
  unfold spec_l02Has.f nodeOk
  have := ncR_b w h
  simp only [NodeCount_s, l01In_f, Option.bind_some]
  rw [w64 (by omega) (by omega)]

/-! ### pk -/
abbrev pkOk (w h i f t c l : Int) : Prop := (1 ≤ i ∧ i ≤ 9999) ∧ nodeOk w h f ∧ nodeOk w h t ∧ f ≠ t ∧ (0 ≤ c ∧ c ≤ 1) ∧ (1 ≤ l ∧ l ≤ 5)

/-! ### PacketOk_s -/
theorem PacketOk_s (w h i f t c l : Int) : spec_PacketOk.f w h i f t c l = some (decide (pkOk w h i f t c l)) := by
  unfold spec_PacketOk.f pkOk
  simp only [l01In_f, l02Has_s, Option.bind_some, decide_eq_true_eq]
  by_cases h1 : 1 ≤ i ∧ i ≤ 9999
  case neg => simp [h1]
  by_cases h2 : nodeOk w h f
  case neg => simp [h2]
  by_cases h3 : nodeOk w h t
  case neg => simp [h3]
  by_cases h4 : f = t
  case pos => simp [h4]
  by_cases h5 : 0 ≤ c ∧ c ≤ 1
  case neg => simp [h5]
  rw [if_pos h1, if_pos h2, if_pos h3, if_neg h4, if_pos h5]
  congr 1
  rw [decide_eq_decide]
  exact ⟨fun h => ⟨h1, h2, h3, h4, h5, h⟩, fun h => h.2.2.2.2.2⟩

/-! ### inside -/
theorem inside_f (a b c : Int) : impl_inside.f a b c = some (decide (b ≤ a ∧ a ≤ c)) := by
  unfold impl_inside.f
  by_cases h : b ≤ a
  · rw [if_pos h]
    simp [h]
  · rw [if_neg h]
    simp [h]

/-! ### grid_i -/
theorem GridOk_i (w h : Int) : impl_GridOk.f w h = some (decide (gOk w h)) := by
  unfold impl_GridOk.f gOk
  simp only [inside_f, Option.bind_some, decide_eq_true_eq]
  split
  · rename_i h1
    simp [h1]
  · rename_i h1
    simp only [Option.some.injEq]
    symm
    rw [decide_eq_false_iff_not]
    exact fun h2 => h1 ⟨h2.1, h2.2.1⟩
theorem NodeCount_i (w h : Int) : impl_NodeCount.f w h = some (ncR w h) := by
  unfold impl_NodeCount.f ncR
  simp only [GridOk_i, Option.bind_some, decide_eq_true_eq]
  split
  · rename_i hg
    have := mul_b ⟨hg.1, hg.2.1⟩ hg.2.2
    rw [w64 (by omega) (by omega)]
  · rfl
theorem isNode_i (w h n : Int) : impl_isNode.f w h n = some (decide (nodeOk w h n)) := by
  unfold impl_isNode.f nodeOk
  have := ncR_b w h
  simp only [NodeCount_i, inside_f, Option.bind_some]
  rw [w64 (by omega) (by omega)]

/-! ### PacketOk_i -/
theorem PacketOk_i (w h i f t c l : Int) : impl_PacketOk.f w h i f t c l = some (decide (pkOk w h i f t c l)) := by
  unfold impl_PacketOk.f pkOk
  simp only [inside_f, isNode_i, Option.bind_some, decide_eq_true_eq]
  by_cases h1 : 1 ≤ i ∧ i ≤ 9999
  case neg => simp [h1]
  by_cases h2 : nodeOk w h f
  case neg => simp [h2]
  by_cases h3 : nodeOk w h t
  case neg => simp [h3]
  by_cases h4 : f = t
  case pos => simp [h4]
  by_cases h5 : 0 ≤ c ∧ c ≤ 1
  case neg => simp [h5]
  rw [if_pos h1, if_pos h2, if_pos h3, if_neg h4, if_pos h5]
  congr 1
  rw [decide_eq_decide]
  exact ⟨fun h => ⟨h1, h2, h3, h4, h5, h⟩, fun h => h.2.2.2.2.2⟩

theorem FnExactPacketOk : FnExactPacketOk_says := by
  intro a0 a1 b0 b1 b2 b3 b4 _ _ _ _ _ _ _
  unfold laws_FnExactPacketOk.f laws_toGrid.f laws_toPacket.f
  simp only [Option.bind_some, PacketOk_s, PacketOk_i]
  simp

end Go.Proofs.Ytffkmajlelhiaaa.Pure
