/- The plain statement of the law FnExactIsCycle: the program's IsCycle and the reference's give one answer. No condition. -/
import Derived.Test.YtjialkmfmpkjgaaPFnExactIsCyclex
import Derived.Test.YtjialkmfmpkjgaaU
import Derived.Test.YtjialkmfmpkjgaaSaysFnExactIsCycle
namespace Go.Proofs.Ytjialkmfmpkjgaa.Pure
open Go.RowKit Go.Proofs.Ytjialkmfmpkjgaa.PFnExactIsCycle Go.Proofs.YtjialkmfmpkjgaaW.PrintWords Go.Proofs.YtjialkmfmpkjgaaW.PrintLast Go.Proofs.YtjialkmfmpkjgaaW.PrintMore Go.Proofs.Ytjialkmfmpkjgaa.U
set_option linter.unusedVariables false
set_option linter.unusedSimpArgs false

/-! ### rdDepend -/
theorem rdI_Depend (pre : List S80) (x : S80) (rest : List S80) : rd_T80 (pre ++ x :: rest) (pre.length : Int) = x := getD_mid pre x rest _

/-! ### in -/
theorem l01In_f (a b c : Int) : spec_l01In.f a b c = some (decide (b ≤ a ∧ a ≤ c)) := by
  unfold spec_l01In.f
  by_cases h : a ≥ b
  · rw [if_pos h]
    simp [show b ≤ a from h]
  · rw [if_neg h]
    simp [show ¬ b ≤ a from h]

/-! ### inside -/
theorem inside_f (a b c : Int) : impl_inside.f a b c = some (decide (b ≤ a ∧ a ≤ c)) := by
  unfold impl_inside.f
  by_cases h : b ≤ a
  · rw [if_pos h]
    simp [h]
  · rw [if_neg h]
    simp [h]

/-! ### dependsOk -/
abbrev dIn (x : S80) : Prop := (0 ≤ x.f0 ∧ x.f0 ≤ 127) ∧ (0 ≤ x.f1 ∧ x.f1 ≤ 127)
abbrev dLt (a b : S80) : Prop := a.f0 < b.f0 ∨ (a.f0 = b.f0 ∧ a.f1 < b.f1)
def dGo : S80 → List S80 → Bool
  | _, [] => true
  | y, x :: r => decide (dIn x) && (decide (dLt y x) && dGo x r)
/-- The list of depends is valid. -/
def dAll : List S80 → Bool
  | [] => true
  | x :: r => decide (dIn x) && dGo x r
theorem dGo_cons (y x : S80) (r : List S80) : dGo y (x :: r) = (decide (dIn x) && (decide (dLt y x) && dGo x r)) := rfl
theorem dAll_cons (x : S80) (r : List S80) : dAll (x :: r) = (decide (dIn x) && dGo x r) := rfl
theorem less_f (a b c d : Int) : spec_l08Less.f a b c d = some (decide (a < c ∨ (a = c ∧ b < d))) := by
  unfold spec_l08Less.f
  by_cases h1 : a < c
  · rw [if_pos h1, decide_eq_true (Or.inl h1)]
  · rw [if_neg h1]
    by_cases h2 : a = c
    · rw [if_pos h2]
      congr 1
      rw [decide_eq_decide]
      omega
    · rw [if_neg h2, decide_eq_false (by omega)]
theorem compare_f (a b c d : Int) (ha : 0 ≤ a ∧ a ≤ 127) (hb : 0 ≤ b ∧ b ≤ 127) (hc : 0 ≤ c ∧ c ≤ 127) (hd : 0 ≤ d ∧ d ≤ 127) : ∃ r, impl_compareDepends.f a b c d = some r ∧ (r ≥ 0 ↔ ¬ (a < c ∨ (a = c ∧ b < d))) := by
  unfold impl_compareDepends.f
  by_cases h2 : a = c
  · refine ⟨b - d, ?_, by omega⟩
    rw [if_pos h2, w64 (by omega) (by omega)]
  · refine ⟨a - c, ?_, by omega⟩
    rw [if_neg h2, w64 (by omega) (by omega)]
theorem prev_rd (p : List S80) (y x : S80) (rest : List S80) (hl : (p ++ [y]).length + rest.length < 1152921504606846976) : wrap64 (((p ++ [y]).length : Int) - 1) = (p.length : Int) ∧ rd_T80 (p ++ [y] ++ x :: rest) (p.length : Int) = y := by
  refine ⟨?_, ?_⟩
  · simp only [List.length_append, List.length_cons, List.length_nil] at hl ⊢
    rw [w64 (by omega) (by omega)]
    omega
  · rw [List.append_assoc]
    exact rdI_Depend p y (x :: rest)
theorem DependsOk_s_go : ∀ (rest p : List S80) (y : S80), (p ++ [y]).length + rest.length < 1152921504606846976 →
    Ev (fun k => spec_DependsOk.l0 k (p ++ [y] ++ rest) ((p ++ [y]).length : Int)) (dGo y rest)
  | [], p, y, _ => by
    refine Ev.suc ?_
    simp only [spec_DependsOk.l0]
    exact Ev.ite_neg (by simp) (Ev.val rfl)
  | x :: rest, p, y, hl => by
    simp only [List.length_cons] at hl
    obtain ⟨hp, hy⟩ := prev_rd p y x rest (by omega)
    have hx := rdI_Depend (p ++ [y]) x rest
    have h1 : ((p ++ [y]).length : Int) < ((p ++ [y] ++ x :: rest).length : Int) := by simp only [List.length_append, List.length_cons]; omega
    have h2 : (p.length : Int) < ((p ++ [y] ++ x :: rest).length : Int) := by simp only [List.length_append, List.length_cons]; omega
    have h3 : ((p ++ [y]).length : Int) > 0 := by simp only [List.length_append, List.length_cons]; omega
    have hw : wrap64 (((p ++ [y]).length : Int) + 1) = ((p ++ [y] ++ [x]).length : Int) := by
      have e : ((p ++ [y] ++ [x]).length : Int) = ((p ++ [y]).length : Int) + 1 := len_snoc (p ++ [y]) x
      rw [e]
      exact w64 (by omega) (by omega)
    have ih := DependsOk_s_go rest (p ++ [y]) x (by simp only [List.length_append, List.length_cons, List.length_nil] at hl ⊢; omega)
    rw [← snoc_app (p ++ [y]) x rest] at ih
    refine Ev.suc ?_
    simp only [spec_DependsOk.l0, hp, hy, hx, hw, l01In_f, less_f, Option.bind_some, decide_eq_true_eq]
    rw [dGo_cons]
    refine Ev.ite_pos h1 (Ev.ite_pos (by omega) (Ev.ite (fun c1 => Ev.ite (fun c2 => Ev.ite_pos h3 (Ev.ite_pos (by omega) (Ev.ite_pos h2 (Ev.ite (fun c3 => Ev.eq ih ?_) (fun c3 => Ev.val ?_))))) (fun c2 => Ev.val ?_)) (fun c1 => Ev.val ?_)))
    · rw [decide_eq_true (show dIn x from ⟨c1, c2⟩), decide_eq_true (show dLt y x from c3), Bool.true_and, Bool.true_and]
    · rw [decide_eq_false (show ¬ dLt y x from c3), Bool.false_and, Bool.and_false]
    · rw [decide_eq_false (show ¬ dIn x from fun z => c2 z.2), Bool.false_and]
    · rw [decide_eq_false (show ¬ dIn x from fun z => c1 z.1), Bool.false_and]
theorem DependsOk_s (l : List S80) (hl : l.length ≤ 1048576) : Ev (fun k => spec_DependsOk.f k l) (dAll l) := by
  unfold spec_DependsOk.f
  cases l with
  | nil =>
    refine Ev.suc ?_
    simp only [spec_DependsOk.l0]
    exact Ev.ite_neg (by simp) (Ev.val rfl)
  | cons x r =>
    have hx : rd_T80 (x :: r) 0 = x := rfl
    have hw : wrap64 ((0 : Int) + 1) = (([] ++ [x] : List S80).length : Int) := w64 (by omega) (by omega)
    have h1 : (0 : Int) < ((x :: r).length : Int) := by simp only [List.length_cons]; omega
    have ih := DependsOk_s_go r [] x (by simp at hl ⊢; omega)
    refine Ev.suc ?_
    simp only [spec_DependsOk.l0, hx, hw, l01In_f, Option.bind_some, decide_eq_true_eq]
    rw [dAll_cons]
    refine Ev.ite_pos h1 (Ev.ite_pos (by omega) (Ev.ite (fun c1 => Ev.ite (fun c2 => Ev.ite_neg (by omega) (Ev.eq ih ?_)) (fun c2 => Ev.val ?_)) (fun c1 => Ev.val ?_)))
    · rw [decide_eq_true (show dIn x from ⟨c1, c2⟩), Bool.true_and]
    · rw [decide_eq_false (show ¬ dIn x from fun z => c2 z.2), Bool.false_and]
    · rw [decide_eq_false (show ¬ dIn x from fun z => c1 z.1), Bool.false_and]
theorem DependsOk_i_go : ∀ (rest p : List S80) (y : S80), dIn y → (p ++ [y]).length + rest.length < 1152921504606846976 →
    Ev (fun k => impl_DependsOk.l0 k (p ++ [y] ++ rest) (p ++ [y] ++ rest) ((p ++ [y] ++ rest).length : Int) ((p ++ [y]).length : Int)) (dGo y rest)
  | [], p, y, _, _ => by
    refine Ev.suc ?_
    simp only [impl_DependsOk.l0]
    exact Ev.ite_neg (by simp) (Ev.val rfl)
  | x :: rest, p, y, hyI, hl => by
    simp only [List.length_cons] at hl
    obtain ⟨hp, hy⟩ := prev_rd p y x rest (by omega)
    have hx := rdI_Depend (p ++ [y]) x rest
    have h1 : ((p ++ [y]).length : Int) < ((p ++ [y] ++ x :: rest).length : Int) := by simp only [List.length_append, List.length_cons]; omega
    have h2 : (p.length : Int) < ((p ++ [y] ++ x :: rest).length : Int) := by simp only [List.length_append, List.length_cons]; omega
    have h3 : ((p ++ [y]).length : Int) > 0 := by simp only [List.length_append, List.length_cons]; omega
    have hw : wrap64 (((p ++ [y]).length : Int) + 1) = ((p ++ [y] ++ [x]).length : Int) := by
      have e : ((p ++ [y] ++ [x]).length : Int) = ((p ++ [y]).length : Int) + 1 := len_snoc (p ++ [y]) x
      rw [e]
      exact w64 (by omega) (by omega)
    refine Ev.suc ?_
    simp only [impl_DependsOk.l0, hp, hy, hx, hw, inside_f, Option.bind_some, decide_eq_true_eq]
    rw [dGo_cons]
    refine Ev.ite_pos h1 (Ev.ite_pos (by omega) (Ev.ite_pos h1 (Ev.ite (fun c1 => Ev.ite (fun c2 => Ev.ite_pos h3 (Ev.ite_pos (by omega) (Ev.ite_pos h2 ?_))) (fun c2 => Ev.val ?_)) (fun c1 => Ev.val ?_))))
    · obtain ⟨r, e, hr⟩ := compare_f y.f0 y.f1 x.f0 x.f1 hyI.1 hyI.2 c1 c2
      have ih := DependsOk_i_go rest (p ++ [y]) x ⟨c1, c2⟩ (by simp only [List.length_append, List.length_cons, List.length_nil] at hl ⊢; omega)
      rw [← snoc_app (p ++ [y]) x rest] at ih
      simp only [e, Option.bind_some]
      refine Ev.ite (fun c3 => Ev.val ?_) (fun c3 => Ev.eq ih ?_)
      · rw [decide_eq_false (show ¬ dLt y x from hr.1 c3), Bool.false_and, Bool.and_false]
      · rw [decide_eq_true (show dIn x from ⟨c1, c2⟩), decide_eq_true (show dLt y x from Decidable.not_not.1 (fun z => c3 (hr.2 z))), Bool.true_and, Bool.true_and]
    · rw [decide_eq_false (show ¬ dIn x from fun z => c2 z.2), Bool.false_and]
    · rw [decide_eq_false (show ¬ dIn x from fun z => c1 z.1), Bool.false_and]
theorem DependsOk_i (l : List S80) (hl : l.length ≤ 1048576) : Ev (fun k => impl_DependsOk.f k l) (dAll l) := by
  unfold impl_DependsOk.f
  cases l with
  | nil =>
    refine Ev.suc ?_
    simp only [impl_DependsOk.l0]
    exact Ev.ite_neg (by simp) (Ev.val rfl)
  | cons x r =>
    have hx : rd_T80 (x :: r) 0 = x := rfl
    have hw : wrap64 ((0 : Int) + 1) = (([] ++ [x] : List S80).length : Int) := w64 (by omega) (by omega)
    have h1 : (0 : Int) < ((x :: r).length : Int) := by simp only [List.length_cons]; omega
    refine Ev.suc ?_
    simp only [impl_DependsOk.l0, hx, hw, inside_f, Option.bind_some, decide_eq_true_eq]
    rw [dAll_cons]
    refine Ev.ite_pos h1 (Ev.ite_pos (by omega) (Ev.ite_pos h1 (Ev.ite (fun c1 => Ev.ite (fun c2 => Ev.ite_neg (by omega) (Ev.eq (DependsOk_i_go r [] x ⟨c1, c2⟩ (by simp at hl ⊢; omega)) ?_)) (fun c2 => Ev.val ?_)) (fun c1 => Ev.val ?_))))
    · rw [decide_eq_true (show dIn x from ⟨c1, c2⟩), Bool.true_and]
    · rw [decide_eq_false (show ¬ dIn x from fun z => c2 z.2), Bool.false_and]
    · rw [decide_eq_false (show ¬ dIn x from fun z => c1 z.1), Bool.false_and]

/-! ### find -/
theorem l03Find_l0 (x : Int) : ∀ (rest pre : List Int), pre.length + rest.length < 1152921504606846976 → Ev (fun k => spec_l03Find.l0 k (pre ++ rest) x (pre.length : Int)) (decide (x ∈ rest))
  | [], pre, _ => by
    refine Ev.suc ?_
    simp only [spec_l03Find.l0]
    exact Ev.ite_neg (by simp) (Ev.val (by simp))
  | y :: rest, pre, hl => by
    simp only [List.length_cons] at hl
    have h1 : (pre.length : Int) < ((pre ++ y :: rest).length : Int) := by simp only [List.length_append, List.length_cons]; omega
    have hw : wrap64 ((pre.length : Int) + 1) = ((pre ++ [y]).length : Int) := by rw [w64 (by omega) (by omega), len_snoc]
    refine Ev.suc ?_
    simp only [spec_l03Find.l0, rd_mid, hw]
    refine Ev.ite_pos h1 (Ev.ite_pos (by omega) (Ev.ite (fun h => Ev.val ?_) (fun h => ?_)))
    · simp [h]
    · rw [snoc_app pre y rest]
      refine Ev.eq (l03Find_l0 x rest (pre ++ [y]) (by simp only [List.length_append, List.length_cons, List.length_nil]; omega)) ?_
      rw [decide_eq_decide]
      simp [show ¬ x = y from fun e => h e.symm]
theorem l03Find_s (l : List Int) (x : Int) (h : l.length < 1152921504606846976) : Ev (fun k => spec_l03Find.f k l x) (decide (x ∈ l)) := by
  unfold spec_l03Find.f
  exact l03Find_l0 x l [] (by simpa using h)

/-! ### contains -/
theorem Index_l0 (x : Int) : ∀ (rest pre : List Int), pre.length + rest.length < 1152921504606846976 → ∃ r, Ev (fun k => slices_Index_int_int.l0 k (pre ++ rest) x ((pre ++ rest).length : Int) (pre.length : Int)) r ∧ (r ≥ 0 ↔ x ∈ rest)
  | [], pre, _ => by
    refine ⟨-1, Ev.suc ?_, by simp⟩
    simp only [slices_Index_int_int.l0]
    exact Ev.ite_neg (by simp) (Ev.now _)
  | y :: rest, pre, hl => by
    simp only [List.length_cons] at hl
    have h1 : (pre.length : Int) < ((pre ++ y :: rest).length : Int) := by simp only [List.length_append, List.length_cons]; omega
    have hw : wrap64 ((pre.length : Int) + 1) = ((pre ++ [y]).length : Int) := by rw [w64 (by omega) (by omega), len_snoc]
    obtain ⟨r, hr, hr2⟩ := Index_l0 x rest (pre ++ [y]) (by simp only [List.length_append, List.length_cons, List.length_nil]; omega)
    rw [← snoc_app pre y rest] at hr
    by_cases h : x = y
    · refine ⟨(pre.length : Int), Ev.suc ?_, by simp [h]⟩
      simp only [slices_Index_int_int.l0, rd_mid]
      exact Ev.ite_pos h1 (Ev.ite_pos (by omega) (Ev.ite_pos h1 (Ev.ite_pos h (Ev.now _))))
    · refine ⟨r, Ev.suc ?_, by simp [h, hr2]⟩
      simp only [slices_Index_int_int.l0, rd_mid, hw]
      exact Ev.ite_pos h1 (Ev.ite_pos (by omega) (Ev.ite_pos h1 (Ev.ite_neg h hr)))
theorem Contains_i (l : List Int) (x : Int) (h : l.length < 1152921504606846976) : Ev (fun k => slices_Contains_int_int.f k l x) (decide (x ∈ l)) := by
  obtain ⟨r, hr, hr2⟩ := Index_l0 x l [] (by simpa using h)
  unfold slices_Contains_int_int.f slices_Index_int_int.f
  refine Ev.bind hr (Ev.val ?_)
  rw [decide_eq_decide]
  exact hr2

/-! ### isCycle -/
def hasD (a b : Int) : List S80 → Bool
  | [] => false
  | x :: r => (decide (x.f0 = a) && decide (x.f1 = b)) || hasD a b r
theorem hasD_cons (a b : Int) (x : S80) (r : List S80) : hasD a b (x :: r) = ((decide (x.f0 = a) && decide (x.f1 = b)) || hasD a b r) := rfl
theorem l10Has_l0 (a b : Int) : ∀ (rest pre : List S80), pre.length + rest.length < 1152921504606846976 → Ev (fun k => spec_l10Has.l0 k (pre ++ rest) a b (pre.length : Int)) (hasD a b rest)
  | [], pre, _ => by
    refine Ev.suc ?_
    simp only [spec_l10Has.l0]
    exact Ev.ite_neg (by simp) (Ev.val rfl)
  | x :: rest, pre, hl => by
    simp only [List.length_cons] at hl
    have h1 : (pre.length : Int) < ((pre ++ x :: rest).length : Int) := by simp only [List.length_append, List.length_cons]; omega
    have hw : wrap64 ((pre.length : Int) + 1) = ((pre ++ [x]).length : Int) := by rw [w64 (by omega) (by omega), len_snoc]
    have ih := l10Has_l0 a b rest (pre ++ [x]) (by simp only [List.length_append, List.length_cons, List.length_nil]; omega)
    rw [← snoc_app pre x rest] at ih
    refine Ev.suc ?_
    simp only [spec_l10Has.l0, rdI_Depend, hw]
    rw [hasD_cons]
    refine Ev.ite_pos h1 (Ev.ite_pos (by omega) (Ev.ite (fun c1 => Ev.ite (fun c2 => Ev.val ?_) (fun c2 => Ev.eq ih ?_)) (fun c1 => Ev.eq ih ?_)))
    · simp [c1, c2]
    · simp [c2]
    · simp [c1]
theorem l10Has_s (l : List S80) (a b : Int) (hl : l.length ≤ 1048576) : Ev (fun k => spec_l10Has.f k l a b) (hasD a b l) := by
  unfold spec_l10Has.f
  exact l10Has_l0 a b l [] (by simp; omega)
theorem DIndex_l0 (a b : Int) : ∀ (rest pre : List S80), pre.length + rest.length < 1152921504606846976 → ∃ r, Ev (fun k => impl_Depend_71.l0 k (pre ++ rest) ((pre ++ rest).length : Int) (pre.length : Int) a b) r ∧ (r ≥ 0 ↔ hasD a b rest = true)
  | [], pre, _ => by
    refine ⟨-1, Ev.suc ?_, by simp [hasD]⟩
    simp only [impl_Depend_71.l0]
    exact Ev.ite_neg (by simp) (Ev.now _)
  | x :: rest, pre, hl => by
    simp only [List.length_cons] at hl
    have h1 : (pre.length : Int) < ((pre ++ x :: rest).length : Int) := by simp only [List.length_append, List.length_cons]; omega
    have hw : wrap64 ((pre.length : Int) + 1) = ((pre ++ [x]).length : Int) := by rw [w64 (by omega) (by omega), len_snoc]
    obtain ⟨r, hr, hr2⟩ := DIndex_l0 a b rest (pre ++ [x]) (by simp only [List.length_append, List.length_cons, List.length_nil]; omega)
    rw [← snoc_app pre x rest] at hr
    by_cases h : (a == x.f0 && (b == x.f1)) = true
    · have h' := h
      rw [Bool.and_eq_true, beq_iff_eq, beq_iff_eq] at h'
      refine ⟨(pre.length : Int), Ev.suc ?_, by rw [hasD_cons, h'.1, h'.2]; simp⟩
      simp only [impl_Depend_71.l0, rdI_Depend]
      exact Ev.ite_pos h1 (Ev.ite_pos (by omega) (Ev.ite_pos h1 (Ev.ite_pos h (Ev.now _))))
    · have e : (decide (x.f0 = a) && decide (x.f1 = b)) = false := by
        rw [Bool.eq_false_iff]
        intro z
        rw [Bool.and_eq_true, decide_eq_true_eq, decide_eq_true_eq] at z
        exact h (by rw [z.1, z.2]; simp)
      refine ⟨r, Ev.suc ?_, by rw [hasD_cons, e, Bool.false_or]; exact hr2⟩
      simp only [impl_Depend_71.l0, rdI_Depend, hw]
      exact Ev.ite_pos h1 (Ev.ite_pos (by omega) (Ev.ite_pos h1 (Ev.ite_neg h hr)))
theorem DHas_i (l : List S80) (a b : Int) (hl : l.length ≤ 1048576) : Ev (fun k => impl_Depend_52.f k l a b) (hasD a b l) := by
  obtain ⟨r, hr, hr2⟩ := DIndex_l0 a b l [] (by simp; omega)
  unfold impl_Depend_52.f impl_Depend_71.f
  refine Ev.bind hr (Ev.val ?_)
  rw [Bool.eq_iff_iff, decide_eq_true_eq]
  exact hr2
def cyGo (L : List S80) (C : List Int) : Nat → Nat → Bool
  | 0, _ => true
  | d + 1, i => !decide (rd C (i : Int) ∈ C.take i) && (hasD (rd C (i : Int)) (rd C (((i + 1) % C.length : Nat) : Int)) L && cyGo L C d (i + 1))
theorem cyGo_succ (L : List S80) (C : List Int) (d i : Nat) : cyGo L C (d + 1) i = (!decide (rd C (i : Int) ∈ C.take i) && (hasD (rd C (i : Int)) (rd C (((i + 1) % C.length : Nat) : Int)) L && cyGo L C d (i + 1))) := rfl
theorem nxt_mod (n i : Nat) (h : n ≤ 1048576) (hi : i < n) : wrap64 ((i : Int) + 1) = ((i + 1 : Nat) : Int) ∧ Int.tmod ((i + 1 : Nat) : Int) (n : Int) = (((i + 1) % n : Nat) : Int) := by
  refine ⟨?_, ?_⟩
  · rw [w64 (by omega) (by omega)]
    omega
  · rw [Int.tmod_eq_emod_of_nonneg (Int.natCast_nonneg _)]
    exact (Int.natCast_emod _ _).symm
theorem IsCycle_s_l0 (L : List S80) (C : List Int) (hL : L.length ≤ 1048576) (hC : C.length ≤ 1048576) : ∀ (d i : Nat), i + d = C.length → Ev (fun k => spec_IsCycle.l0 k L C (i : Int)) (cyGo L C d i && decide ((C.length : Int) > 0))
  | 0, i, h => by
    refine Ev.suc ?_
    simp only [spec_IsCycle.l0]
    exact Ev.ite_neg (by omega) (Ev.val (by simp [cyGo]))
  | d + 1, i, h => by
    have hi : i < C.length := by omega
    obtain ⟨e1, e2⟩ := nxt_mod C.length i hC hi
    have ih := IsCycle_s_l0 L C hL hC d (i + 1) (by omega)
    have f1 := l03Find_s (C.take i) (rd C (i : Int)) (by rw [List.length_take]; omega)
    have f2 := l10Has_s L (rd C (i : Int)) (rd C (((i + 1) % C.length : Nat) : Int)) hL
    have hm : (i + 1) % C.length < C.length := Nat.mod_lt _ (by omega)
    have g0 : (0 : Int) ≤ (((i + 1) % C.length : Nat) : Int) := Int.natCast_nonneg _
    have g1 : (((i + 1) % C.length : Nat) : Int) < (C.length : Int) := Int.ofNat_lt.2 hm
    have p1 : (i : Int) < (C.length : Int) := Int.ofNat_lt.2 hi
    have p2 : (0 : Int) ≤ (i : Int) := Int.natCast_nonneg _
    have p3 : ¬ (C.length : Int) = 0 := by omega
    refine Ev.suc ?_
    simp only [spec_IsCycle.l0, e1, e2, Int.toNat_natCast]
    rw [cyGo_succ]
    generalize decide (rd C (i : Int) ∈ C.take i) = b1 at f1 ⊢
    generalize hasD (rd C (i : Int)) (rd C (((i + 1) % C.length : Nat) : Int)) L = b2 at f2 ⊢
    refine Ev.ite_pos p1 (Ev.ite_pos p2 (Ev.ite_pos (Int.le_of_lt p1) (Ev.bind f1 ?_)))
    cases b1 with
    | true => exact Ev.ite_pos rfl (Ev.val (by simp))
    | false =>
      refine Ev.ite_neg (by simp) (Ev.ite_neg p3 (Ev.ite_pos g0 (Ev.ite_pos g1 (Ev.bind f2 ?_))))
      cases b2 with
      | true => exact Ev.ite_pos rfl (Ev.eq ih (by simp))
      | false => exact Ev.ite_neg (by simp) (Ev.val (by simp))
theorem IsCycle_i_l0 (L : List S80) (C : List Int) (hL : L.length ≤ 1048576) (hC : C.length ≤ 1048576) : ∀ (d i : Nat), i + d = C.length → Ev (fun k => impl_IsCycle.l0 k L C C (C.length : Int) (i : Int)) (cyGo L C d i)
  | 0, i, h => by
    refine Ev.suc ?_
    simp only [impl_IsCycle.l0]
    exact Ev.ite_neg (by omega) (Ev.val rfl)
  | d + 1, i, h => by
    have hi : i < C.length := by omega
    obtain ⟨e1, e2⟩ := nxt_mod C.length i hC hi
    have ih := IsCycle_i_l0 L C hL hC d (i + 1) (by omega)
    have f1 := Contains_i (C.take i) (rd C (i : Int)) (by rw [List.length_take]; omega)
    have f2 := DHas_i L (rd C (i : Int)) (rd C (((i + 1) % C.length : Nat) : Int)) hL
    have hm : (i + 1) % C.length < C.length := Nat.mod_lt _ (by omega)
    have g0 : (0 : Int) ≤ (((i + 1) % C.length : Nat) : Int) := Int.natCast_nonneg _
    have g1 : (((i + 1) % C.length : Nat) : Int) < (C.length : Int) := Int.ofNat_lt.2 hm
    have p1 : (i : Int) < (C.length : Int) := Int.ofNat_lt.2 hi
    have p2 : (0 : Int) ≤ (i : Int) := Int.natCast_nonneg _
    have p3 : ¬ (C.length : Int) = 0 := by omega
    refine Ev.suc ?_
    simp only [impl_IsCycle.l0, e1, e2, Int.toNat_natCast]
    rw [cyGo_succ]
    generalize decide (rd C (i : Int) ∈ C.take i) = b1 at f1 ⊢
    generalize hasD (rd C (i : Int)) (rd C (((i + 1) % C.length : Nat) : Int)) L = b2 at f2 ⊢
    refine Ev.ite_pos p1 (Ev.ite_pos p2 (Ev.ite_pos p1 (Ev.ite_neg p3 (Ev.ite_pos g0 (Ev.ite_pos g1 (Ev.ite_pos (Int.le_of_lt p1) (Ev.bind f1 ?_)))))))
    cases b1 with
    | true => exact Ev.ite_pos rfl (Ev.val (by simp))
    | false =>
      refine Ev.ite_neg (by simp) (Ev.bind f2 ?_)
      cases b2 with
      | true => exact Ev.ite_pos rfl (Ev.eq ih (by simp))
      | false => exact Ev.ite_neg (by simp) (Ev.val (by simp))
theorem IsCycle_s (L : List S80) (C : List Int) (hL : L.length ≤ 1048576) (hC : C.length ≤ 1048576) : Ev (fun k => spec_IsCycle.f k L C) (dAll L && (cyGo L C C.length 0 && decide ((C.length : Int) > 0))) := by
  unfold spec_IsCycle.f
  refine Ev.bind (DependsOk_s L hL) ?_
  cases dAll L with
  | true => exact Ev.ite_pos rfl (Ev.eq (IsCycle_s_l0 L C hL hC C.length 0 (by omega)) (by simp))
  | false => exact Ev.ite_neg (by simp) (Ev.val (by simp))
theorem IsCycle_i (L : List S80) (C : List Int) (hL : L.length ≤ 1048576) (hC : C.length ≤ 1048576) : Ev (fun k => impl_IsCycle.f k L C) (dAll L && (cyGo L C C.length 0 && decide ((C.length : Int) > 0))) := by
  unfold impl_IsCycle.f
  refine Ev.bind (DependsOk_i L hL) ?_
  have j : ∀ b : Bool, Ev (fun k => impl_IsCycle.j0 k L C b) (!b && cyGo L C C.length 0) := by
    intro b
    refine Ev.suc ?_
    simp only [impl_IsCycle.j0]
    cases b with
    | true => exact Ev.ite_pos rfl (Ev.val (by simp))
    | false => exact Ev.ite_neg (by simp) (Ev.eq (IsCycle_i_l0 L C hL hC C.length 0 (by omega)) (by simp))
  cases dAll L with
  | true =>
    refine Ev.ite_pos rfl (Ev.eq (j ((C.length : Int) == 0)) ?_)
    by_cases h : (C.length : Int) = 0
    · rw [beq_iff_eq.mpr h, decide_eq_false (by omega)]
      simp
    · rw [beq_eq_false_iff_ne.mpr h, decide_eq_true (by omega)]
      simp
  | false => exact Ev.ite_neg (by simp) (Ev.eq (j true) (by simp))

/-! ### szDependS -/
theorem szDependS_f (l : List S82) (n : Int) (hl : l.length ≤ maxLen) (h0 : 0 ≤ n) (h1 : n ≤ 1048576) : laws_szDependS.f l n = some (if n < (l.length : Int) then -1 else n - (l.length : Int)) := by
  have hm : maxLen = 9223372036854775807 := rfl
  unfold laws_szDependS.f
  rw [w64 (by omega) (by omega)]
  by_cases h : n < (l.length : Int)
  · rw [if_pos h, if_pos (by omega)]
  · rw [if_neg h, if_neg (by omega)]

/-! ### toDependS -/
def cvDepend (x : S82) : S80 := ⟨x.f0, x.f1⟩
theorem rdL_Depend (pre : List S82) (x : S82) (rest : List S82) : rd_T82 (pre ++ x :: rest) (pre.length : Int) = x := getD_mid pre x rest _
theorem toDependS_l0 : ∀ (rest pre : List S82) (z : List S80), z.length = rest.length → pre.length + rest.length ≤ 1152921504606846976 →
    Ev (fun k => laws_toDependS.l0 k (pre ++ rest) (pre.map cvDepend ++ z) (pre.length : Int)) ((pre ++ rest).map cvDepend)
  | [], pre, z, hz, _ => by
    have : z = [] := List.length_eq_zero_iff.1 hz
    subst this
    refine Ev.suc ?_
    simp only [laws_toDependS.l0]
    refine Ev.ite_neg (by simp) (Ev.val (by simp))
  | x :: rest, pre, z, hz, hl => by
    obtain ⟨y, z, rfl⟩ : ∃ y z', z = y :: z' := by
      cases z with
      | nil => simp at hz
      | cons y z' => exact ⟨y, z', rfl⟩
    simp only [List.length_cons] at hz hl
    have hset : (pre.map cvDepend ++ y :: z).set ((pre.length : Int)).toNat (cvDepend x) = (pre ++ [x]).map cvDepend ++ z := by
      have h := set_mid (pre.map cvDepend) y (cvDepend x) z
      rw [List.length_map] at h
      rw [h]
      simp
    refine Ev.suc ?_
    simp only [laws_toDependS.l0, rdL_Depend, laws_toDepend.f, Option.bind_some]
    refine Ev.ite_pos (by simp only [List.length_append, List.length_cons]; omega) ?_
    refine Ev.ite_pos (by omega) ?_
    refine Ev.ite_pos (by simp only [List.length_append, List.length_cons, List.length_map]; omega) ?_
    have hset' := hset
    unfold cvDepend at hset'
    simp only [cvDepend] at hset ⊢
    rw [hset, w64 (by omega) (by omega), ← len_snoc pre x, snoc_app pre x rest]
    exact toDependS_l0 rest (pre ++ [x]) z (by omega) (by simp only [List.length_append, List.length_cons, List.length_nil]; omega)
theorem toDependS_f (l : List S82) (h : l.length ≤ 1048576) : Ev (fun k => laws_toDependS.f k l) (l.map cvDepend) := by
  unfold laws_toDependS.f
  refine Ev.ite_pos (by omega) ?_
  refine Ev.ite_pos (by omega) ?_
  exact toDependS_l0 l [] _ (by simp) (by simp; omega)

/-! ### eqDepend -/
theorem eqDepend_f (a0 a1 : Int)  : laws_eqDepend.f a0 a1 a0 a1 = some true := by
  unfold laws_eqDepend.f
  simp

/-! ### eqDependS -/
theorem eqDependS_l0 : ∀ (rest pre : List S80), pre.length + rest.length ≤ 1152921504606846976 → Ev (fun k => laws_eqDependS.l0 k (pre ++ rest) (pre ++ rest) (pre.length : Int)) true
  | [], pre, _ => by
    refine Ev.suc ?_
    simp only [laws_eqDependS.l0]
    refine Ev.ite_neg (by simp) (Ev.now _)
  | x :: rest, pre, hl => by
    simp only [List.length_cons] at hl
    refine Ev.suc ?_
    simp only [laws_eqDependS.l0, rdI_Depend, eqDepend_f, Option.bind_some]
    refine Ev.ite_pos (by simp only [List.length_append, List.length_cons]; omega) ?_
    refine Ev.ite_pos (by omega) ?_
    refine Ev.ite_pos (by simp only [List.length_append, List.length_cons]; omega) ?_
    refine Ev.ite_pos trivial ?_
    rw [w64 (by omega) (by omega), ← len_snoc pre x, snoc_app pre x rest]
    exact eqDependS_l0 rest (pre ++ [x]) (by simp only [List.length_append, List.length_cons, List.length_nil]; omega)
theorem eqDependS_f (l : List S80) (h : l.length ≤ 1152921504606846976) : Ev (fun k => laws_eqDependS.f k l l) true := by
  unfold laws_eqDependS.f
  refine Ev.ite_pos rfl ?_
  exact eqDependS_l0 l [] (by simpa using h)

/-! ### toIntS -/
theorem toIntS_l0 : ∀ (rest pre z : List Int), z.length = rest.length → pre.length + rest.length ≤ 1152921504606846976 → Ev (fun k => laws_toIntS.l0 k (pre ++ rest) (pre ++ z) (pre.length : Int)) (pre ++ rest)
  | [], pre, z, hz, _ => by
    have : z = [] := List.length_eq_zero_iff.1 hz
    subst this
    refine Ev.suc ?_
    simp only [laws_toIntS.l0]
    refine Ev.ite_neg (by simp) (Ev.now _)
  | x :: rest, pre, z, hz, hl => by
    obtain ⟨y, z, rfl⟩ : ∃ y z', z = y :: z' := by
      cases z with
      | nil => simp at hz
      | cons y z' => exact ⟨y, z', rfl⟩
    simp only [List.length_cons] at hz hl
    refine Ev.suc ?_
    simp only [laws_toIntS.l0, rd_mid, set_mid]
    refine Ev.ite_pos (by simp only [List.length_append, List.length_cons]; omega) ?_
    refine Ev.ite_pos (by omega) ?_
    refine Ev.ite_pos (by simp only [List.length_append, List.length_cons]; omega) ?_
    rw [w64 (by omega) (by omega), ← len_snoc pre x, snoc_app pre x rest, snoc_app pre x z]
    exact toIntS_l0 rest (pre ++ [x]) z (by omega) (by simp only [List.length_append, List.length_cons, List.length_nil]; omega)
theorem toIntS_f (l : List Int) (h : l.length ≤ 35184372088832) : Ev (fun k => laws_toIntS.f k l) l := by
  unfold laws_toIntS.f
  refine Ev.ite_pos (by omega) ?_
  refine Ev.ite_pos (by omega) ?_
  exact toIntS_l0 l [] _ (by simp) (by simp; omega)

/-! ### eqIntS -/
theorem eqIntS_l0 : ∀ (rest pre : List Int), pre.length + rest.length ≤ 1152921504606846976 → Ev (fun k => laws_eqIntS.l0 k (pre ++ rest) (pre ++ rest) (pre.length : Int)) true
  | [], pre, _ => by
    refine Ev.suc ?_
    simp only [laws_eqIntS.l0]
    refine Ev.ite_neg (by simp) (Ev.now _)
  | x :: rest, pre, hl => by
    simp only [List.length_cons] at hl
    refine Ev.suc ?_
    simp only [laws_eqIntS.l0, rd_mid]
    refine Ev.ite_pos (by simp only [List.length_append, List.length_cons]; omega) ?_
    refine Ev.ite_pos (by omega) ?_
    refine Ev.ite_pos (by simp only [List.length_append, List.length_cons]; omega) ?_
    refine Ev.ite_pos trivial ?_
    rw [w64 (by omega) (by omega), ← len_snoc pre x, snoc_app pre x rest]
    exact eqIntS_l0 rest (pre ++ [x]) (by simp only [List.length_append, List.length_cons, List.length_nil]; omega)
theorem eqIntS_f (l : List Int) (h : l.length ≤ 35184372088832) : Ev (fun k => laws_eqIntS.f k l l) true := by
  unfold laws_eqIntS.f
  refine Ev.ite_pos rfl ?_
  exact eqIntS_l0 l [] (by simp; omega)

theorem FnExactIsCycle : FnExactIsCycle_says := by
  intro l c hl hc
  refine Ev.rounds ?_
  unfold laws_FnExactIsCycle.f
  refine Ev.ite (fun _ => Ev.now _) (fun h0 => ?_)
  have hc' : c.length ≤ 1048576 := by omega
  simp only [szDependS_f l 1048576 hl.1 (by omega) (by omega), Option.bind_some]
  refine Ev.ite (fun _ => Ev.now _) (fun h => ?_)
  have hn : l.length ≤ 1048576 := by
    split at h <;> omega
  have hm : (l.map cvDepend).length ≤ 1048576 := by simpa using hn
  have ht := toDependS_f l hn
  have hi := toIntS_f c (by omega)
  have he := eqDependS_f (l.map cvDepend) (by omega)
  have hf := eqIntS_f c (by omega)
  have hs := IsCycle_s (l.map cvDepend) c hm hc'
  have hp := IsCycle_i (l.map cvDepend) c hm hc'
  refine Ev.bind ht (Ev.bind hi (Ev.bind hs (Ev.bind ht (Ev.bind hi (Ev.bind hp (Ev.ite_neg (by simp) ?_))))))
  exact Ev.bind ht (Ev.bind he (Ev.ite_pos rfl (Ev.bind hi (Ev.bind hf (Ev.ite_pos rfl (Ev.now _))))))

end Go.Proofs.Ytjialkmfmpkjgaa.Pure
