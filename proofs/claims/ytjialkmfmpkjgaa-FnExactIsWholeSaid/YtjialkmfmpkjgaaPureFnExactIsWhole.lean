/- The plain statement of the law FnExactIsWhole: the program's IsWhole and the reference's give one answer. No condition. -/
import Derived.Test.YtjialkmfmpkjgaaPFnExactIsWholex
import Derived.Test.YtjialkmfmpkjgaaU
import Derived.Test.YtjialkmfmpkjgaaSaysFnExactIsWhole
namespace Go.Proofs.Ytjialkmfmpkjgaa.Pure
open Go.RowKit Go.Proofs.Ytjialkmfmpkjgaa.PFnExactIsWhole Go.Proofs.YtjialkmfmpkjgaaW.PrintWords Go.Proofs.YtjialkmfmpkjgaaW.PrintLast Go.Proofs.YtjialkmfmpkjgaaW.PrintMore Go.Proofs.Ytjialkmfmpkjgaa.U
set_option linter.unusedVariables false
set_option linter.unusedSimpArgs false

/-! ### szFlitS -/
theorem szFlitS_f (l : List S67) (n : Int) (hl : l.length ≤ maxLen) (h0 : 0 ≤ n) (h1 : n ≤ 1048576) : laws_szFlitS.f l n = some (if n < (l.length : Int) then -1 else n - (l.length : Int)) := by
  have hm : maxLen = 9223372036854775807 := rfl
  unfold laws_szFlitS.f
  rw [w64 (by omega) (by omega)]
  by_cases h : n < (l.length : Int)
  · rw [if_pos h, if_pos (by omega)]
  · rw [if_neg h, if_neg (by omega)]

/-! ### toFlitS -/
def cvFlit (x : S67) : S48 := ⟨x.f0, x.f1, x.f2, x.f3, x.f4⟩
theorem rdL_Flit (pre : List S67) (x : S67) (rest : List S67) : rd_T67 (pre ++ x :: rest) (pre.length : Int) = x := getD_mid pre x rest _
theorem toFlitS_l0 : ∀ (rest pre : List S67) (z : List S48), z.length = rest.length → pre.length + rest.length ≤ 1152921504606846976 →
    Ev (fun k => laws_toFlitS.l0 k (pre ++ rest) (pre.map cvFlit ++ z) (pre.length : Int)) ((pre ++ rest).map cvFlit)
  | [], pre, z, hz, _ => by
    have : z = [] := List.length_eq_zero_iff.1 hz
    subst this
    refine Ev.suc ?_
    simp only [laws_toFlitS.l0]
    refine Ev.ite_neg (by simp) (Ev.val (by simp))
  | x :: rest, pre, z, hz, hl => by
    obtain ⟨y, z, rfl⟩ : ∃ y z', z = y :: z' := by
      cases z with
      | nil => simp at hz
      | cons y z' => exact ⟨y, z', rfl⟩
    simp only [List.length_cons] at hz hl
    have hset : (pre.map cvFlit ++ y :: z).set ((pre.length : Int)).toNat (cvFlit x) = (pre ++ [x]).map cvFlit ++ z := by
      have h := set_mid (pre.map cvFlit) y (cvFlit x) z
      rw [List.length_map] at h
      rw [h]
      simp
    refine Ev.suc ?_
    simp only [laws_toFlitS.l0, rdL_Flit, laws_toFlit.f, Option.bind_some]
    refine Ev.ite_pos (by simp only [List.length_append, List.length_cons]; omega) ?_
    refine Ev.ite_pos (by omega) ?_
    refine Ev.ite_pos (by simp only [List.length_append, List.length_cons, List.length_map]; omega) ?_
    have hset' := hset
    unfold cvFlit at hset'
    simp only [cvFlit] at hset ⊢
    rw [hset, w64 (by omega) (by omega), ← len_snoc pre x, snoc_app pre x rest]
    exact toFlitS_l0 rest (pre ++ [x]) z (by omega) (by simp only [List.length_append, List.length_cons, List.length_nil]; omega)
theorem toFlitS_f (l : List S67) (h : l.length ≤ 1048576) : Ev (fun k => laws_toFlitS.f k l) (l.map cvFlit) := by
  unfold laws_toFlitS.f
  refine Ev.ite_pos (by omega) ?_
  refine Ev.ite_pos (by omega) ?_
  exact toFlitS_l0 l [] _ (by simp) (by simp; omega)

/-! ### rdFlit -/
theorem rdI_Flit (pre : List S48) (x : S48) (rest : List S48) : rd_T48 (pre ++ x :: rest) (pre.length : Int) = x := getD_mid pre x rest _

/-! ### eqFlit -/
theorem eqFlit_f (a0 a1 a2 : Int) (a3 a4 : Bool) : laws_eqFlit.f a0 a1 a2 a3 a4 a0 a1 a2 a3 a4 = some true := by
  unfold laws_eqFlit.f
  simp

/-! ### eqFlitS -/
theorem eqFlitS_l0 : ∀ (rest pre : List S48), pre.length + rest.length ≤ 1152921504606846976 → Ev (fun k => laws_eqFlitS.l0 k (pre ++ rest) (pre ++ rest) (pre.length : Int)) true
  | [], pre, _ => by
    refine Ev.suc ?_
    simp only [laws_eqFlitS.l0]
    refine Ev.ite_neg (by simp) (Ev.now _)
  | x :: rest, pre, hl => by
    simp only [List.length_cons] at hl
    refine Ev.suc ?_
    simp only [laws_eqFlitS.l0, rdI_Flit, eqFlit_f, Option.bind_some]
    refine Ev.ite_pos (by simp only [List.length_append, List.length_cons]; omega) ?_
    refine Ev.ite_pos (by omega) ?_
    refine Ev.ite_pos (by simp only [List.length_append, List.length_cons]; omega) ?_
    refine Ev.ite_pos trivial ?_
    rw [w64 (by omega) (by omega), ← len_snoc pre x, snoc_app pre x rest]
    exact eqFlitS_l0 rest (pre ++ [x]) (by simp only [List.length_append, List.length_cons, List.length_nil]; omega)
theorem eqFlitS_f (l : List S48) (h : l.length ≤ 1152921504606846976) : Ev (fun k => laws_eqFlitS.f k l l) true := by
  unfold laws_eqFlitS.f
  refine Ev.ite_pos rfl ?_
  exact eqFlitS_l0 l [] (by simpa using h)

/-! ### wholeB -/
def wOne (h : S48) (n i : Int) (x : S48) : Prop := x.f0 = h.f0 ∧ x.f1 = h.f1 ∧ x.f2 = h.f2 ∧ x.f3 = (i == 0) ∧ x.f4 = (i == n - 1)
instance (h : S48) (n i : Int) (x : S48) : Decidable (wOne h n i x) := by
  unfold wOne
  infer_instance
def wR (h : S48) (n : Int) : Int → List S48 → Bool
  | _, [] => true
  | i, x :: r => decide (wOne h n i x) && wR h n (i + 1) r
def wholeB : List S48 → Bool
  | [] => false
  | h :: t => wR h ((h :: t).length : Int) 0 (h :: t)
theorem rd_head (h : S48) (t : List S48) : rd_T48 (h :: t) 0 = h := rfl
theorem wR_id (h : S48) (n : Int) : ∀ (l : List S48) (i : Int), wR h n i l = true → ∀ x ∈ l, x.f0 = h.f0
  | [], _, _, x, hx => by cases hx
  | y :: l, i, hw, x, hx => by
    unfold wR at hw
    rw [Bool.and_eq_true, decide_eq_true_eq] at hw
    rcases List.mem_cons.1 hx with rfl | hx
    · exact hw.1.1
    · exact wR_id h n l (i + 1) hw.2 x hx

/-! ### IsWhole_s -/
theorem IsWhole_s_l0 (h : S48) (t : List S48) (hn : (h :: t).length ≤ 1152921504606846976) : ∀ (rest pre : List S48), pre ++ rest = h :: t →
    Ev (fun k => spec_IsWhole.l0 k (h :: t) (pre.length : Int)) (wR h ((h :: t).length : Int) (pre.length : Int) rest)
  | [], pre, e => by
    have hl : pre.length = (h :: t).length := by rw [← e]; simp
    refine Ev.suc ?_
    simp only [spec_IsWhole.l0]
    exact Ev.ite_neg (by omega) (Ev.val (by simp [wR]))
  | x :: rest, pre, e => by
    have hl : pre.length + (rest.length + 1) = (h :: t).length := by rw [← e]; simp
    have hw : wrap64 ((pre.length : Int) + 1) = ((pre ++ [x]).length : Int) := by rw [w64 (by omega) (by omega), len_snoc]
    have hv : wrap64 (((h :: t).length : Int) - 1) = ((h :: t).length : Int) - 1 := w64 (by omega) (by omega)
    have hr : rd_T48 (h :: t) (pre.length : Int) = x := by
      rw [← e]
      exact rdI_Flit _ _ _
    have ih := IsWhole_s_l0 h t hn rest (pre ++ [x]) (by simpa using e)
    refine Ev.suc ?_
    simp only [spec_IsWhole.l0, hr, rd_head, hv, hw]
    refine Ev.ite_pos (by omega) (Ev.ite_pos (by omega) ?_)
    refine Ev.ite (fun hb => Ev.val ?_) (fun hb => Ev.eq ih ?_)
    · unfold wR
      rw [decide_eq_false, Bool.false_and]
      intro hg
      obtain ⟨g0, g1, g2, g3, g4⟩ := hg
      simp [g0, g1, g2, g3, g4] at hb
    · have hg : wOne h ((h :: t).length : Int) (pre.length : Int) x := by
        simp only [Bool.or_eq_true, Bool.not_eq_true', beq_eq_false_iff_ne, not_or, ne_eq, Decidable.not_not] at hb
        exact ⟨hb.1, hb.2.1, hb.2.2.1, hb.2.2.2.1, hb.2.2.2.2⟩
      rw [len_snoc]
      conv => rhs; unfold wR
      rw [decide_eq_true hg, Bool.true_and]
theorem IsWhole_s (l : List S48) (hl : l.length ≤ 1152921504606846976) : Ev (fun k => spec_IsWhole.f k l) (wholeB l) := by
  unfold spec_IsWhole.f
  cases l with
  | nil =>
    refine Ev.suc ?_
    simp only [spec_IsWhole.l0]
    exact Ev.ite_neg (by simp) (Ev.val (by simp [wholeB]))
  | cons h t => exact IsWhole_s_l0 h t hl (h :: t) [] rfl

/-! ### IsWhole_i -/
theorem IsWhole_i_l0 (h : S48) (t : List S48) (hn : (h :: t).length ≤ 1152921504606846976) : ∀ (rest pre : List S48), pre ++ rest = h :: t →
    Ev (fun k => impl_IsWhole.l0 k (h :: t) (pre.length : Int)) (wR h ((h :: t).length : Int) (pre.length : Int) rest)
  | [], pre, e => by
    have hl : pre.length = (h :: t).length := by rw [← e]; simp
    refine Ev.suc ?_
    simp only [impl_IsWhole.l0]
    exact Ev.ite_neg (by omega) (Ev.val (by simp [wR]))
  | x :: rest, pre, e => by
    have hl : pre.length + (rest.length + 1) = (h :: t).length := by rw [← e]; simp
    have hw : wrap64 ((pre.length : Int) + 1) = ((pre ++ [x]).length : Int) := by rw [w64 (by omega) (by omega), len_snoc]
    have hv : wrap64 (((h :: t).length : Int) - 1) = ((h :: t).length : Int) - 1 := w64 (by omega) (by omega)
    have hr : rd_T48 (h :: t) (pre.length : Int) = x := by
      rw [← e]
      exact rdI_Flit _ _ _
    have ih := IsWhole_i_l0 h t hn rest (pre ++ [x]) (by simpa using e)
    refine Ev.suc ?_
    simp only [impl_IsWhole.l0, hr, rd_head, hv, hw]
    refine Ev.ite_pos (by omega) (Ev.ite_pos (by omega) ?_)
    refine Ev.ite (fun hb => Ev.val ?_) (fun hb => Ev.eq ih ?_)
    · unfold wR
      rw [decide_eq_false, Bool.false_and]
      intro hg
      obtain ⟨g0, g1, g2, g3, g4⟩ := hg
      simp [g0, g1, g2, g3, g4] at hb
    · have hg : wOne h ((h :: t).length : Int) (pre.length : Int) x := by
        simp only [Bool.or_eq_true, Bool.not_eq_true', beq_eq_false_iff_ne, not_or, ne_eq, Decidable.not_not] at hb
        exact ⟨hb.1, hb.2.1, hb.2.2.1, hb.2.2.2.1, hb.2.2.2.2⟩
      rw [len_snoc]
      conv => rhs; unfold wR
      rw [decide_eq_true hg, Bool.true_and]
theorem IsWhole_i (l : List S48) (hl : l.length ≤ 1152921504606846976) : Ev (fun k => impl_IsWhole.f k l) (wholeB l) := by
  unfold impl_IsWhole.f
  cases l with
  | nil =>
    refine Ev.suc ?_
    simp only [impl_IsWhole.l0]
    exact Ev.ite_neg (by simp) (Ev.val (by simp [wholeB]))
  | cons h t => exact IsWhole_i_l0 h t hl (h :: t) [] rfl

theorem FnExactIsWhole : FnExactIsWhole_says := by
  intro l hl
  refine Ev.rounds ?_
  unfold laws_FnExactIsWhole.f
  simp only [szFlitS_f l 1048576 hl.1 (by omega) (by omega), Option.bind_some]
  refine Ev.ite (fun _ => Ev.now _) (fun h => ?_)
  have hn : l.length ≤ 1048576 := by
    split at h <;> omega
  have hm : (l.map cvFlit).length ≤ 1048576 := by simpa using hn
  refine Ev.bind (toFlitS_f l hn) (Ev.bind (IsWhole_s _ (by omega)) (Ev.bind (toFlitS_f l hn) (Ev.bind (IsWhole_i _ (by omega)) (Ev.ite_neg (by simp) ?_))))
  exact Ev.bind (toFlitS_f l hn) (Ev.bind (eqFlitS_f _ (by omega)) (Ev.ite_pos rfl (Ev.now _)))

end Go.Proofs.Ytjialkmfmpkjgaa.Pure
