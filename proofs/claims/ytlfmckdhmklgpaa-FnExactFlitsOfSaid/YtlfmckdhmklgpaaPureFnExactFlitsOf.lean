/- The plain statement of the law FnExactFlitsOf: the program's FlitsOf and the reference's give one list, and nothing is shared. No condition. -/
import Derived.Test.YtlfmckdhmklgpaaPFnExactFlitsOfx
import Derived.Test.YtlfmckdhmklgpaaU
import Derived.Test.YtlfmckdhmklgpaaSaysFnExactFlitsOf
namespace Go.Proofs.Ytlfmckdhmklgpaa.Pure
open Go.RowKit Go.Proofs.Ytlfmckdhmklgpaa.PFnExactFlitsOf Go.Proofs.YtlfmckdhmklgpaaW.PrintWords Go.Proofs.YtlfmckdhmklgpaaW.PrintLast Go.Proofs.YtlfmckdhmklgpaaW.PrintMore Go.Proofs.Ytlfmckdhmklgpaa.U
set_option linter.unusedVariables false
set_option linter.unusedSimpArgs false

/-! ### grid -/
abbrev gOk (w h : Int) : Prop := 1 ≤ w ∧ w ≤ 4 ∧ 1 ≤ h ∧ h ≤ 4
def ncR (w h : Int) : Int := if gOk w h then w * h else 0
theorem mul_b {w h : Int} (hw : 1 ≤ w ∧ w ≤ 4) (hh : 1 ≤ h ∧ h ≤ 4) : 1 ≤ w * h ∧ w * h ≤ 16 := by
  obtain h1 | h1 | h1 | h1 : w = 1 ∨ w = 2 ∨ w = 3 ∨ w = 4 := by omega
  all_goals
    subst h1
    omega
theorem ncR_b (w h : Int) : 0 ≤ ncR w h ∧ ncR w h ≤ 16 := by
  unfold ncR
  split
  · rename_i hg
    have := mul_b ⟨hg.1, hg.2.1⟩ hg.2.2
    omega
  · omega
abbrev nodeOk (w h n : Int) : Prop := 0 ≤ n ∧ n ≤ ncR w h - 1

/-! ### pk -/
abbrev pkOk (w h i f t c l : Int) : Prop := (1 ≤ i ∧ i ≤ 9999) ∧ nodeOk w h f ∧ nodeOk w h t ∧ f ≠ t ∧ (0 ≤ c ∧ c ≤ 1) ∧ (1 ≤ l ∧ l ≤ 5)

/-! ### FlitsOf -/
def flitAt (i t c l : Int) (j : Nat) : S58 := ⟨i, t, c, ((j : Int) == 0), ((j : Int) == l - 1)⟩
def flitsL (w h i f t c l : Int) : List S58 := if pkOk w h i f t c l then (List.range l.toNat).map (flitAt i t c l) else []
theorem flitsL_len (w h i f t c l : Int) : (flitsL w h i f t c l).length ≤ 5 := by
  unfold flitsL
  split
  · rename_i hp
    rw [List.length_map, List.length_range]
    have := hp.2.2.2.2.2
    omega
  · simp

/-! ### in -/
theorem l01In_f (a b c : Int) : spec_l01In.f a b c = some (decide (b ≤ a ∧ a ≤ c)) := by
  unfold spec_l01In.f
  by_cases h : a ≥ b
  · rw [if_pos h]
    simp [show b ≤ a from h]
  · rw [if_neg h]
    simp [show ¬ b ≤ a from h]

/-! ### grid_s -/
theorem GridOk_s (w h : Int) : spec_GridOk.f w h = some (decide (gOk w h)) := by
  unfold spec_GridOk.f gOk
  simp only [l01In_f, Option.bind_some, decide_eq_true_eq]
  split
  · rename_i h1
    simp [h1]
  · rename_i h1
    simp only [Option.some.injEq]
    symm
    rw [decide_eq_false_iff_not]
    exact fun h2 => h1 ⟨h2.1, h2.2.1⟩
theorem NodeCount_s (w h : Int) : spec_NodeCount.f w h = some (ncR w h) := by
  unfold spec_NodeCount.f ncR
  simp only [GridOk_s, Option.bind_some, decide_eq_true_eq]
  split
  · rename_i hg
    have := mul_b ⟨hg.1, hg.2.1⟩ hg.2.2
    rw [w64 (by omega) (by omega)]
  · rfl
theorem l02Has_s (w h n : Int) : spec_l02Has.f w h n = some (decide (nodeOk w h n)) := by
  unfold spec_l02Has.f nodeOk
  have := ncR_b w h
  simp only [NodeCount_s, l01In_f, Option.bind_some]
  rw [w64 (by omega) (by omega)]

/-! ### PacketOk_s -/
theorem PacketOk_s (w h i f t c l : Int) : spec_PacketOk.f w h i f t c l = some (decide (pkOk w h i f t c l)) := by
  unfold spec_PacketOk.f pkOk
  simp only [l01In_f, l02Has_s, Option.bind_some, decide_eq_true_eq]
  by_cases h1 : 1 ≤ i ∧ i ≤ 9999
  case neg => simp [h1]
  by_cases h2 : nodeOk w h f
  case neg => simp [h2]
  by_cases h3 : nodeOk w h t
  case neg => simp [h3]
  by_cases h4 : f = t
  case pos => simp [h4]
  by_cases h5 : 0 ≤ c ∧ c ≤ 1
  case neg => simp [h5]
  rw [if_pos h1, if_pos h2, if_pos h3, if_neg h4, if_pos h5]
  congr 1
  rw [decide_eq_decide]
  exact ⟨fun h => ⟨h1, h2, h3, h4, h5, h⟩, fun h => h.2.2.2.2.2⟩

/-! ### FlitsOf_s -/
theorem FlitsOf_s_l0 (w h i f t c l : Int) (hp : pkOk w h i f t c l) : ∀ (d j : Nat), (j : Int) + d = l →
    Ev (fun k => spec_FlitsOf.l0 k ((List.range j).map (flitAt i t c l)) (j : Int) w h i f t c l) ((List.range l.toNat).map (flitAt i t c l))
  | 0, j, h0 => by
    refine Ev.suc ?_
    simp only [spec_FlitsOf.l0]
    refine Ev.ite_neg (by omega) (Ev.val ?_)
    have : j = l.toNat := by omega
    rw [this]
  | d + 1, j, h0 => by
    have hl := hp.2.2.2.2.2
    have ih := FlitsOf_s_l0 w h i f t c l hp d (j + 1) (by omega)
    have hw : wrap64 ((j : Int) + 1) = ((j + 1 : Nat) : Int) := by rw [w64 (by omega) (by omega)]; omega
    have hv : wrap64 (l - 1) = l - 1 := w64 (by omega) (by omega)
    have hs : (List.range j).map (flitAt i t c l) ++ [(⟨i, t, c, ((j : Int) == 0), ((j : Int) == l - 1)⟩ : S58)] = (List.range (j + 1)).map (flitAt i t c l) := by
      rw [List.range_succ, List.map_append]
      rfl
    refine Ev.suc ?_
    simp only [spec_FlitsOf.l0, hw, hv, hs, PacketOk_s, Option.bind_some]
    exact Ev.ite_pos (by omega) (Ev.ite_pos (decide_eq_true hp) (Ev.ite_pos (by simp; omega) ih))
theorem FlitsOf_s (w h i f t c l : Int) : Ev (fun k => spec_FlitsOf.f k w h i f t c l) (flitsL w h i f t c l) := by
  unfold spec_FlitsOf.f flitsL
  by_cases hp : pkOk w h i f t c l
  · rw [if_pos hp]
    have hl := hp.2.2.2.2.2
    exact FlitsOf_s_l0 w h i f t c l hp l.toNat 0 (by omega)
  · rw [if_neg hp]
    refine Ev.suc ?_
    simp only [spec_FlitsOf.l0, PacketOk_s, Option.bind_some]
    refine Ev.ite (fun _ => Ev.ite_neg (by simpa using hp) (Ev.now _)) (fun _ => Ev.now _)

/-! ### inside -/
theorem inside_f (a b c : Int) : impl_inside.f a b c = some (decide (b ≤ a ∧ a ≤ c)) := by
  unfold impl_inside.f
  by_cases h : b ≤ a
  · rw [if_pos h]
    simp [h]
  · rw [if_neg h]
    simp [h]

/-! ### grid_i -/
theorem GridOk_i (w h : Int) : impl_GridOk.f w h = some (decide (gOk w h)) := by
  unfold impl_GridOk.f gOk
  simp only [inside_f, Option.bind_some, decide_eq_true_eq]
  split
  · rename_i h1
    simp [h1]
  · rename_i h1
    simp only [Option.some.injEq]
    symm
    rw [decide_eq_false_iff_not]
    exact fun h2 => h1 ⟨h2.1, h2.2.1⟩
theorem NodeCount_i (w h : Int) : impl_NodeCount.f w h = some (ncR w h) := by
  unfold impl_NodeCount.f ncR
  simp only [GridOk_i, Option.bind_some, decide_eq_true_eq]
  split
  · rename_i hg
    have := mul_b ⟨hg.1, hg.2.1⟩ hg.2.2
    rw [w64 (by omega) (by omega)]
  · rfl
theorem isNode_i (w h n : Int) : impl_isNode.f w h n = some (decide (nodeOk w h n)) := by
  unfold impl_isNode.f nodeOk
  have := ncR_b w h
  simp only [NodeCount_i, inside_f, Option.bind_some]
  rw [w64 (by omega) (by omega)]

/-! ### PacketOk_i -/
theorem PacketOk_i (w h i f t c l : Int) : impl_PacketOk.f w h i f t c l = some (decide (pkOk w h i f t c l)) := by
  unfold impl_PacketOk.f pkOk
  simp only [inside_f, isNode_i, Option.bind_some, decide_eq_true_eq]
  by_cases h1 : 1 ≤ i ∧ i ≤ 9999
  case neg => simp [h1]
  by_cases h2 : nodeOk w h f
  case neg => simp [h2]
  by_cases h3 : nodeOk w h t
  case neg => simp [h3]
  by_cases h4 : f = t
  case pos => simp [h4]
  by_cases h5 : 0 ≤ c ∧ c ≤ 1
  case neg => simp [h5]
  rw [if_pos h1, if_pos h2, if_pos h3, if_neg h4, if_pos h5]
  congr 1
  rw [decide_eq_decide]
  exact ⟨fun h => ⟨h1, h2, h3, h4, h5, h⟩, fun h => h.2.2.2.2.2⟩

/-! ### FlitsOf_i -/
theorem FlitsOf_i_l0 (i f t c l : Int) (hl : 1 ≤ l ∧ l ≤ 5) : ∀ (d j : Nat), (j : Int) + d = l →
    Ev (fun k => impl_FlitsOf.l0 k ((List.range j).map (flitAt i t c l)) l (j : Int) i f t c l) ((List.range l.toNat).map (flitAt i t c l))
  | 0, j, h => by
    refine Ev.suc ?_
    simp only [impl_FlitsOf.l0]
    refine Ev.ite_neg (by omega) (Ev.val ?_)
    have : j = l.toNat := by omega
    rw [this]
  | d + 1, j, h => by
    have ih := FlitsOf_i_l0 i f t c l hl d (j + 1) (by omega)
    have hw : wrap64 ((j : Int) + 1) = ((j + 1 : Nat) : Int) := by rw [w64 (by omega) (by omega)]; omega
    have hv : wrap64 (l - 1) = l - 1 := w64 (by omega) (by omega)
    have hs : (List.range j).map (flitAt i t c l) ++ [(⟨i, t, c, ((j : Int) == 0), ((j : Int) == l - 1)⟩ : S58)] = (List.range (j + 1)).map (flitAt i t c l) := by
      rw [List.range_succ, List.map_append]
      rfl
    refine Ev.suc ?_
    simp only [impl_FlitsOf.l0, hw, hv, hs]
    exact Ev.ite_pos (by omega) (Ev.ite_pos (by simp; omega) ih)
theorem FlitsOf_i (w h i f t c l : Int) : Ev (fun k => impl_FlitsOf.f k w h i f t c l) (flitsL w h i f t c l) := by
  unfold impl_FlitsOf.f flitsL
  refine Ev.bindS rfl (Ev.bindS (PacketOk_i w h i f t c l) ?_)
  simp only [decide_eq_true_eq]
  refine Ev.ite (fun hp => ?_) (fun hp => Ev.val ?_)
  · rw [if_pos hp]
    have hl := hp.2.2.2.2.2
    exact FlitsOf_i_l0 i f t c l hl l.toNat 0 (by omega)
  · rw [if_neg hp]

/-! ### rdFlit -/
theorem rdI_Flit (pre : List S58) (x : S58) (rest : List S58) : rd_T58 (pre ++ x :: rest) (pre.length : Int) = x := getD_mid pre x rest _

/-! ### eqFlit -/
theorem eqFlit_f (a0 a1 a2 : Int) (a3 a4 : Bool) : laws_eqFlit.f a0 a1 a2 a3 a4 a0 a1 a2 a3 a4 = some true := by
  unfold laws_eqFlit.f
  simp

/-! ### eqFlitS -/
theorem eqFlitS_l0 : ∀ (rest pre : List S58), pre.length + rest.length ≤ 1152921504606846976 → Ev (fun k => laws_eqFlitS.l0 k (pre ++ rest) (pre ++ rest) (pre.length : Int)) true
  | [], pre, _ => by
    refine Ev.suc ?_
    simp only [laws_eqFlitS.l0]
    refine Ev.ite_neg (by simp) (Ev.now _)
  | x :: rest, pre, hl => by
    simp only [List.length_cons] at hl
    refine Ev.suc ?_
    simp only [laws_eqFlitS.l0, rdI_Flit, eqFlit_f, Option.bind_some]
    refine Ev.ite_pos (by simp only [List.length_append, List.length_cons]; omega) ?_
    refine Ev.ite_pos (by omega) ?_
    refine Ev.ite_pos (by simp only [List.length_append, List.length_cons]; omega) ?_
    refine Ev.ite_pos trivial ?_
    rw [w64 (by omega) (by omega), ← len_snoc pre x, snoc_app pre x rest]
    exact eqFlitS_l0 rest (pre ++ [x]) (by simp only [List.length_append, List.length_cons, List.length_nil]; omega)
theorem eqFlitS_f (l : List S58) (h : l.length ≤ 1152921504606846976) : Ev (fun k => laws_eqFlitS.f k l l) true := by
  unfold laws_eqFlitS.f
  refine Ev.ite_pos rfl ?_
  exact eqFlitS_l0 l [] (by simpa using h)

/-! ### markFlitS -/
def mkFlit : Int → List S58 → List S58
  | _, [] => []
  | m, _ :: l => (⟨m, m + 1, m + 1 + 1, (Int.tmod (m + 1 + 1 + 1) 3 == 0), (Int.tmod (m + 1 + 1 + 1 + 1) 3 == 0)⟩ : S58) :: mkFlit (m + 1 + 1 + 1 + 1 + 1) l
theorem markFlit_l0 : ∀ (rest pre : List S58) (m : Int), pre.length + rest.length ≤ 1099511627776 → 0 ≤ m → m + 5 * (rest.length : Int) ≤ 1152921504606846976 →
    Ev (fun k => laws_markFlitS.l0 k (pre ++ rest) m (pre.length : Int)) (m + 5 * (rest.length : Int), pre ++ mkFlit m rest) ∧
    Ev (fun k => laws_heldFlitS.l0 k (pre ++ mkFlit m rest) m (pre.length : Int)) (m + 5 * (rest.length : Int))
  | [], pre, m, _, _, _ => by
    constructor
    · refine Ev.suc ?_
      simp only [laws_markFlitS.l0]
      exact Ev.ite_neg (by simp) (Ev.val (by simp [mkFlit]))
    · refine Ev.suc ?_
      simp only [laws_heldFlitS.l0]
      exact Ev.ite_neg (by simp [mkFlit]) (Ev.val (by simp))
  | x :: rest, pre, m, hl, h0, hm => by
    simp only [List.length_cons] at hl hm
    have hp : (pre.length : Int) < ((pre ++ x :: rest).length : Int) := by simp only [List.length_append, List.length_cons]; omega
    have hw : wrap64 ((pre.length : Int) + 1) = ((pre ++ [(⟨m, m + 1, m + 1 + 1, (Int.tmod (m + 1 + 1 + 1) 3 == 0), (Int.tmod (m + 1 + 1 + 1 + 1) 3 == 0)⟩ : S58)]).length : Int) := by rw [w64 (by omega) (by omega), len_snoc]
    have h1 : wrap64 (m + 1) = m + 1 := w64 (by omega) (by omega)
    have h2 : wrap64 (m + 1 + 1) = m + 1 + 1 := w64 (by omega) (by omega)
    have h3 : wrap64 (m + 1 + 1 + 1) = m + 1 + 1 + 1 := w64 (by omega) (by omega)
    have h4 : wrap64 (m + 1 + 1 + 1 + 1) = m + 1 + 1 + 1 + 1 := w64 (by omega) (by omega)
    have h5 : wrap64 (m + 1 + 1 + 1 + 1 + 1) = m + 1 + 1 + 1 + 1 + 1 := w64 (by omega) (by omega)
    have ih := markFlit_l0 rest (pre ++ [(⟨m, m + 1, m + 1 + 1, (Int.tmod (m + 1 + 1 + 1) 3 == 0), (Int.tmod (m + 1 + 1 + 1 + 1) 3 == 0)⟩ : S58)]) (m + 1 + 1 + 1 + 1 + 1) (by simp only [List.length_append, List.length_cons, List.length_nil]; omega) (by omega) (by omega)
    have e : m + 1 + 1 + 1 + 1 + 1 + 5 * (rest.length : Int) = m + 5 * ((x :: rest).length : Int) := by
      simp only [List.length_cons]
      omega
    rw [e] at ih
    have el : pre ++ mkFlit m (x :: rest) = pre ++ (⟨m, m + 1, m + 1 + 1, (Int.tmod (m + 1 + 1 + 1) 3 == 0), (Int.tmod (m + 1 + 1 + 1 + 1) 3 == 0)⟩ : S58) :: mkFlit (m + 1 + 1 + 1 + 1 + 1) rest := rfl
    constructor
    · refine Ev.suc ?_
      simp only [laws_markFlitS.l0, set_mid, rdI_Flit, Option.bind_some, h1, h2, h3, h4, h5, hw]
      refine Ev.ite_pos hp (Ev.ite_pos (by omega) ?_)
      rw [el, snoc_app pre _ rest, snoc_app pre _ (mkFlit _ rest)]
      exact ih.1
    · rw [el]
      have hq : (pre.length : Int) < ((pre ++ (⟨m, m + 1, m + 1 + 1, (Int.tmod (m + 1 + 1 + 1) 3 == 0), (Int.tmod (m + 1 + 1 + 1 + 1) 3 == 0)⟩ : S58) :: mkFlit (m + 1 + 1 + 1 + 1 + 1) rest).length : Int) := by simp only [List.length_append, List.length_cons]; omega
      refine Ev.suc ?_
      simp only [laws_heldFlitS.l0, rdI_Flit, h1, h2, h3, h4, h5, hw]
      refine Ev.ite_pos hq (Ev.ite_pos (by omega) (Ev.ite_pos (by trivial) (Ev.ite_pos (by trivial) (Ev.ite_pos (by trivial) (Ev.ite_neg (by simp) (Ev.ite_neg (by simp) (?_)))))))
      rw [snoc_app pre _ (mkFlit _ rest)]
      exact ih.2
/-- What is marked is held. -/
theorem markFlit_f (l : List S58) (m : Int) (hl : l.length ≤ 1099511627776) (h0 : 0 ≤ m) (h1 : m ≤ 1099511627776) :
    ∃ m' l', m ≤ m' ∧ m' ≤ m + 5 * (l.length : Int) ∧ l'.length = l.length ∧ Ev (fun k => laws_markFlitS.f k l m) (m', l') ∧ Ev (fun k => laws_heldFlitS.f k l' m) m' := by
  have h := markFlit_l0 l [] m (by simpa using hl) h0 (by omega)
  have hlen : ∀ (l : List S58) (m : Int), (mkFlit m l).length = l.length := by
    intro l
    induction l with
    | nil => exact fun _ => rfl
    | cons x l ih => exact fun m => by simp only [mkFlit, List.length_cons, ih]
  refine ⟨m + 5 * (l.length : Int), mkFlit m l, by omega, by omega, hlen l m, ?_, ?_⟩
  · unfold laws_markFlitS.f
    exact h.1
  · unfold laws_heldFlitS.f
    exact h.2

theorem FnExactFlitsOf : FnExactFlitsOf_says := by
  intro w h i f t c l _ _ _ _ _ _ _
  refine Ev.rounds ?_
  have hl := flitsL_len w h i f t c l
  obtain ⟨m, l', hm, _, _, h1, h2⟩ := markFlit_f (flitsL w h i f t c l) 1 (by omega) (by omega) (by omega)
  unfold laws_FnExactFlitsOf.f laws_toGrid.f laws_toPacket.f
  simp only [Option.bind_some]
  refine Ev.bind (FlitsOf_s w h i f t c l) (Ev.bind (FlitsOf_i w h i f t c l) (Ev.bind (eqFlitS_f _ (by omega)) (Ev.ite_pos rfl ?_)))
  refine Ev.bind h1 (Ev.bind h2 (Ev.ite_neg (by omega) (Ev.ite_pos rfl ?_)))
  refine Ev.bind (FlitsOf_i w h i f t c l) (Ev.bind (eqFlitS_f _ (by omega)) (Ev.ite_pos rfl ?_))
  exact Ev.bind h2 (Ev.ite_neg (by omega) (Ev.ite_pos rfl (Ev.now _)))

end Go.Proofs.Ytlfmckdhmklgpaa.Pure
