/- The plain statement of the law FnExactClassOnly: the program's ClassOnly and the reference's give one list, and nothing is shared or turned. No condition. -/
import Derived.Test.YtlfmckdhmklgpaaPFnExactClassOnlyx
import Derived.Test.YtlfmckdhmklgpaaU
import Derived.Test.YtlfmckdhmklgpaaSaysFnExactClassOnly
namespace Go.Proofs.Ytlfmckdhmklgpaa.Pure
open Go.RowKit Go.Proofs.Ytlfmckdhmklgpaa.PFnExactClassOnly Go.Proofs.YtlfmckdhmklgpaaW.PrintWords Go.Proofs.YtlfmckdhmklgpaaW.PrintLast Go.Proofs.YtlfmckdhmklgpaaW.PrintMore Go.Proofs.Ytlfmckdhmklgpaa.U
set_option linter.unusedVariables false
set_option linter.unusedSimpArgs false

/-! ### rdFlit -/
theorem rdI_Flit (pre : List S58) (x : S58) (rest : List S58) : rd_T58 (pre ++ x :: rest) (pre.length : Int) = x := getD_mid pre x rest _

/-! ### clsL -/
def clsL (c : Int) : List S58 → List S58
  | [] => []
  | x :: l => if x.f2 = c then x :: clsL c l else clsL c l
theorem clsL_len (c : Int) : ∀ l : List S58, (clsL c l).length ≤ l.length
  | [] => Nat.le_refl _
  | x :: l => by
    have := clsL_len c l
    unfold clsL
    split
    · simp only [List.length_cons]
      omega
    · simp only [List.length_cons]
      omega

/-! ### ClassOnly_s -/
theorem ClassOnly_s_l0 (c : Int) : ∀ (rest pre acc : List S58), acc.length ≤ pre.length → pre.length + rest.length ≤ 1048576 →
    Ev (fun k => spec_ClassOnly.l0 k (pre ++ rest) c acc (pre.length : Int)) (acc ++ clsL c rest)
  | [], pre, acc, ha, hl => by
    refine Ev.suc ?_
    simp only [spec_ClassOnly.l0]
    exact Ev.ite_neg (by simp) (Ev.val (by simp [clsL]))
  | x :: rest, pre, acc, ha, hl => by
    simp only [List.length_cons] at hl
    have h1 : (pre.length : Int) < ((pre ++ x :: rest).length : Int) := by simp only [List.length_append, List.length_cons]; omega
    have hw : wrap64 ((pre.length : Int) + 1) = ((pre ++ [x]).length : Int) := by rw [w64 (by omega) (by omega), len_snoc]
    have ih := fun acc' h' => ClassOnly_s_l0 c rest (pre ++ [x]) acc' h' (by simp only [List.length_append, List.length_cons, List.length_nil]; omega)
    rw [← snoc_app pre x rest] at ih
    refine Ev.suc ?_
    simp only [spec_ClassOnly.l0, rdI_Flit, hw]
    refine Ev.ite_pos h1 (Ev.ite_pos (by omega) (Ev.ite (fun h => Ev.ite_pos (by omega) ?_) (fun h => ?_)))
    · refine Ev.eq (ih (acc ++ [x]) (by simp; omega)) ?_
      simp [clsL, h]
    · refine Ev.eq (ih acc (by simp; omega)) ?_
      simp [clsL, h]
theorem ClassOnly_s (l : List S58) (c : Int) (h : l.length ≤ 1048576) : Ev (fun k => spec_ClassOnly.f k l c) (clsL c l) := by
  unfold spec_ClassOnly.f
  exact ClassOnly_s_l0 c l [] [] (Nat.le_refl _) (by simpa using h)

/-! ### ClassOnly_i -/
theorem ClassOnly_i_l0 (c : Int) : ∀ (rest pre acc : List S58), acc.length ≤ pre.length → pre.length + rest.length ≤ 1048576 →
    Ev (fun k => impl_ClassOnly.l0 k c acc (pre ++ rest) ((pre ++ rest).length : Int) (pre.length : Int)) (acc ++ clsL c rest)
  | [], pre, acc, ha, hl => by
    refine Ev.suc ?_
    simp only [impl_ClassOnly.l0]
    exact Ev.ite_neg (by simp) (Ev.val (by simp [clsL]))
  | x :: rest, pre, acc, ha, hl => by
    simp only [List.length_cons] at hl
    have h1 : (pre.length : Int) < ((pre ++ x :: rest).length : Int) := by simp only [List.length_append, List.length_cons]; omega
    have hw : wrap64 ((pre.length : Int) + 1) = ((pre ++ [x]).length : Int) := by rw [w64 (by omega) (by omega), len_snoc]
    have ih := fun acc' h' => ClassOnly_i_l0 c rest (pre ++ [x]) acc' h' (by simp only [List.length_append, List.length_cons, List.length_nil]; omega)
    rw [← snoc_app pre x rest] at ih
    refine Ev.suc ?_
    simp only [impl_ClassOnly.l0, rdI_Flit, hw]
    refine Ev.ite_pos h1 (Ev.ite_pos (by omega) (Ev.ite_pos h1 (Ev.ite (fun h => Ev.ite_pos (by omega) ?_) (fun h => ?_))))
    · refine Ev.eq (ih (acc ++ [x]) (by simp; omega)) ?_
      simp [clsL, h]
    · refine Ev.eq (ih acc (by simp; omega)) ?_
      simp [clsL, h]
theorem ClassOnly_i (l : List S58) (c : Int) (h : l.length ≤ 1048576) : Ev (fun k => impl_ClassOnly.f k l c) (clsL c l) := by
  unfold impl_ClassOnly.f
  exact ClassOnly_i_l0 c l [] [] (Nat.le_refl _) (by simpa using h)

/-! ### szFlitS -/
theorem szFlitS_f (l : List S112) (n : Int) (hl : l.length ≤ maxLen) (h0 : 0 ≤ n) (h1 : n ≤ 1048576) : laws_szFlitS.f l n = some (if n < (l.length : Int) then -1 else n - (l.length : Int)) := by
  have hm : maxLen = 9223372036854775807 := rfl
  unfold laws_szFlitS.f
  rw [w64 (by omega) (by omega)]
  by_cases h : n < (l.length : Int)
  · rw [if_pos h, if_pos (by omega)]
  · rw [if_neg h, if_neg (by omega)]

/-! ### toFlitS -/
def cvFlit (x : S112) : S58 := ⟨x.f0, x.f1, x.f2, x.f3, x.f4⟩
theorem rdL_Flit (pre : List S112) (x : S112) (rest : List S112) : rd_T112 (pre ++ x :: rest) (pre.length : Int) = x := getD_mid pre x rest _
theorem toFlitS_l0 : ∀ (rest pre : List S112) (z : List S58), z.length = rest.length → pre.length + rest.length ≤ 1152921504606846976 →
    Ev (fun k => laws_toFlitS.l0 k (pre ++ rest) (pre.map cvFlit ++ z) (pre.length : Int)) ((pre ++ rest).map cvFlit)
  | [], pre, z, hz, _ => by
    have : z = [] := List.length_eq_zero_iff.1 hz
    subst this
    refine Ev.suc ?_
    simp only [laws_toFlitS.l0]
    refine Ev.ite_neg (by simp) (Ev.val (by simp))
  | x :: rest, pre, z, hz, hl => by
    obtain ⟨y, z, rfl⟩ : ∃ y z', z = y :: z' := by
      cases z with
      | nil => simp at hz
      | cons y z' => exact ⟨y, z', rfl⟩
    simp only [List.length_cons] at hz hl
    have hset : (pre.map cvFlit ++ y :: z).set ((pre.length : Int)).toNat (cvFlit x) = (pre ++ [x]).map cvFlit ++ z := by
      have h := set_mid (pre.map cvFlit) y (cvFlit x) z
      rw [List.length_map] at h
      rw [h]
      simp
    refine Ev.suc ?_
    simp only [laws_toFlitS.l0, rdL_Flit, laws_toFlit.f, Option.bind_some]
    refine Ev.ite_pos (by simp only [List.length_append, List.length_cons]; omega) ?_
    refine Ev.ite_pos (by omega) ?_
    refine Ev.ite_pos (by simp only [List.length_append, List.length_cons, List.length_map]; omega) ?_
    have hset' := hset
    unfold cvFlit at hset'
    simp only [cvFlit] at hset ⊢
    rw [hset, w64 (by omega) (by omega), ← len_snoc pre x, snoc_app pre x rest]
    exact toFlitS_l0 rest (pre ++ [x]) z (by omega) (by simp only [List.length_append, List.length_cons, List.length_nil]; omega)
theorem toFlitS_f (l : List S112) (h : l.length ≤ 1048576) : Ev (fun k => laws_toFlitS.f k l) (l.map cvFlit) := by
  unfold laws_toFlitS.f
  refine Ev.ite_pos (by omega) ?_
  refine Ev.ite_pos (by omega) ?_
  exact toFlitS_l0 l [] _ (by simp) (by simp; omega)

/-! ### eqFlit -/
theorem eqFlit_f (a0 a1 a2 : Int) (a3 a4 : Bool) : laws_eqFlit.f a0 a1 a2 a3 a4 a0 a1 a2 a3 a4 = some true := by
  unfold laws_eqFlit.f
  simp

/-! ### eqFlitS -/
theorem eqFlitS_l0 : ∀ (rest pre : List S58), pre.length + rest.length ≤ 1152921504606846976 → Ev (fun k => laws_eqFlitS.l0 k (pre ++ rest) (pre ++ rest) (pre.length : Int)) true
  | [], pre, _ => by
    refine Ev.suc ?_
    simp only [laws_eqFlitS.l0]
    refine Ev.ite_neg (by simp) (Ev.now _)
  | x :: rest, pre, hl => by
    simp only [List.length_cons] at hl
    refine Ev.suc ?_
    simp only [laws_eqFlitS.l0, rdI_Flit, eqFlit_f, Option.bind_some]
    refine Ev.ite_pos (by simp only [List.length_append, List.length_cons]; omega) ?_
    refine Ev.ite_pos (by omega) ?_
    refine Ev.ite_pos (by simp only [List.length_append, List.length_cons]; omega) ?_
    refine Ev.ite_pos trivial ?_
    rw [w64 (by omega) (by omega), ← len_snoc pre x, snoc_app pre x rest]
    exact eqFlitS_l0 rest (pre ++ [x]) (by simp only [List.length_append, List.length_cons, List.length_nil]; omega)
theorem eqFlitS_f (l : List S58) (h : l.length ≤ 1152921504606846976) : Ev (fun k => laws_eqFlitS.f k l l) true := by
  unfold laws_eqFlitS.f
  refine Ev.ite_pos rfl ?_
  exact eqFlitS_l0 l [] (by simpa using h)

/-! ### markFlitS -/
def mkFlit : Int → List S58 → List S58
  | _, [] => []
  | m, _ :: l => (⟨m, m + 1, m + 1 + 1, (Int.tmod (m + 1 + 1 + 1) 3 == 0), (Int.tmod (m + 1 + 1 + 1 + 1) 3 == 0)⟩ : S58) :: mkFlit (m + 1 + 1 + 1 + 1 + 1) l
theorem markFlit_l0 : ∀ (rest pre : List S58) (m : Int), pre.length + rest.length ≤ 1099511627776 → 0 ≤ m → m + 5 * (rest.length : Int) ≤ 1152921504606846976 →
    Ev (fun k => laws_markFlitS.l0 k (pre ++ rest) m (pre.length : Int)) (m + 5 * (rest.length : Int), pre ++ mkFlit m rest) ∧
    Ev (fun k => laws_heldFlitS.l0 k (pre ++ mkFlit m rest) m (pre.length : Int)) (m + 5 * (rest.length : Int))
  | [], pre, m, _, _, _ => by
    constructor
    · refine Ev.suc ?_
      simp only [laws_markFlitS.l0]
      exact Ev.ite_neg (by simp) (Ev.val (by simp [mkFlit]))
    · refine Ev.suc ?_
      simp only [laws_heldFlitS.l0]
      exact Ev.ite_neg (by simp [mkFlit]) (Ev.val (by simp))
  | x :: rest, pre, m, hl, h0, hm => by
    simp only [List.length_cons] at hl hm
    have hp : (pre.length : Int) < ((pre ++ x :: rest).length : Int) := by simp only [List.length_append, List.length_cons]; omega
    have hw : wrap64 ((pre.length : Int) + 1) = ((pre ++ [(⟨m, m + 1, m + 1 + 1, (Int.tmod (m + 1 + 1 + 1) 3 == 0), (Int.tmod (m + 1 + 1 + 1 + 1) 3 == 0)⟩ : S58)]).length : Int) := by rw [w64 (by omega) (by omega), len_snoc]
    have h1 : wrap64 (m + 1) = m + 1 := w64 (by omega) (by omega)
    have h2 : wrap64 (m + 1 + 1) = m + 1 + 1 := w64 (by omega) (by omega)
    have h3 : wrap64 (m + 1 + 1 + 1) = m + 1 + 1 + 1 := w64 (by omega) (by omega)
    have h4 : wrap64 (m + 1 + 1 + 1 + 1) = m + 1 + 1 + 1 + 1 := w64 (by omega) (by omega)
    have h5 : wrap64 (m + 1 + 1 + 1 + 1 + 1) = m + 1 + 1 + 1 + 1 + 1 := w64 (by omega) (by omega)
    have ih := markFlit_l0 rest (pre ++ [(⟨m, m + 1, m + 1 + 1, (Int.tmod (m + 1 + 1 + 1) 3 == 0), (Int.tmod (m + 1 + 1 + 1 + 1) 3 == 0)⟩ : S58)]) (m + 1 + 1 + 1 + 1 + 1) (by simp only [List.length_append, List.length_cons, List.length_nil]; omega) (by omega) (by omega)
    have e : m + 1 + 1 + 1 + 1 + 1 + 5 * (rest.length : Int) = m + 5 * ((x :: rest).length : Int) := by
      simp only [List.length_cons]
      omega
    rw [e] at ih
    have el : pre ++ mkFlit m (x :: rest) = pre ++ (⟨m, m + 1, m + 1 + 1, (Int.tmod (m + 1 + 1 + 1) 3 == 0), (Int.tmod (m + 1 + 1 + 1 + 1) 3 == 0)⟩ : S58) :: mkFlit (m + 1 + 1 + 1 + 1 + 1) rest := rfl
    constructor
    · refine Ev.suc ?_
      simp only [laws_markFlitS.l0, set_mid, rdI_Flit, Option.bind_some, h1, h2, h3, h4, h5, hw]
      refine Ev.ite_pos hp (Ev.ite_pos (by omega) ?_)
      rw [el, snoc_app pre _ rest, snoc_app pre _ (mkFlit _ rest)]
      exact ih.1
    · rw [el]
      have hq : (pre.length : Int) < ((pre ++ (⟨m, m + 1, m + 1 + 1, (Int.tmod (m + 1 + 1 + 1) 3 == 0), (Int.tmod (m + 1 + 1 + 1 + 1) 3 == 0)⟩ : S58) :: mkFlit (m + 1 + 1 + 1 + 1 + 1) rest).length : Int) := by simp only [List.length_append, List.length_cons]; omega
      refine Ev.suc ?_
      simp only [laws_heldFlitS.l0, rdI_Flit, h1, h2, h3, h4, h5, hw]
      refine Ev.ite_pos hq (Ev.ite_pos (by omega) (Ev.ite_pos (by trivial) (Ev.ite_pos (by trivial) (Ev.ite_pos (by trivial) (Ev.ite_neg (by simp) (Ev.ite_neg (by simp) (?_)))))))
      rw [snoc_app pre _ (mkFlit _ rest)]
      exact ih.2
/-- What is marked is held. -/
theorem markFlit_f (l : List S58) (m : Int) (hl : l.length ≤ 1099511627776) (h0 : 0 ≤ m) (h1 : m ≤ 1099511627776) :
    ∃ m' l', m ≤ m' ∧ m' ≤ m + 5 * (l.length : Int) ∧ l'.length = l.length ∧ Ev (fun k => laws_markFlitS.f k l m) (m', l') ∧ Ev (fun k => laws_heldFlitS.f k l' m) m' := by
  have h := markFlit_l0 l [] m (by simpa using hl) h0 (by omega)
  have hlen : ∀ (l : List S58) (m : Int), (mkFlit m l).length = l.length := by
    intro l
    induction l with
    | nil => exact fun _ => rfl
    | cons x l ih => exact fun m => by simp only [mkFlit, List.length_cons, ih]
  refine ⟨m + 5 * (l.length : Int), mkFlit m l, by omega, by omega, hlen l m, ?_, ?_⟩
  · unfold laws_markFlitS.f
    exact h.1
  · unfold laws_heldFlitS.f
    exact h.2

theorem FnExactClassOnly : FnExactClassOnly_says := by
  intro l c hl _
  refine Ev.rounds ?_
  unfold laws_FnExactClassOnly.f
  simp only [szFlitS_f l 1048576 hl.1 (by omega) (by omega), Option.bind_some]
  refine Ev.ite (fun _ => Ev.now _) (fun h => ?_)
  have hn : l.length ≤ 1048576 := by
    split at h <;> omega
  have hm : (l.map cvFlit).length ≤ 1048576 := by simpa using hn
  have hr : (clsL c (l.map cvFlit)).length ≤ 1048576 := Nat.le_trans (clsL_len c _) hm
  obtain ⟨m, l', h1, _, _, h2, h3⟩ := markFlit_f (l.map cvFlit) 1 (by omega) (by omega) (by omega)
  obtain ⟨n, r', g1, _, _, g2, g3⟩ := markFlit_f (clsL c (l.map cvFlit)) 1 (by omega) (by omega) (by omega)
  refine Ev.bind (toFlitS_f l hn) (Ev.bind (ClassOnly_s _ c hm) (Ev.bind (toFlitS_f l hn) (Ev.bind (ClassOnly_i _ c hm) (Ev.bind (eqFlitS_f _ (by omega)) (Ev.ite_pos rfl ?_)))))
  refine Ev.bind (toFlitS_f l hn) (Ev.bind (eqFlitS_f _ (by omega)) (Ev.ite_pos rfl ?_))
  refine Ev.bind h2 (Ev.ite_neg (by omega) (Ev.bind (eqFlitS_f _ (by omega)) ?_))
  refine Ev.suc ?_
  simp only [laws_FnExactClassOnly.j0]
  refine Ev.ite_neg (by simp) (Ev.bind g2 (Ev.bind g3 (Ev.ite_neg (by omega) (Ev.ite_pos rfl ?_))))
  refine Ev.bind (toFlitS_f l hn) (Ev.bind (ClassOnly_i _ c hm) (Ev.bind (eqFlitS_f _ (by omega)) (Ev.ite_pos rfl ?_)))
  exact Ev.bind g3 (Ev.ite_neg (by omega) (Ev.ite_pos rfl (Ev.now _)))

end Go.Proofs.Ytlfmckdhmklgpaa.Pure
