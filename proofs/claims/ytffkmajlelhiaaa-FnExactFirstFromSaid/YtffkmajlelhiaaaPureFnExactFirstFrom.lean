/- The plain statement of the law FnExactFirstFrom: the program's FirstFrom and the reference's give one number. No condition. -/
import Derived.Test.YtffkmajlelhiaaaPFnExactFirstFromx
import Derived.Test.YtffkmajlelhiaaaU
import Derived.Test.YtffkmajlelhiaaaSaysFnExactFirstFrom
namespace Go.Proofs.Ytffkmajlelhiaaa.Pure
open Go.RowKit Go.Proofs.Ytffkmajlelhiaaa.PFnExactFirstFrom Go.Proofs.YtffkmajlelhiaaaW.PrintWords Go.Proofs.YtffkmajlelhiaaaW.PrintLast Go.Proofs.YtffkmajlelhiaaaW.PrintMore Go.Proofs.Ytffkmajlelhiaaa.U
set_option linter.unusedVariables false
set_option linter.unusedSimpArgs false

/-! ### toIntS -/
theorem toIntS_l0 : ∀ (rest pre z : List Int), z.length = rest.length → pre.length + rest.length ≤ 1152921504606846976 → Ev (fun k => laws_toIntS.l0 k (pre ++ rest) (pre ++ z) (pre.length : Int)) (pre ++ rest)
  | [], pre, z, hz, _ => by
    have : z = [] := List.length_eq_zero_iff.1 hz
    subst this
    refine Ev.suc ?_
    simp only [laws_toIntS.l0]
    refine Ev.ite_neg (by simp) (Ev.now _)
  | x :: rest, pre, z, hz, hl => by
    obtain ⟨y, z, rfl⟩ : ∃ y z', z = y :: z' := by
      cases z with
      | nil => simp at hz
      | cons y z' => exact ⟨y, z', rfl⟩
    simp only [List.length_cons] at hz hl
    refine Ev.suc ?_
    simp only [laws_toIntS.l0, rd_mid, set_mid]
    refine Ev.ite_pos (by simp only [List.length_append, List.length_cons]; omega) ?_
    refine Ev.ite_pos (by omega) ?_
    refine Ev.ite_pos (by simp only [List.length_append, List.length_cons]; omega) ?_
    rw [w64 (by omega) (by omega), ← len_snoc pre x, snoc_app pre x rest, snoc_app pre x z]
    exact toIntS_l0 rest (pre ++ [x]) z (by omega) (by simp only [List.length_append, List.length_cons, List.length_nil]; omega)
theorem toIntS_f (l : List Int) (h : l.length ≤ 35184372088832) : Ev (fun k => laws_toIntS.f k l) l := by
  unfold laws_toIntS.f
  refine Ev.ite_pos (by omega) ?_
  refine Ev.ite_pos (by omega) ?_
  exact toIntS_l0 l [] _ (by simp) (by simp; omega)

/-! ### eqIntS -/
theorem eqIntS_l0 : ∀ (rest pre : List Int), pre.length + rest.length ≤ 1152921504606846976 → Ev (fun k => laws_eqIntS.l0 k (pre ++ rest) (pre ++ rest) (pre.length : Int)) true
  | [], pre, _ => by
    refine Ev.suc ?_
    simp only [laws_eqIntS.l0]
    refine Ev.ite_neg (by simp) (Ev.now _)
  | x :: rest, pre, hl => by
    simp only [List.length_cons] at hl
    refine Ev.suc ?_
    simp only [laws_eqIntS.l0, rd_mid]
    refine Ev.ite_pos (by simp only [List.length_append, List.length_cons]; omega) ?_
    refine Ev.ite_pos (by omega) ?_
    refine Ev.ite_pos (by simp only [List.length_append, List.length_cons]; omega) ?_
    refine Ev.ite_pos trivial ?_
    rw [w64 (by omega) (by omega), ← len_snoc pre x, snoc_app pre x rest]
    exact eqIntS_l0 rest (pre ++ [x]) (by simp only [List.length_append, List.length_cons, List.length_nil]; omega)
theorem eqIntS_f (l : List Int) (h : l.length ≤ 35184372088832) : Ev (fun k => laws_eqIntS.f k l l) true := by
  unfold laws_eqIntS.f
  refine Ev.ite_pos rfl ?_
  exact eqIntS_l0 l [] (by simp; omega)

/-! ### in -/
theorem l01In_f (a b c : Int) : spec_l01In.f a b c = some (decide (b ≤ a ∧ a ≤ c)) := by
  unfold spec_l01In.f
  by_cases h : a ≥ b
  · rw [if_pos h]
    simp [show b ≤ a from h]
  · rw [if_neg h]
    simp [show ¬ b ≤ a from h]

/-! ### ff -/
def ffKey (t x : Int) : Int := Int.tmod (wrap64 ((wrap64 (x - t)) + 10)) 10
def ffStep (t b x : Int) : Int := if b < 0 then x else if ffKey t x < ffKey t b then x else b
def ffGo (t : Int) : Int → List Int → Int
  | b, [] => b
  | b, x :: xs => ffGo t (ffStep t b x) xs
def ffR (l : List Int) (t : Int) : Int := if (∀ x ∈ l, 0 ≤ x ∧ x ≤ 9) ∧ (l = [] ∨ (0 ≤ t ∧ t ≤ 9)) then ffGo t (-1) l else -1

/-! ### FirstFrom_s -/
theorem FirstFrom_s_l0 (t : Int) : ∀ (rest pre : List Int) (b : Int), pre.length + rest.length ≤ 1152921504606846976 →
    Ev (fun k => spec_FirstFrom.l0 k (pre ++ rest) t b (pre.length : Int)) (if (∀ x ∈ rest, 0 ≤ x ∧ x ≤ 9) ∧ (rest = [] ∨ (0 ≤ t ∧ t ≤ 9)) then ffGo t b rest else -1)
  | [], pre, b, _ => by
    refine Ev.suc ?_
    simp only [spec_FirstFrom.l0]
    refine Ev.ite_neg (by simp) (Ev.val ?_)
    simp [ffGo]
  | x :: rest, pre, b, hl => by
    simp only [List.length_cons] at hl
    have h1 : (pre.length : Int) < ((pre ++ x :: rest).length : Int) := by simp only [List.length_append, List.length_cons]; omega
    have hw : wrap64 ((pre.length : Int) + 1) = ((pre ++ [x]).length : Int) := by rw [w64 (by omega) (by omega), len_snoc]
    have ih := fun b' => FirstFrom_s_l0 t rest (pre ++ [x]) b' (by simp only [List.length_append, List.length_cons, List.length_nil]; omega)
    refine Ev.suc ?_
    simp only [spec_FirstFrom.l0, rd_mid, l01In_f, Option.bind_some, decide_eq_true_eq]
    refine Ev.ite_pos h1 (Ev.ite_pos (by omega) ?_)
    by_cases hx : 0 ≤ x ∧ x ≤ 9
    · refine Ev.ite_pos hx ?_
      refine Ev.suc ?_
      simp only [spec_FirstFrom.j1]
      by_cases ht : 0 ≤ t ∧ t ≤ 9
      · refine Ev.ite_neg (by simp [ht]) ?_
        have key : (if (∀ y ∈ x :: rest, 0 ≤ y ∧ y ≤ 9) ∧ (x :: rest = [] ∨ (0 ≤ t ∧ t ≤ 9)) then ffGo t b (x :: rest) else -1) = (if (∀ y ∈ rest, 0 ≤ y ∧ y ≤ 9) ∧ (rest = [] ∨ (0 ≤ t ∧ t ≤ 9)) then ffGo t (ffStep t b x) rest else -1) := by
          simp [hx, ht, ffGo]
        rw [key]
        unfold ffStep
        by_cases hb : b < 0
        · refine Ev.ite_pos hb (Ev.ite_pos (by omega) (Ev.ite_pos h1 ?_))
          simp only [rd_mid, hw]
          rw [if_pos hb, snoc_app pre x rest]
          exact ih x
        · refine Ev.ite_neg hb (Ev.ite_pos (by omega) (Ev.ite_pos h1 ?_))
          rw [if_neg hb]
          simp only [rd_mid, hw]
          by_cases hk : ffKey t x < ffKey t b
          · refine Ev.ite_pos hk ?_
            rw [if_pos hk, snoc_app pre x rest]
            exact ih x
          · refine Ev.ite_neg hk ?_
            rw [if_neg hk, snoc_app pre x rest]
            exact ih b
      · refine Ev.ite_pos (by simp [ht]) (Ev.val ?_)
        rw [if_neg]
        rintro ⟨_, h | h⟩
        · cases h
        · exact ht h
    · refine Ev.ite_neg hx ?_
      refine Ev.suc ?_
      simp only [spec_FirstFrom.j1]
      refine Ev.ite_pos trivial (Ev.val ?_)
      rw [if_neg]
      rintro ⟨h, _⟩
      exact hx (h x List.mem_cons_self)
theorem FirstFrom_s (l : List Int) (t : Int) (h : l.length ≤ 1152921504606846976) : Ev (fun k => spec_FirstFrom.f k l t) (ffR l t) := by
  unfold spec_FirstFrom.f
  exact FirstFrom_s_l0 t l [] (-1) (by simpa using h)

/-! ### inside -/
theorem inside_f (a b c : Int) : impl_inside.f a b c = some (decide (b ≤ a ∧ a ≤ c)) := by
  unfold impl_inside.f
  by_cases h : b ≤ a
  · rw [if_pos h]
    simp [h]
  · rw [if_neg h]
    simp [h]

/-! ### areInside -/
theorem areInside_l0 (lo hi : Int) : ∀ (rest pre : List Int), pre.length + rest.length ≤ 1152921504606846976 →
    Ev (fun k => impl_areInside.l0 k lo hi (pre ++ rest) ((pre ++ rest).length : Int) (pre.length : Int)) (decide (∀ x ∈ rest, lo ≤ x ∧ x ≤ hi))
  | [], pre, _ => by
    refine Ev.suc ?_
    simp only [impl_areInside.l0]
    refine Ev.ite_neg (by simp) (Ev.val (by simp))
  | x :: rest, pre, hl => by
    simp only [List.length_cons] at hl
    have h1 : (pre.length : Int) < ((pre ++ x :: rest).length : Int) := by simp only [List.length_append, List.length_cons]; omega
    have hw : wrap64 ((pre.length : Int) + 1) = ((pre ++ [x]).length : Int) := by rw [w64 (by omega) (by omega), len_snoc]
    have ih := areInside_l0 lo hi rest (pre ++ [x]) (by simp only [List.length_append, List.length_cons, List.length_nil]; omega)
    refine Ev.suc ?_
    simp only [impl_areInside.l0, rd_mid, inside_f, Option.bind_some, decide_eq_true_eq, hw]
    refine Ev.ite_pos h1 (Ev.ite_pos (by omega) (Ev.ite_pos h1 ?_))
    refine Ev.ite (fun hx => ?_) (fun hx => Ev.val ?_)
    · rw [snoc_app pre x rest]
      refine Ev.eq ih ?_
      rw [decide_eq_decide]
      simp [hx]
    · symm
      rw [decide_eq_false_iff_not]
      intro h
      exact hx (h x List.mem_cons_self)
theorem areInside_f (l : List Int) (lo hi : Int) (h : l.length ≤ 1152921504606846976) : Ev (fun k => impl_areInside.f k l lo hi) (decide (∀ x ∈ l, lo ≤ x ∧ x ≤ hi)) := by
  unfold impl_areInside.f
  exact areInside_l0 lo hi l [] (by simpa using h)

/-! ### FirstFrom_i -/
theorem FirstFrom_i_l0 (t : Int) : ∀ (rest pre : List Int) (b : Int), pre.length + rest.length ≤ 1152921504606846976 →
    Ev (fun k => impl_FirstFrom.l0 k t b (pre ++ rest) ((pre ++ rest).length : Int) (pre.length : Int)) (ffGo t b rest)
  | [], pre, b, _ => by
    refine Ev.suc ?_
    simp only [impl_FirstFrom.l0]
    refine Ev.ite_neg (by simp) (Ev.val (by simp [ffGo]))
  | x :: rest, pre, b, hl => by
    simp only [List.length_cons] at hl
    have h1 : (pre.length : Int) < ((pre ++ x :: rest).length : Int) := by simp only [List.length_append, List.length_cons]; omega
    have hw : wrap64 ((pre.length : Int) + 1) = ((pre ++ [x]).length : Int) := by rw [w64 (by omega) (by omega), len_snoc]
    have ih := fun b' => FirstFrom_i_l0 t rest (pre ++ [x]) b' (by simp only [List.length_append, List.length_cons, List.length_nil]; omega)
    refine Ev.suc ?_
    simp only [impl_FirstFrom.l0, rd_mid, hw]
    refine Ev.ite_pos h1 (Ev.ite_pos (by omega) (Ev.ite_pos h1 ?_))
    unfold ffGo ffStep
    by_cases hb : b < 0
    · refine Ev.ite_pos hb ?_
      rw [if_pos hb, snoc_app pre x rest]
      exact ih x
    · refine Ev.ite_neg hb ?_
      rw [if_neg hb]
      by_cases hk : ffKey t x < ffKey t b
      · refine Ev.ite_pos hk ?_
        rw [if_pos hk, snoc_app pre x rest]
        exact ih x
      · refine Ev.ite_neg hk ?_
        rw [if_neg hk, snoc_app pre x rest]
        exact ih b
theorem FirstFrom_i (l : List Int) (t : Int) (h : l.length ≤ 1152921504606846976) : Ev (fun k => impl_FirstFrom.f k l t) (ffR l t) := by
  unfold impl_FirstFrom.f ffR
  refine Ev.bind (areInside_f l 0 9 h) ?_
  simp only [decide_eq_true_eq, inside_f, Option.bind_some]
  refine Ev.ite (fun ha => ?_) (fun ha => ?_)
  · refine Ev.suc ?_
    simp only [impl_FirstFrom.j0]
    by_cases ht : 0 ≤ t ∧ t ≤ 9
    · refine Ev.ite_neg (by simp [ht]) ?_
      rw [if_pos ⟨ha, .inr ht⟩]
      exact FirstFrom_i_l0 t l [] (-1) (by simpa using h)
    · refine Ev.ite_pos (by simp [ht]) (Ev.val ?_)
      cases l with
      | nil => simp [ffGo]
      | cons x xs =>
        rw [if_neg]
        rintro ⟨_, h | h⟩
        · cases h
        · exact ht h
  · refine Ev.suc ?_
    simp only [impl_FirstFrom.j0]
    refine Ev.ite_pos trivial (Ev.val ?_)
    rw [if_neg (fun h => ha h.1)]

theorem FnExactFirstFrom : FnExactFirstFrom_says := by
  intro l a _ _
  refine Ev.rounds ?_
  unfold laws_FnExactFirstFrom.f
  refine Ev.ite (fun _ => Ev.now _) (fun hl => ?_)
  have hl' : l.length ≤ 1048576 := by omega
  refine Ev.bind (toIntS_f l (by omega)) (Ev.bind (FirstFrom_s l a (by omega)) (Ev.bind (toIntS_f l (by omega)) (Ev.bind (FirstFrom_i l a (by omega)) (Ev.ite_pos rfl (Ev.bind (toIntS_f l (by omega)) (Ev.bind (eqIntS_f l (by omega)) (Ev.ite_pos rfl (Ev.now _))))))))

end Go.Proofs.Ytffkmajlelhiaaa.Pure
