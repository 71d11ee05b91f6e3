/- The plain statement of the law FnExactTableFor: the program's TableFor and the reference's give one table, and nothing is shared or turned. No condition. -/
import Derived.Test.YtlfmckdhmklgpaaPFnExactTableForx
import Derived.Test.YtlfmckdhmklgpaaU
import Derived.Test.YtlfmckdhmklgpaaSaysFnExactTableFor
namespace Go.Proofs.Ytlfmckdhmklgpaa.Pure
open Go.RowKit Go.Proofs.Ytlfmckdhmklgpaa.PFnExactTableFor Go.Proofs.YtlfmckdhmklgpaaW.PrintWords Go.Proofs.YtlfmckdhmklgpaaW.PrintLast Go.Proofs.YtlfmckdhmklgpaaW.PrintMore Go.Proofs.Ytlfmckdhmklgpaa.U
set_option linter.unusedVariables false
set_option linter.unusedSimpArgs false

/-! ### inside -/
theorem inside_f (a b c : Int) : impl_inside.f a b c = some (decide (b ≤ a ∧ a ≤ c)) := by
  unfold impl_inside.f
  by_cases h : b ≤ a
  · rw [if_pos h]
    simp [h]
  · rw [if_neg h]
    simp [h]

/-! ### szTab -/
theorem szIntS_f (l : List Int) (n : Int) (hl : l.length ≤ maxLen) (h0 : 0 ≤ n) (h1 : n ≤ 1048576) : laws_szIntS.f l n = some (if n < (l.length : Int) then -1 else n - (l.length : Int)) := by
  have hm : maxLen = 9223372036854775807 := rfl
  unfold laws_szIntS.f
  rw [w64 (by omega) (by omega)]
  by_cases h : n < (l.length : Int)
  · rw [if_pos h, if_pos (by omega)]
  · rw [if_neg h, if_neg (by omega)]
theorem szTable_f (l : List Int) (n : Int) (hl : l.length ≤ maxLen) (h0 : 0 ≤ n) (h1 : n ≤ 1048576) : laws_szTable.f l n = some (if n < (l.length : Int) then -1 else n - (l.length : Int)) := by
  unfold laws_szTable.f
  rw [szIntS_f l n hl h0 h1]
  simp only [Option.bind_some]
  by_cases h : n < (l.length : Int)
  · simp [h]
  · rw [if_neg h, if_neg (by omega)]

/-! ### szCls -/
theorem szClasses_f (a b : List Int) (n : Int) (ha : a.length ≤ maxLen) (hb : b.length ≤ maxLen) (h0 : 0 ≤ n) (h1 : n ≤ 1048576) :
    ∃ r, laws_szClasses.f a b n = some r ∧ (r < 0 ∨ (0 ≤ r ∧ r = n - (a.length : Int) - (b.length : Int) ∧ (a.length : Int) + (b.length : Int) ≤ n)) := by
  unfold laws_szClasses.f
  rw [szTable_f a n ha h0 h1]
  simp only [Option.bind_some]
  by_cases h : n < (a.length : Int)
  · rw [if_pos h]
    exact ⟨-1, by simp, .inl (by omega)⟩
  · rw [if_neg h, if_neg (by omega), szTable_f b _ hb (by omega) (by omega)]
    simp only [Option.bind_some]
    by_cases h' : n - (a.length : Int) < (b.length : Int)
    · rw [if_pos h']
      exact ⟨-1, by simp, .inl (by omega)⟩
    · rw [if_neg h', if_neg (by omega)]
      exact ⟨_, rfl, .inr ⟨by omega, rfl, by omega⟩⟩

/-! ### toIntS -/
theorem toIntS_l0 : ∀ (rest pre z : List Int), z.length = rest.length → pre.length + rest.length ≤ 1152921504606846976 → Ev (fun k => laws_toIntS.l0 k (pre ++ rest) (pre ++ z) (pre.length : Int)) (pre ++ rest)
  | [], pre, z, hz, _ => by
    have : z = [] := List.length_eq_zero_iff.1 hz
    subst this
    refine Ev.suc ?_
    simp only [laws_toIntS.l0]
    refine Ev.ite_neg (by simp) (Ev.now _)
  | x :: rest, pre, z, hz, hl => by
    obtain ⟨y, z, rfl⟩ : ∃ y z', z = y :: z' := by
      cases z with
      | nil => simp at hz
      | cons y z' => exact ⟨y, z', rfl⟩
    simp only [List.length_cons] at hz hl
    refine Ev.suc ?_
    simp only [laws_toIntS.l0, rd_mid, set_mid]
    refine Ev.ite_pos (by simp only [List.length_append, List.length_cons]; omega) ?_
    refine Ev.ite_pos (by omega) ?_
    refine Ev.ite_pos (by simp only [List.length_append, List.length_cons]; omega) ?_
    rw [w64 (by omega) (by omega), ← len_snoc pre x, snoc_app pre x rest, snoc_app pre x z]
    exact toIntS_l0 rest (pre ++ [x]) z (by omega) (by simp only [List.length_append, List.length_cons, List.length_nil]; omega)
theorem toIntS_f (l : List Int) (h : l.length ≤ 35184372088832) : Ev (fun k => laws_toIntS.f k l) l := by
  unfold laws_toIntS.f
  refine Ev.ite_pos (by omega) ?_
  refine Ev.ite_pos (by omega) ?_
  exact toIntS_l0 l [] _ (by simp) (by simp; omega)

/-! ### toCls -/
theorem toTable_f (l : List Int) (h : l.length ≤ 35184372088832) : Ev (fun k => laws_toTable.f k l) l := by
  unfold laws_toTable.f
  exact Ev.bind (toIntS_f l h) (Ev.now _)
theorem toClasses_f (a b : List Int) (ha : a.length ≤ 35184372088832) (hb : b.length ≤ 35184372088832) : Ev (fun k => laws_toClasses.f k a b) (a, b) := by
  unfold laws_toClasses.f
  exact Ev.bind (toTable_f a ha) (Ev.bind (toTable_f b hb) (Ev.now _))

/-! ### eqIntS -/
theorem eqIntS_l0 : ∀ (rest pre : List Int), pre.length + rest.length ≤ 1152921504606846976 → Ev (fun k => laws_eqIntS.l0 k (pre ++ rest) (pre ++ rest) (pre.length : Int)) true
  | [], pre, _ => by
    refine Ev.suc ?_
    simp only [laws_eqIntS.l0]
    refine Ev.ite_neg (by simp) (Ev.now _)
  | x :: rest, pre, hl => by
    simp only [List.length_cons] at hl
    refine Ev.suc ?_
    simp only [laws_eqIntS.l0, rd_mid]
    refine Ev.ite_pos (by simp only [List.length_append, List.length_cons]; omega) ?_
    refine Ev.ite_pos (by omega) ?_
    refine Ev.ite_pos (by simp only [List.length_append, List.length_cons]; omega) ?_
    refine Ev.ite_pos trivial ?_
    rw [w64 (by omega) (by omega), ← len_snoc pre x, snoc_app pre x rest]
    exact eqIntS_l0 rest (pre ++ [x]) (by simp only [List.length_append, List.length_cons, List.length_nil]; omega)
theorem eqIntS_f (l : List Int) (h : l.length ≤ 35184372088832) : Ev (fun k => laws_eqIntS.f k l l) true := by
  unfold laws_eqIntS.f
  refine Ev.ite_pos rfl ?_
  exact eqIntS_l0 l [] (by simp; omega)

/-! ### eqCls -/
theorem eqTable_f (l : List Int) (h : l.length ≤ 35184372088832) : Ev (fun k => laws_eqTable.f k l l) true := by
  unfold laws_eqTable.f
  exact Ev.bind (eqIntS_f l h) (Ev.ite_pos rfl (Ev.now _))
theorem eqClasses_f (a b : List Int) (ha : a.length ≤ 35184372088832) (hb : b.length ≤ 35184372088832) : Ev (fun k => laws_eqClasses.f k a b a b) true := by
  unfold laws_eqClasses.f
  exact Ev.bind (eqTable_f a ha) (Ev.ite_pos rfl (Ev.bind (eqTable_f b hb) (Ev.ite_pos rfl (Ev.now _))))

/-! ### markIntS -/

def mkInt : Int → List Int → List Int
  | _, [] => []
  | m, _ :: l => m :: mkInt (m + 1) l
theorem markInt_l0 : ∀ (rest pre : List Int) (m : Int), pre.length + rest.length ≤ 1099511627776 → 0 ≤ m → m + 1 * (rest.length : Int) ≤ 1152921504606846976 →
    Ev (fun k => laws_markIntS.l0 k (pre ++ rest) m (pre.length : Int)) (m + 1 * (rest.length : Int), pre ++ mkInt m rest) ∧
    Ev (fun k => laws_heldIntS.l0 k (pre ++ mkInt m rest) m (pre.length : Int)) (m + 1 * (rest.length : Int))
  | [], pre, m, _, _, _ => by
    constructor
    · refine Ev.suc ?_
      simp only [laws_markIntS.l0]
      exact Ev.ite_neg (by simp) (Ev.val (by simp [mkInt]))
    · refine Ev.suc ?_
      simp only [laws_heldIntS.l0]
      exact Ev.ite_neg (by simp [mkInt]) (Ev.val (by simp))
  | x :: rest, pre, m, hl, h0, hm => by
    simp only [List.length_cons] at hl hm
    have hp : (pre.length : Int) < ((pre ++ x :: rest).length : Int) := by simp only [List.length_append, List.length_cons]; omega
    have hw : wrap64 ((pre.length : Int) + 1) = ((pre ++ [m]).length : Int) := by rw [w64 (by omega) (by omega), len_snoc]
    have h1 : wrap64 (m + 1) = m + 1 := w64 (by omega) (by omega)
    have ih := markInt_l0 rest (pre ++ [m]) (m + 1) (by simp only [List.length_append, List.length_cons, List.length_nil]; omega) (by omega) (by omega)
    have e : m + 1 + 1 * (rest.length : Int) = m + 1 * ((x :: rest).length : Int) := by
      simp only [List.length_cons]
      omega
    rw [e] at ih
    have el : pre ++ mkInt m (x :: rest) = pre ++ m :: mkInt (m + 1) rest := rfl
    constructor
    · refine Ev.suc ?_
      simp only [laws_markIntS.l0, set_mid, rd_mid, Option.bind_some, h1, hw]
      refine Ev.ite_pos hp (Ev.ite_pos (by omega) ?_)
      rw [el, snoc_app pre _ rest, snoc_app pre _ (mkInt _ rest)]
      exact ih.1
    · rw [el]
      have hq : (pre.length : Int) < ((pre ++ m :: mkInt (m + 1) rest).length : Int) := by simp only [List.length_append, List.length_cons]; omega
      refine Ev.suc ?_
      simp only [laws_heldIntS.l0, rd_mid, h1, hw]
      refine Ev.ite_pos hq (Ev.ite_pos (by omega) (Ev.ite_pos (by trivial) (?_)))
      rw [snoc_app pre _ (mkInt _ rest)]
      exact ih.2
/-- What is marked is held. -/
theorem markInt_f (l : List Int) (m : Int) (hl : l.length ≤ 1099511627776) (h0 : 0 ≤ m) (h1 : m ≤ 1099511627776) :
    ∃ m' l', m ≤ m' ∧ m' ≤ m + 1 * (l.length : Int) ∧ l'.length = l.length ∧ Ev (fun k => laws_markIntS.f k l m) (m', l') ∧ Ev (fun k => laws_heldIntS.f k l' m) m' := by
  have h := markInt_l0 l [] m (by simpa using hl) h0 (by omega)
  have hlen : ∀ (l : List Int) (m : Int), (mkInt m l).length = l.length := by
    intro l
    induction l with
    | nil => exact fun _ => rfl
    | cons x l ih => exact fun m => by simp only [mkInt, List.length_cons, ih]
  refine ⟨m + 1 * (l.length : Int), mkInt m l, by omega, by omega, hlen l m, ?_, ?_⟩
  · unfold laws_markIntS.f
    exact h.1
  · unfold laws_heldIntS.f
    exact h.2

/-! ### markTable -/
theorem markTable_f (l : List Int) (m : Int) (hl : l.length ≤ 1099511627776) (h0 : 0 ≤ m) (h1 : m ≤ 1099511627776) :
    ∃ m' l', m ≤ m' ∧ m' ≤ m + (l.length : Int) ∧ l'.length = l.length ∧ Ev (fun k => laws_markTable.f k l m) (m', l') ∧ Ev (fun k => laws_heldTable.f k l' m) m' := by
  obtain ⟨m', l', a, b, c, d, e⟩ := markInt_f l m hl h0 h1
  refine ⟨m', l', a, by omega, c, ?_, ?_⟩
  · unfold laws_markTable.f
    exact Ev.bind d (Ev.now _)
  · unfold laws_heldTable.f
    exact Ev.bind e (Ev.ite_neg (by omega) (Ev.now _))

/-! ### markClassesM -/
theorem markClasses_f (a b : List Int) (m : Int) (ha : a.length ≤ 1048576) (hb : b.length ≤ 1048576) (h0 : 0 ≤ m) (h1 : m ≤ 1073741824) :
    ∃ m' a' b', m ≤ m' ∧ m' ≤ m + (a.length : Int) + (b.length : Int) ∧ Ev (fun k => laws_markClasses.f k a b m) (m', a', b') ∧ ∃ n, Ev (fun k => laws_heldTable.f k a' m) n ∧ 0 ≤ n ∧ Ev (fun k => laws_heldTable.f k b' n) m' := by
  obtain ⟨n, a', p1, p2, _, p4, p5⟩ := markTable_f a m (by omega) h0 (by omega)
  obtain ⟨m', b', q1, q2, _, q4, q5⟩ := markTable_f b n (by omega) (by omega) (by omega)
  refine ⟨m', a', b', by omega, by omega, ?_, n, p5, by omega, q5⟩
  unfold laws_markClasses.f
  exact Ev.bind p4 (Ev.bind q4 (Ev.now _))

def tfR (a b : List Int) (c : Int) : List Int × Bool := if c = 0 then (a, true) else if c = 1 then (b, true) else ([], false)
theorem TableFor_s (a b : List Int) (c : Int) (ha : a.length ≤ 1048576) (hb : b.length ≤ 1048576) : spec_TableFor.f a b c = some (tfR a b c) := by
  have cp : ∀ l : List Int, l.length ≤ 1048576 → spec_l12Copy.f l = some l := fun l hl => by
    unfold spec_l12Copy.f
    simp only [Option.bind_some, List.length_nil, List.nil_append]
    rw [if_pos (by omega)]
  unfold spec_TableFor.f tfR
  rw [cp a ha, cp b hb]
  simp only [Option.bind_some]
  split
  · rfl
  · split <;> rfl
theorem TableFor_i (a b : List Int) (c : Int) (ha : a.length ≤ 1048576) (hb : b.length ≤ 1048576) : impl_TableFor.f a b c = some (tfR a b c) := by
  have cp : ∀ l : List Int, l.length ≤ 1048576 → impl_copyTable.f l = some l := fun l hl => by
    unfold impl_copyTable.f
    simp only [Option.bind_some, List.length_nil, List.nil_append]
    rw [if_pos (by omega)]
  have tf : impl_tableFor.f a b c = some (if c = 1 then b else a) := by
    unfold impl_tableFor.f
    split <;> rfl
  unfold impl_TableFor.f tfR
  simp only [inside_f, tf, Option.bind_some, decide_eq_true_eq]
  by_cases h : 0 ≤ c ∧ c ≤ 1
  · rw [if_pos h]
    by_cases h1 : c = 1
    · rw [if_pos h1, cp b hb, if_neg (by omega), if_pos h1]
      rfl
    · rw [if_neg h1, cp a ha, if_pos (by omega)]
      rfl
  · rw [if_neg h, if_neg (by omega), if_neg (by omega)]
theorem tfR_len (a b : List Int) (c : Int) (ha : a.length ≤ 1048576) (hb : b.length ≤ 1048576) : (tfR a b c).1.length ≤ 1048576 := by
  unfold tfR
  split
  · exact ha
  · split
    · exact hb
    · simp
theorem FnExactTableFor : FnExactTableFor_says := by
  intro a b c ha hb _
  refine Ev.rounds ?_
  unfold laws_FnExactTableFor.f
  obtain ⟨r, hr, hr2⟩ := szClasses_f a b 1048576 ha hb (by omega) (by omega)
  refine Ev.bindS hr ?_
  refine Ev.ite (fun _ => Ev.now _) (fun h => ?_)
  have ha' : a.length ≤ 1048576 := by omega
  have hb' : b.length ≤ 1048576 := by omega
  have hl := tfR_len a b c ha' hb'
  obtain ⟨m, a2, b2, m1, _, m3, _⟩ := markClasses_f a b 1 ha' hb' (by omega) (by omega)
  obtain ⟨n, l2, n1, _, _, n4, n5⟩ := markTable_f (tfR a b c).1 1 (by omega) (by omega) (by omega)
  refine Ev.bind (toClasses_f a b (by omega) (by omega)) (Ev.bindS (TableFor_s a b c ha' hb') (Ev.bind (toClasses_f a b (by omega) (by omega)) (Ev.bindS (TableFor_i a b c ha' hb') (Ev.bind (eqTable_f _ (by omega)) (Ev.ite_pos rfl ?_)))))
  refine Ev.suc ?_
  simp only [laws_FnExactTableFor.j0]
  refine Ev.ite_neg (by simp) (Ev.bind (toClasses_f a b (by omega) (by omega)) (Ev.bind (eqClasses_f a b (by omega) (by omega)) (Ev.ite_pos rfl (Ev.bind m3 (Ev.ite_neg (by omega) (Ev.bind (eqTable_f _ (by omega)) (Ev.ite_pos rfl ?_)))))))
  refine Ev.suc ?_
  simp only [laws_FnExactTableFor.j1]
  refine Ev.ite_neg (by simp) (Ev.bind n4 (Ev.bind n5 (Ev.ite_neg (by omega) (Ev.ite_pos rfl ?_))))
  refine Ev.bind (toClasses_f a b (by omega) (by omega)) (Ev.bindS (TableFor_i a b c ha' hb') (Ev.bind (eqTable_f _ (by omega)) (Ev.ite_pos rfl ?_)))
  refine Ev.suc ?_
  simp only [laws_FnExactTableFor.j2]
  exact Ev.ite_neg (by simp) (Ev.bind n5 (Ev.ite_neg (by omega) (Ev.ite_pos rfl (Ev.now _))))

end Go.Proofs.Ytlfmckdhmklgpaa.Pure
