/- The plain statement of the law FnExactRingHops: the program's RingHops and the reference's give one list, and nothing is shared. No condition. -/
import Derived.Test.YtlfmckdhmklgpaaPFnExactRingHopsx
import Derived.Test.YtlfmckdhmklgpaaU
import Derived.Test.YtlfmckdhmklgpaaSaysFnExactRingHops
namespace Go.Proofs.Ytlfmckdhmklgpaa.Pure
open Go.RowKit Go.Proofs.Ytlfmckdhmklgpaa.PFnExactRingHops Go.Proofs.YtlfmckdhmklgpaaW.PrintWords Go.Proofs.YtlfmckdhmklgpaaW.PrintLast Go.Proofs.YtlfmckdhmklgpaaW.PrintMore Go.Proofs.Ytlfmckdhmklgpaa.U
set_option linter.unusedVariables false
set_option linter.unusedSimpArgs false

/-! ### ringR -/
abbrev ringOk (n a b : Int) : Prop := 2 ≤ n ∧ n ≤ 12 ∧ 0 ≤ a ∧ a ≤ wrap64 (n - 1) ∧ 0 ≤ b ∧ b ≤ wrap64 (n - 1)

/-! ### inside -/
theorem inside_f (a b c : Int) : impl_inside.f a b c = some (decide (b ≤ a ∧ a ≤ c)) := by
  unfold impl_inside.f
  by_cases h : b ≤ a
  · rw [if_pos h]
    simp [h]
  · rw [if_neg h]
    simp [h]

/-! ### isRing -/
theorem isRing_f (n a b : Int) : Ev (fun k => impl_isRing.f k n [a, b]) (decide (2 ≤ n ∧ n ≤ 12 ∧ 0 ≤ a ∧ a ≤ wrap64 (n - 1) ∧ 0 ≤ b ∧ b ≤ wrap64 (n - 1))) := by
  unfold impl_isRing.f
  refine Ev.suc ?_
  simp only [impl_isRing.l0, rd, inside_f, Option.bind_some]
  refine Ev.ite_pos (by simp) ?_
  refine Ev.ite_pos (by simp) ?_
  refine Ev.ite_pos (by simp) ?_
  simp only [show ([a, b] : List Int).getD (0 : Int).toNat 0 = a from rfl, decide_eq_true_eq]
  refine Ev.ite (fun ha => ?_) (fun ha => Ev.val ?_)
  · rw [show wrap64 (0 + 1) = 1 from w64 (x := 0 + 1) (by decide) (by decide)]
    refine Ev.suc ?_
    simp only [impl_isRing.l0, rd, inside_f, Option.bind_some]
    refine Ev.ite_pos (by simp) ?_
    refine Ev.ite_pos (by simp) ?_
    refine Ev.ite_pos (by simp) ?_
    simp only [show ([a, b] : List Int).getD (1 : Int).toNat 0 = b from rfl, decide_eq_true_eq]
    refine Ev.ite (fun hb => ?_) (fun hb => Ev.val ?_)
    · rw [show wrap64 (1 + 1) = 2 from w64 (x := 1 + 1) (by decide) (by decide)]
      refine Ev.suc ?_
      simp only [impl_isRing.l0, inside_f, Option.bind_some]
      refine Ev.ite_neg (by simp) ?_
      refine Ev.val ?_
      rw [decide_eq_decide]
      constructor
      · intro h
        exact ⟨h.1, h.2, ha.1, ha.2, hb.1, hb.2⟩
      · intro h
        exact ⟨h.1, h.2.1⟩
    · symm
      rw [decide_eq_false_iff_not]
      intro h
      exact hb ⟨h.2.2.2.2.1, h.2.2.2.2.2⟩
  · symm
    rw [decide_eq_false_iff_not]
    intro h
    exact ha ⟨h.2.2.1, h.2.2.2.1⟩

/-! ### RingHops_i -/
def hopAt (n a : Int) (dl : Bool) (i : Nat) : S107 := ⟨(a + i) % n, if dl = true ∧ n ≤ a + i then 1 else 0⟩
def hopsL (n a b : Int) (dl : Bool) : List S107 := if ringOk n a b then (List.range ((b - a + n) % n).toNat).map (hopAt n a dl) else []
theorem hops_arith (n a b : Int) (hn : 2 ≤ n) (ha : 0 ≤ a ∧ a < n) (hb : 0 ≤ b ∧ b < n) : (b - a + n) % n = if a ≤ b then b - a else b - a + n := by
  split
  · rw [Int.add_emod_right]
    exact Int.emod_eq_of_lt (by omega) (by omega)
  · exact Int.emod_eq_of_lt (by omega) (by omega)
theorem mod_wrap (n x : Int) (hn : 0 < n) (h0 : 0 ≤ x) (h1 : x < 2 * n) : x % n = if x < n then x else x - n := by
  split
  · exact Int.emod_eq_of_lt h0 (by omega)
  · rw [← Int.sub_emod_right]
    exact Int.emod_eq_of_lt (by omega) (by omega)
theorem ringOk_b {n a b : Int} (h : ringOk n a b) : 2 ≤ n ∧ n ≤ 12 ∧ 0 ≤ a ∧ a < n ∧ 0 ≤ b ∧ b < n := by
  obtain ⟨h1, h2, h3, h4, h5, h6⟩ := h
  rw [w64 (by omega) (by omega)] at h4 h6
  omega
theorem hop_step (n x : Int) (hn : 2 ≤ n ∧ n ≤ 12) (hx : 0 ≤ x ∧ x < n) : Int.tmod (wrap64 (x + 1)) n = (x + 1) % n := by
  rw [w64 (by omega) (by omega), Int.tmod_eq_emod_of_nonneg (by omega)]
theorem RingHops_i_l0 (n a b : Int) (dl : Bool) (hn : 2 ≤ n ∧ n ≤ 12) (ha : 0 ≤ a ∧ a < n) (hb : 0 ≤ b ∧ b < n) : ∀ (d i : Nat), i + d = ((b - a + n) % n).toNat →
    Ev (fun k => impl_RingHops.l0 k n b dl ((List.range i).map (hopAt n a dl)) (if dl = true ∧ n ≤ a + i then 1 else 0) ((a + i) % n)) ((List.range ((b - a + n) % n).toNat).map (hopAt n a dl))
  | 0, i, h => by
    refine Ev.suc ?_
    simp only [impl_RingHops.l0]
    rw [hops_arith n a b hn.1 ha hb] at h ⊢
    refine Ev.ite_pos ?_ (Ev.val ?_)
    · rw [mod_wrap n (a + i) (by omega) (by omega) (by split at h <;> omega)]
      split at h <;> split <;> omega
    · rw [← h]
      rfl
  | d + 1, i, h => by
    have hd := hops_arith n a b hn.1 ha hb
    have hlt : ((b - a + n) % n).toNat < 12 := by rw [hd]; split <;> omega
    have hm := mod_wrap n (a + i) (by omega) (by omega) (by omega)
    have ih := RingHops_i_l0 n a b dl hn ha hb d (i + 1) (by omega)
    have hs : (List.range i).map (hopAt n a dl) ++ [(⟨(a + i) % n, if dl = true ∧ n ≤ a + i then 1 else 0⟩ : S107)] = (List.range (i + 1)).map (hopAt n a dl) := by
      rw [List.range_succ, List.map_append]
      rfl
    have hst := hop_step n ((a + i) % n) hn (by rw [hm]; split <;> omega)
    have hnext : ((a + i) % n + 1) % n = (a + ((i + 1 : Nat) : Int)) % n := by
      rw [Int.emod_add_emod]
      congr 1
      omega
    have hne : ¬ (a + i) % n = b := by
      rw [hm]
      rw [hd] at h
      split at h <;> split <;> omega
    refine Ev.suc ?_
    simp only [impl_RingHops.l0]
    refine Ev.ite_neg hne (Ev.ite_pos (by simp; omega) (Ev.bindS rfl ?_))
    rw [hs, hst, hnext, w64 (x := n - 1) (by omega) (by omega)]
    cases dl with
    | false =>
      refine Ev.ite_neg (by simp) (Ev.ite_neg (by omega) ?_)
      simpa using ih
    | true =>
      refine Ev.ite_pos rfl ?_
      refine Ev.ite (fun h9 => Ev.ite_neg (by omega) ?_) (fun h9 => Ev.ite_neg (by omega) ?_)
      · rw [if_pos ⟨rfl, by rw [hm] at h9; split at h9 <;> omega⟩] at ih
        exact ih
      · have e : (if true = true ∧ n ≤ a + ((i + 1 : Nat) : Int) then (1 : Int) else 0) = (if true = true ∧ n ≤ a + (i : Int) then 1 else 0) := by
          rw [hm] at h9
          simp only [true_and]
          split at h9 <;> split <;> split <;> omega
        rw [e] at ih
        exact ih
theorem RingHops_i (n a b : Int) (dl : Bool) : Ev (fun k => impl_RingHops.f k n a b dl) (hopsL n a b dl) := by
  unfold impl_RingHops.f hopsL
  refine Ev.bindS rfl (Ev.bind (isRing_f n a b) ?_)
  simp only [decide_eq_true_eq]
  refine Ev.ite (fun h => ?_) (fun h => Ev.val ?_)
  · have hb := ringOk_b (n := n) (a := a) (b := b) h
    rw [if_pos (show ringOk n a b from h)]
    have z := RingHops_i_l0 n a b dl ⟨hb.1, hb.2.1⟩ ⟨hb.2.2.1, hb.2.2.2.1⟩ ⟨hb.2.2.2.2.1, hb.2.2.2.2.2⟩ ((b - a + n) % n).toNat 0 (by omega)
    have e1 : (a + ((0 : Nat) : Int)) % n = a := by
      rw [Int.emod_eq_of_lt] <;> omega
    have e2 : (if dl = true ∧ n ≤ a + ((0 : Nat) : Int) then (1 : Int) else 0) = 0 := by
      rw [if_neg]
      omega
    rw [e1, e2] at z
    exact z
  · rw [if_neg (show ¬ ringOk n a b from h)]

/-! ### in -/
theorem l01In_f (a b c : Int) : spec_l01In.f a b c = some (decide (b ≤ a ∧ a ≤ c)) := by
  unfold spec_l01In.f
  by_cases h : a ≥ b
  · rw [if_pos h]
    simp [show b ≤ a from h]
  · rw [if_neg h]
    simp [show ¬ b ≤ a from h]

/-! ### l13Ok -/
theorem l13Ok_f (n a b : Int) : spec_l13Ok.f n a b = some (decide (2 ≤ n ∧ n ≤ 12 ∧ 0 ≤ a ∧ a ≤ wrap64 (n - 1) ∧ 0 ≤ b ∧ b ≤ wrap64 (n - 1))) := by
  unfold spec_l13Ok.f
  simp only [l01In_f, Option.bind_some, decide_eq_true_eq]
  split
  · split
    · rename_i h1 h2
      simp only [Option.bind_some, Option.some.injEq, decide_eq_decide]
      exact ⟨fun h => ⟨h1.1, h1.2, h2.1, h2.2, h.1, h.2⟩, fun h => ⟨h.2.2.2.2.1, h.2.2.2.2.2⟩⟩
    · rename_i h1 h2
      simp only [Option.some.injEq]
      symm
      rw [decide_eq_false_iff_not]
      exact fun h => h2 ⟨h.2.2.1, h.2.2.2.1⟩
  · rename_i h1
    simp only [Option.some.injEq]
    symm
    rw [decide_eq_false_iff_not]
    exact fun h => h1 ⟨h.1, h.2.1⟩

/-! ### RingHops_s -/
theorem RingHops_s_l0 (n a b : Int) (dl : Bool) (hn : 2 ≤ n ∧ n ≤ 12) (ha : 0 ≤ a ∧ a < n) (hb : 0 ≤ b ∧ b < n) : ∀ (d i : Nat), i + d = ((b - a + n) % n).toNat →
    Ev (fun k => spec_RingHops.l0 k n b dl ((List.range i).map (hopAt n a dl)) (if dl = true ∧ n ≤ a + i then 1 else 0) ((a + i) % n)) ((List.range ((b - a + n) % n).toNat).map (hopAt n a dl))
  | 0, i, h => by
    refine Ev.suc ?_
    simp only [spec_RingHops.l0]
    rw [hops_arith n a b hn.1 ha hb] at h ⊢
    refine Ev.ite_pos ?_ (Ev.val ?_)
    · rw [mod_wrap n (a + i) (by omega) (by omega) (by split at h <;> omega)]
      split at h <;> split <;> omega
    · rw [← h]
      rfl
  | d + 1, i, h => by
    have hd := hops_arith n a b hn.1 ha hb
    have hlt : ((b - a + n) % n).toNat < 12 := by rw [hd]; split <;> omega
    have hm := mod_wrap n (a + i) (by omega) (by omega) (by omega)
    have ih := RingHops_s_l0 n a b dl hn ha hb d (i + 1) (by omega)
    have hs : (List.range i).map (hopAt n a dl) ++ [(⟨(a + i) % n, if dl = true ∧ n ≤ a + i then 1 else 0⟩ : S107)] = (List.range (i + 1)).map (hopAt n a dl) := by
      rw [List.range_succ, List.map_append]
      rfl
    have hst := hop_step n ((a + i) % n) hn (by rw [hm]; split <;> omega)
    have hnext : ((a + i) % n + 1) % n = (a + ((i + 1 : Nat) : Int)) % n := by
      rw [Int.emod_add_emod]
      congr 1
      omega
    have hne : ¬ (a + i) % n = b := by
      rw [hm]
      rw [hd] at h
      split at h <;> split <;> omega
    refine Ev.suc ?_
    simp only [spec_RingHops.l0]
    refine Ev.ite_neg hne (Ev.ite_pos (by simp; omega) (Ev.bindS rfl ?_))
    rw [hs, hst, hnext, w64 (x := n - 1) (by omega) (by omega)]
    cases dl with
    | false =>
      refine Ev.ite (fun h9 => Ev.ite_neg (by simp) (Ev.ite_neg (by omega) ?_)) (fun h9 => Ev.ite_neg (by omega) ?_)
      · simpa using ih
      · simpa using ih
    | true =>
      refine Ev.ite (fun h9 => Ev.ite_pos rfl (Ev.ite_neg (by omega) ?_)) (fun h9 => Ev.ite_neg (by omega) ?_)
      · rw [if_pos ⟨rfl, by rw [hm] at h9; split at h9 <;> omega⟩] at ih
        exact ih
      · have e : (if true = true ∧ n ≤ a + ((i + 1 : Nat) : Int) then (1 : Int) else 0) = (if true = true ∧ n ≤ a + (i : Int) then 1 else 0) := by
          rw [hm] at h9
          simp only [true_and]
          split at h9 <;> split <;> split <;> omega
        rw [e] at ih
        exact ih
theorem RingHops_s (n a b : Int) (dl : Bool) : Ev (fun k => spec_RingHops.f k n a b dl) (hopsL n a b dl) := by
  unfold spec_RingHops.f hopsL
  refine Ev.bindS rfl (Ev.bindS (l13Ok_f n a b) ?_)
  simp only [decide_eq_true_eq]
  refine Ev.ite (fun h => ?_) (fun h => Ev.val ?_)
  · have hb := ringOk_b (n := n) (a := a) (b := b) h
    rw [if_pos (show ringOk n a b from h)]
    have z := RingHops_s_l0 n a b dl ⟨hb.1, hb.2.1⟩ ⟨hb.2.2.1, hb.2.2.2.1⟩ ⟨hb.2.2.2.2.1, hb.2.2.2.2.2⟩ ((b - a + n) % n).toNat 0 (by omega)
    have e1 : (a + ((0 : Nat) : Int)) % n = a := by
      rw [Int.emod_eq_of_lt] <;> omega
    have e2 : (if dl = true ∧ n ≤ a + ((0 : Nat) : Int) then (1 : Int) else 0) = 0 := by
      rw [if_neg]
      omega
    rw [e1, e2] at z
    exact z
  · rw [if_neg (show ¬ ringOk n a b from h)]
theorem hopsL_len (n a b : Int) (dl : Bool) : (hopsL n a b dl).length ≤ 12 := by
  unfold hopsL
  split
  · rename_i h
    have hb := ringOk_b h
    rw [List.length_map, List.length_range, hops_arith n a b hb.1 ⟨hb.2.2.1, hb.2.2.2.1⟩ ⟨hb.2.2.2.2.1, hb.2.2.2.2.2⟩]
    split <;> omega
  · simp

/-! ### rdHop -/
theorem rdI_Hop (pre : List S107) (x : S107) (rest : List S107) : rd_T107 (pre ++ x :: rest) (pre.length : Int) = x := getD_mid pre x rest _

/-! ### eqHop -/
theorem eqHop_f (a0 a1 : Int)  : laws_eqHop.f a0 a1 a0 a1 = some true := by
  unfold laws_eqHop.f
  simp

/-! ### eqHopS -/
theorem eqHopS_l0 : ∀ (rest pre : List S107), pre.length + rest.length ≤ 1152921504606846976 → Ev (fun k => laws_eqHopS.l0 k (pre ++ rest) (pre ++ rest) (pre.length : Int)) true
  | [], pre, _ => by
    refine Ev.suc ?_
    simp only [laws_eqHopS.l0]
    refine Ev.ite_neg (by simp) (Ev.now _)
  | x :: rest, pre, hl => by
    simp only [List.length_cons] at hl
    refine Ev.suc ?_
    simp only [laws_eqHopS.l0, rdI_Hop, eqHop_f, Option.bind_some]
    refine Ev.ite_pos (by simp only [List.length_append, List.length_cons]; omega) ?_
    refine Ev.ite_pos (by omega) ?_
    refine Ev.ite_pos (by simp only [List.length_append, List.length_cons]; omega) ?_
    refine Ev.ite_pos trivial ?_
    rw [w64 (by omega) (by omega), ← len_snoc pre x, snoc_app pre x rest]
    exact eqHopS_l0 rest (pre ++ [x]) (by simp only [List.length_append, List.length_cons, List.length_nil]; omega)
theorem eqHopS_f (l : List S107) (h : l.length ≤ 1152921504606846976) : Ev (fun k => laws_eqHopS.f k l l) true := by
  unfold laws_eqHopS.f
  refine Ev.ite_pos rfl ?_
  exact eqHopS_l0 l [] (by simpa using h)

/-! ### markHopS -/
def mkHop : Int → List S107 → List S107
  | _, [] => []
  | m, _ :: l => (⟨m, m + 1⟩ : S107) :: mkHop (m + 1 + 1) l
theorem markHop_l0 : ∀ (rest pre : List S107) (m : Int), pre.length + rest.length ≤ 1099511627776 → 0 ≤ m → m + 2 * (rest.length : Int) ≤ 1152921504606846976 →
    Ev (fun k => laws_markHopS.l0 k (pre ++ rest) m (pre.length : Int)) (m + 2 * (rest.length : Int), pre ++ mkHop m rest) ∧
    Ev (fun k => laws_heldHopS.l0 k (pre ++ mkHop m rest) m (pre.length : Int)) (m + 2 * (rest.length : Int))
  | [], pre, m, _, _, _ => by
    constructor
    · refine Ev.suc ?_
      simp only [laws_markHopS.l0]
      exact Ev.ite_neg (by simp) (Ev.val (by simp [mkHop]))
    · refine Ev.suc ?_
      simp only [laws_heldHopS.l0]
      exact Ev.ite_neg (by simp [mkHop]) (Ev.val (by simp))
  | x :: rest, pre, m, hl, h0, hm => by
    simp only [List.length_cons] at hl hm
    have hp : (pre.length : Int) < ((pre ++ x :: rest).length : Int) := by simp only [List.length_append, List.length_cons]; omega
    have hw : wrap64 ((pre.length : Int) + 1) = ((pre ++ [(⟨m, m + 1⟩ : S107)]).length : Int) := by rw [w64 (by omega) (by omega), len_snoc]
    have h1 : wrap64 (m + 1) = m + 1 := w64 (by omega) (by omega)
    have h2 : wrap64 (m + 1 + 1) = m + 1 + 1 := w64 (by omega) (by omega)
    have ih := markHop_l0 rest (pre ++ [(⟨m, m + 1⟩ : S107)]) (m + 1 + 1) (by simp only [List.length_append, List.length_cons, List.length_nil]; omega) (by omega) (by omega)
    have e : m + 1 + 1 + 2 * (rest.length : Int) = m + 2 * ((x :: rest).length : Int) := by
      simp only [List.length_cons]
      omega
    rw [e] at ih
    have el : pre ++ mkHop m (x :: rest) = pre ++ (⟨m, m + 1⟩ : S107) :: mkHop (m + 1 + 1) rest := rfl
    constructor
    · refine Ev.suc ?_
      simp only [laws_markHopS.l0, set_mid, rdI_Hop, Option.bind_some, h1, h2, hw]
      refine Ev.ite_pos hp (Ev.ite_pos (by omega) ?_)
      rw [el, snoc_app pre _ rest, snoc_app pre _ (mkHop _ rest)]
      exact ih.1
    · rw [el]
      have hq : (pre.length : Int) < ((pre ++ (⟨m, m + 1⟩ : S107) :: mkHop (m + 1 + 1) rest).length : Int) := by simp only [List.length_append, List.length_cons]; omega
      refine Ev.suc ?_
      simp only [laws_heldHopS.l0, rdI_Hop, h1, h2, hw]
      refine Ev.ite_pos hq (Ev.ite_pos (by omega) (Ev.ite_pos (by trivial) (Ev.ite_pos (by trivial) (?_))))
      rw [snoc_app pre _ (mkHop _ rest)]
      exact ih.2
/-- What is marked is held. -/
theorem markHop_f (l : List S107) (m : Int) (hl : l.length ≤ 1099511627776) (h0 : 0 ≤ m) (h1 : m ≤ 1099511627776) :
    ∃ m' l', m ≤ m' ∧ m' ≤ m + 2 * (l.length : Int) ∧ l'.length = l.length ∧ Ev (fun k => laws_markHopS.f k l m) (m', l') ∧ Ev (fun k => laws_heldHopS.f k l' m) m' := by
  have h := markHop_l0 l [] m (by simpa using hl) h0 (by omega)
  have hlen : ∀ (l : List S107) (m : Int), (mkHop m l).length = l.length := by
    intro l
    induction l with
    | nil => exact fun _ => rfl
    | cons x l ih => exact fun m => by simp only [mkHop, List.length_cons, ih]
  refine ⟨m + 2 * (l.length : Int), mkHop m l, by omega, by omega, hlen l m, ?_, ?_⟩
  · unfold laws_markHopS.f
    exact h.1
  · unfold laws_heldHopS.f
    exact h.2

theorem FnExactRingHops : FnExactRingHops_says := by
  intro n a b dl _ _ _
  refine Ev.rounds ?_
  have hl := hopsL_len n a b dl
  obtain ⟨m, l', hm, _, _, h1, h2⟩ := markHop_f (hopsL n a b dl) 1 (by omega) (by omega) (by omega)
  unfold laws_FnExactRingHops.f
  refine Ev.bind (RingHops_s n a b dl) (Ev.bind (RingHops_i n a b dl) (Ev.bind (eqHopS_f _ (by omega)) (Ev.ite_pos rfl ?_)))
  refine Ev.bind h1 (Ev.bind h2 (Ev.ite_neg (by omega) (Ev.ite_pos rfl ?_)))
  refine Ev.bind (RingHops_i n a b dl) (Ev.bind (eqHopS_f _ (by omega)) (Ev.ite_pos rfl ?_))
  exact Ev.bind h2 (Ev.ite_neg (by omega) (Ev.ite_pos rfl (Ev.now _)))

end Go.Proofs.Ytlfmckdhmklgpaa.Pure
