/- The plain statement of the law FnExactWholePackets: the program's WholePackets and the reference's give one list and one answer, and nothing is shared or turned. No condition. -/
import Derived.Test.YtjialkmfmpkjgaaPFnExactWholePacketsx
import Derived.Test.YtjialkmfmpkjgaaU
import Derived.Test.YtjialkmfmpkjgaaSaysFnExactWholePackets
namespace Go.Proofs.Ytjialkmfmpkjgaa.Pure
open Go.RowKit Go.Proofs.Ytjialkmfmpkjgaa.PFnExactWholePackets Go.Proofs.YtjialkmfmpkjgaaW.PrintWords Go.Proofs.YtjialkmfmpkjgaaW.PrintLast Go.Proofs.YtjialkmfmpkjgaaW.PrintMore Go.Proofs.Ytjialkmfmpkjgaa.U
set_option linter.unusedVariables false
set_option linter.unusedSimpArgs false

/-! ### rdFlit -/
theorem rdI_Flit (pre : List S48) (x : S48) (rest : List S48) : rd_T48 (pre ++ x :: rest) (pre.length : Int) = x := getD_mid pre x rest _

/-! ### wholeB -/
def wOne (h : S48) (n i : Int) (x : S48) : Prop := x.f0 = h.f0 ∧ x.f1 = h.f1 ∧ x.f2 = h.f2 ∧ x.f3 = (i == 0) ∧ x.f4 = (i == n - 1)
instance (h : S48) (n i : Int) (x : S48) : Decidable (wOne h n i x) := by
  unfold wOne
  infer_instance
def wR (h : S48) (n : Int) : Int → List S48 → Bool
  | _, [] => true
  | i, x :: r => decide (wOne h n i x) && wR h n (i + 1) r
def wholeB : List S48 → Bool
  | [] => false
  | h :: t => wR h ((h :: t).length : Int) 0 (h :: t)
theorem rd_head (h : S48) (t : List S48) : rd_T48 (h :: t) 0 = h := rfl
theorem wR_id (h : S48) (n : Int) : ∀ (l : List S48) (i : Int), wR h n i l = true → ∀ x ∈ l, x.f0 = h.f0
  | [], _, _, x, hx => by cases hx
  | y :: l, i, hw, x, hx => by
    unfold wR at hw
    rw [Bool.and_eq_true, decide_eq_true_eq] at hw
    rcases List.mem_cons.1 hx with rfl | hx
    · exact hw.1.1
    · exact wR_id h n l (i + 1) hw.2 x hx

/-! ### IsWhole_i -/
theorem IsWhole_i_l0 (h : S48) (t : List S48) (hn : (h :: t).length ≤ 1152921504606846976) : ∀ (rest pre : List S48), pre ++ rest = h :: t →
    Ev (fun k => impl_IsWhole.l0 k (h :: t) (pre.length : Int)) (wR h ((h :: t).length : Int) (pre.length : Int) rest)
  | [], pre, e => by
    have hl : pre.length = (h :: t).length := by rw [← e]; simp
    refine Ev.suc ?_
    simp only [impl_IsWhole.l0]
    exact Ev.ite_neg (by omega) (Ev.val (by simp [wR]))
  | x :: rest, pre, e => by
    have hl : pre.length + (rest.length + 1) = (h :: t).length := by rw [← e]; simp
    have hw : wrap64 ((pre.length : Int) + 1) = ((pre ++ [x]).length : Int) := by rw [w64 (by omega) (by omega), len_snoc]
    have hv : wrap64 (((h :: t).length : Int) - 1) = ((h :: t).length : Int) - 1 := w64 (by omega) (by omega)
    have hr : rd_T48 (h :: t) (pre.length : Int) = x := by
      rw [← e]
      exact rdI_Flit _ _ _
    have ih := IsWhole_i_l0 h t hn rest (pre ++ [x]) (by simpa using e)
    refine Ev.suc ?_
    simp only [impl_IsWhole.l0, hr, rd_head, hv, hw]
    refine Ev.ite_pos (by omega) (Ev.ite_pos (by omega) ?_)
    refine Ev.ite (fun hb => Ev.val ?_) (fun hb => Ev.eq ih ?_)
    · unfold wR
      rw [decide_eq_false, Bool.false_and]
      intro hg
      obtain ⟨g0, g1, g2, g3, g4⟩ := hg
      simp [g0, g1, g2, g3, g4] at hb
    · have hg : wOne h ((h :: t).length : Int) (pre.length : Int) x := by
        simp only [Bool.or_eq_true, Bool.not_eq_true', beq_eq_false_iff_ne, not_or, ne_eq, Decidable.not_not] at hb
        exact ⟨hb.1, hb.2.1, hb.2.2.1, hb.2.2.2.1, hb.2.2.2.2⟩
      rw [len_snoc]
      conv => rhs; unfold wR
      rw [decide_eq_true hg, Bool.true_and]
theorem IsWhole_i (l : List S48) (hl : l.length ≤ 1152921504606846976) : Ev (fun k => impl_IsWhole.f k l) (wholeB l) := by
  unfold impl_IsWhole.f
  cases l with
  | nil =>
    refine Ev.suc ?_
    simp only [impl_IsWhole.l0]
    exact Ev.ite_neg (by simp) (Ev.val (by simp [wholeB]))
  | cons h t => exact IsWhole_i_l0 h t hl (h :: t) [] rfl

/-! ### IsWhole_s -/
theorem IsWhole_s_l0 (h : S48) (t : List S48) (hn : (h :: t).length ≤ 1152921504606846976) : ∀ (rest pre : List S48), pre ++ rest = h :: t →
    Ev (fun k => spec_IsWhole.l0 k (h :: t) (pre.length : Int)) (wR h ((h :: t).length : Int) (pre.length : Int) rest)
  | [], pre, e => by
    have hl : pre.length = (h :: t).length := by rw [← e]; simp
    refine Ev.suc ?_
    simp only [spec_IsWhole.l0]
    exact Ev.ite_neg (by omega) (Ev.val (by simp [wR]))
  | x :: rest, pre, e => by
    have hl : pre.length + (rest.length + 1) = (h :: t).length := by rw [← e]; simp
    have hw : wrap64 ((pre.length : Int) + 1) = ((pre ++ [x]).length : Int) := by rw [w64 (by omega) (by omega), len_snoc]
    have hv : wrap64 (((h :: t).length : Int) - 1) = ((h :: t).length : Int) - 1 := w64 (by omega) (by omega)
    have hr : rd_T48 (h :: t) (pre.length : Int) = x := by
      rw [← e]
      exact rdI_Flit _ _ _
    have ih := IsWhole_s_l0 h t hn rest (pre ++ [x]) (by simpa using e)
    refine Ev.suc ?_
    simp only [spec_IsWhole.l0, hr, rd_head, hv, hw]
    refine Ev.ite_pos (by omega) (Ev.ite_pos (by omega) ?_)
    refine Ev.ite (fun hb => Ev.val ?_) (fun hb => Ev.eq ih ?_)
    · unfold wR
      rw [decide_eq_false, Bool.false_and]
      intro hg
      obtain ⟨g0, g1, g2, g3, g4⟩ := hg
      simp [g0, g1, g2, g3, g4] at hb
    · have hg : wOne h ((h :: t).length : Int) (pre.length : Int) x := by
        simp only [Bool.or_eq_true, Bool.not_eq_true', beq_eq_false_iff_ne, not_or, ne_eq, Decidable.not_not] at hb
        exact ⟨hb.1, hb.2.1, hb.2.2.1, hb.2.2.2.1, hb.2.2.2.2⟩
      rw [len_snoc]
      conv => rhs; unfold wR
      rw [decide_eq_true hg, Bool.true_and]
theorem IsWhole_s (l : List S48) (hl : l.length ≤ 1152921504606846976) : Ev (fun k => spec_IsWhole.f k l) (wholeB l) := by
  unfold spec_IsWhole.f
  cases l with
  | nil =>
    refine Ev.suc ?_
    simp only [spec_IsWhole.l0]
    exact Ev.ite_neg (by simp) (Ev.val (by simp [wholeB]))
  | cons h t => exact IsWhole_s_l0 h t hl (h :: t) [] rfl

/-! ### wholeP -/
/-- The ids of the whole packets that a list falls into, from place i on, the open one beginning at fr. -/
def wpGo (l : List S48) : Nat → Nat → Nat → List Int → List Int × Bool
  | 0, _, fr, out => if (fr : Int) < (l.length : Int) then ([], false) else (out, true)
  | d + 1, i, fr, out => if wholeB ((l.take (i + 1)).drop fr) = true then wpGo l d (i + 1) (i + 1) (out ++ [(rd_T48 l (fr : Int)).f0]) else wpGo l d (i + 1) fr out
theorem wpGo_zero (l : List S48) (i fr : Nat) (out : List Int) : wpGo l 0 i fr out = if (fr : Int) < (l.length : Int) then ([], false) else (out, true) := rfl
theorem wpGo_succ (l : List S48) (d i fr : Nat) (out : List Int) : wpGo l (d + 1) i fr out = if wholeB ((l.take (i + 1)).drop fr) = true then wpGo l d (i + 1) (i + 1) (out ++ [(rd_T48 l (fr : Int)).f0]) else wpGo l d (i + 1) fr out := rfl
theorem wpGo_len (l : List S48) : ∀ (d i fr : Nat) (out : List Int), (wpGo l d i fr out).1.length ≤ out.length + d
  | 0, i, fr, out => by
    rw [wpGo_zero]
    split <;> simp
  | d + 1, i, fr, out => by
    rw [wpGo_succ]
    split
    · have := wpGo_len l d (i + 1) (i + 1) (out ++ [(rd_T48 l (fr : Int)).f0])
      simp only [List.length_append, List.length_cons, List.length_nil] at this
      omega
    · have := wpGo_len l d (i + 1) fr out
      omega
theorem rdT_get (l : List S48) (i : Nat) (h : i < l.length) : rd_T48 l (i : Int) = l[i] := by
  unfold rd_T48
  rw [Int.toNat_natCast, List.getD_eq_getElem?_getD, List.getElem?_eq_getElem h]
  rfl
theorem whole_same (l : List S48) (i fr : Nat) (h : i < l.length) (hf : fr ≤ i) (hw : wholeB ((l.take (i + 1)).drop fr) = true) : (rd_T48 l (i : Int)).f0 = (rd_T48 l (fr : Int)).f0 := by
  rw [rdT_get l i h, rdT_get l fr (by omega)]
  have hs : ((l.take (i + 1)).drop fr).length = i + 1 - fr := by
    rw [List.length_drop, List.length_take]
    omega
  have m1 : l[i] ∈ (l.take (i + 1)).drop fr := by
    refine List.mem_iff_getElem.2 ⟨i - fr, by omega, ?_⟩
    rw [List.getElem_drop, List.getElem_take]
    congr 1
    omega
  have m2 : l[fr] ∈ (l.take (i + 1)).drop fr := by
    refine List.mem_iff_getElem.2 ⟨0, by omega, ?_⟩
    rw [List.getElem_drop, List.getElem_take]
    congr 1
  generalize (l.take (i + 1)).drop fr = s at *
  cases s with
  | nil => cases m1
  | cons a t =>
    have hw' : wR a ((a :: t).length : Int) 0 (a :: t) = true := hw
    rw [wR_id a _ (a :: t) 0 hw' _ m1, wR_id a _ (a :: t) 0 hw' _ m2]
theorem seg_len (l : List S48) (a b : Nat) : ((l.take a).drop b).length ≤ l.length := by
  rw [List.length_drop, List.length_take]
  omega
theorem WholePackets_i_l0 (l : List S48) (hl : l.length ≤ 1048576) : ∀ (d i fr : Nat) (out : List Int), i + d = l.length → fr ≤ i → out.length ≤ i →
    Ev (fun k => impl_WholePackets.l0 k l out (fr : Int) ((i + 1 : Nat) : Int)) (wpGo l d i fr out)
  | 0, i, fr, out, hd, hf, ho => by
    refine Ev.suc ?_
    simp only [impl_WholePackets.l0]
    rw [wpGo_zero]
    refine Ev.ite_neg (by omega) ?_
    exact Ev.ite (fun h => Ev.val (by rw [if_pos h])) (fun h => Ev.val (by rw [if_neg h]))
  | d + 1, i, fr, out, hd, hf, ho => by
    have hw : wrap64 (((i + 1 : Nat) : Int) + 1) = ((i + 1 + 1 : Nat) : Int) := by rw [w64 (by omega) (by omega)]; omega
    have e := IsWhole_i ((l.take (i + 1)).drop fr) (by have := seg_len l (i + 1) fr; omega)
    have p := WholePackets_i_l0 l hl d (i + 1) (i + 1) (out ++ [(rd_T48 l (fr : Int)).f0]) (by omega) (Nat.le_refl _) (by simp only [List.length_append, List.length_cons, List.length_nil]; omega)
    have q := WholePackets_i_l0 l hl d (i + 1) fr out (by omega) (by omega) (by omega)
    refine Ev.suc ?_
    simp only [impl_WholePackets.l0, Int.toNat_natCast, hw]
    rw [wpGo_succ]
    refine Ev.ite_pos (by omega) (Ev.ite_pos (by omega) (Ev.ite_pos (by omega) (Ev.bind e (Ev.ite (fun h => ?_) (fun h => ?_)))))
    · rw [if_pos h]
      exact Ev.ite_pos (by omega) (Ev.ite_pos (by omega) p)
    · rw [if_neg h]
      exact q
theorem WholePackets_i (l : List S48) (hl : l.length ≤ 1048576) : Ev (fun k => impl_WholePackets.f k l) (wpGo l l.length 0 0 []) := by
  unfold impl_WholePackets.f
  exact WholePackets_i_l0 l hl l.length 0 0 [] (by omega) (Nat.le_refl _) (by simp)
theorem WholePackets_s_l0 (l : List S48) (hl : l.length ≤ 1048576) : ∀ (d i fr : Nat) (out : List Int), i + d = l.length → fr ≤ i → out.length ≤ i →
    Ev (fun k => spec_WholePackets.l0 k l out (fr : Int) (i : Int)) (wpGo l d i fr out)
  | 0, i, fr, out, hd, hf, ho => by
    refine Ev.suc ?_
    simp only [spec_WholePackets.l0]
    rw [wpGo_zero]
    refine Ev.ite_neg (by omega) ?_
    exact Ev.ite (fun h => Ev.val (by rw [if_pos h])) (fun h => Ev.val (by rw [if_neg h]))
  | d + 1, i, fr, out, hd, hf, ho => by
    have hw : wrap64 ((i : Int) + 1) = ((i + 1 : Nat) : Int) := by rw [w64 (by omega) (by omega)]; omega
    have e := IsWhole_s ((l.take (i + 1)).drop fr) (by have := seg_len l (i + 1) fr; omega)
    have p := WholePackets_s_l0 l hl d (i + 1) (i + 1) (out ++ [(rd_T48 l (fr : Int)).f0]) (by omega) (Nat.le_refl _) (by simp only [List.length_append, List.length_cons, List.length_nil]; omega)
    have q := WholePackets_s_l0 l hl d (i + 1) fr out (by omega) (by omega) (by omega)
    refine Ev.suc ?_
    simp only [spec_WholePackets.l0, hw, Int.toNat_natCast]
    rw [wpGo_succ]
    refine Ev.ite_pos (by omega) (Ev.ite_pos (by omega) (Ev.ite_pos (by omega) (Ev.ite_pos (by omega) (Ev.bind e (Ev.ite (fun h => ?_) (fun h => ?_))))))
    · rw [if_pos h, whole_same l i fr (by omega) hf h]
      exact Ev.ite_pos (by omega) (Ev.ite_pos (by omega) p)
    · rw [if_neg h]
      exact q
theorem WholePackets_s (l : List S48) (hl : l.length ≤ 1048576) : Ev (fun k => spec_WholePackets.f k l) (wpGo l l.length 0 0 []) := by
  unfold spec_WholePackets.f
  exact WholePackets_s_l0 l hl l.length 0 0 [] (by omega) (Nat.le_refl _) (by simp)

/-! ### szFlitS -/
theorem szFlitS_f (l : List S67) (n : Int) (hl : l.length ≤ maxLen) (h0 : 0 ≤ n) (h1 : n ≤ 1048576) : laws_szFlitS.f l n = some (if n < (l.length : Int) then -1 else n - (l.length : Int)) := by
  have hm : maxLen = 9223372036854775807 := rfl
  unfold laws_szFlitS.f
  rw [w64 (by omega) (by omega)]
  by_cases h : n < (l.length : Int)
  · rw [if_pos h, if_pos (by omega)]
  · rw [if_neg h, if_neg (by omega)]

/-! ### toFlitS -/
def cvFlit (x : S67) : S48 := ⟨x.f0, x.f1, x.f2, x.f3, x.f4⟩
theorem rdL_Flit (pre : List S67) (x : S67) (rest : List S67) : rd_T67 (pre ++ x :: rest) (pre.length : Int) = x := getD_mid pre x rest _
theorem toFlitS_l0 : ∀ (rest pre : List S67) (z : List S48), z.length = rest.length → pre.length + rest.length ≤ 1152921504606846976 →
    Ev (fun k => laws_toFlitS.l0 k (pre ++ rest) (pre.map cvFlit ++ z) (pre.length : Int)) ((pre ++ rest).map cvFlit)
  | [], pre, z, hz, _ => by
    have : z = [] := List.length_eq_zero_iff.1 hz
    subst this
    refine Ev.suc ?_
    simp only [laws_toFlitS.l0]
    refine Ev.ite_neg (by simp) (Ev.val (by simp))
  | x :: rest, pre, z, hz, hl => by
    obtain ⟨y, z, rfl⟩ : ∃ y z', z = y :: z' := by
      cases z with
      | nil => simp at hz
      | cons y z' => exact ⟨y, z', rfl⟩
    simp only [List.length_cons] at hz hl
    have hset : (pre.map cvFlit ++ y :: z).set ((pre.length : Int)).toNat (cvFlit x) = (pre ++ [x]).map cvFlit ++ z := by
      have h := set_mid (pre.map cvFlit) y (cvFlit x) z
      rw [List.length_map] at h
      rw [h]
      simp
    refine Ev.suc ?_
    simp only [laws_toFlitS.l0, rdL_Flit, laws_toFlit.f, Option.bind_some]
    refine Ev.ite_pos (by simp only [List.length_append, List.length_cons]; omega) ?_
    refine Ev.ite_pos (by omega) ?_
    refine Ev.ite_pos (by simp only [List.length_append, List.length_cons, List.length_map]; omega) ?_
    have hset' := hset
    unfold cvFlit at hset'
    simp only [cvFlit] at hset ⊢
    rw [hset, w64 (by omega) (by omega), ← len_snoc pre x, snoc_app pre x rest]
    exact toFlitS_l0 rest (pre ++ [x]) z (by omega) (by simp only [List.length_append, List.length_cons, List.length_nil]; omega)
theorem toFlitS_f (l : List S67) (h : l.length ≤ 1048576) : Ev (fun k => laws_toFlitS.f k l) (l.map cvFlit) := by
  unfold laws_toFlitS.f
  refine Ev.ite_pos (by omega) ?_
  refine Ev.ite_pos (by omega) ?_
  exact toFlitS_l0 l [] _ (by simp) (by simp; omega)

/-! ### eqFlit -/
theorem eqFlit_f (a0 a1 a2 : Int) (a3 a4 : Bool) : laws_eqFlit.f a0 a1 a2 a3 a4 a0 a1 a2 a3 a4 = some true := by
  unfold laws_eqFlit.f
  simp

/-! ### eqFlitS -/
theorem eqFlitS_l0 : ∀ (rest pre : List S48), pre.length + rest.length ≤ 1152921504606846976 → Ev (fun k => laws_eqFlitS.l0 k (pre ++ rest) (pre ++ rest) (pre.length : Int)) true
  | [], pre, _ => by
    refine Ev.suc ?_
    simp only [laws_eqFlitS.l0]
    refine Ev.ite_neg (by simp) (Ev.now _)
  | x :: rest, pre, hl => by
    simp only [List.length_cons] at hl
    refine Ev.suc ?_
    simp only [laws_eqFlitS.l0, rdI_Flit, eqFlit_f, Option.bind_some]
    refine Ev.ite_pos (by simp only [List.length_append, List.length_cons]; omega) ?_
    refine Ev.ite_pos (by omega) ?_
    refine Ev.ite_pos (by simp only [List.length_append, List.length_cons]; omega) ?_
    refine Ev.ite_pos trivial ?_
    rw [w64 (by omega) (by omega), ← len_snoc pre x, snoc_app pre x rest]
    exact eqFlitS_l0 rest (pre ++ [x]) (by simp only [List.length_append, List.length_cons, List.length_nil]; omega)
theorem eqFlitS_f (l : List S48) (h : l.length ≤ 1152921504606846976) : Ev (fun k => laws_eqFlitS.f k l l) true := by
  unfold laws_eqFlitS.f
  refine Ev.ite_pos rfl ?_
  exact eqFlitS_l0 l [] (by simpa using h)

/-! ### markFlitM -/
def mkFlit : Int → List S48 → List S48
  | _, [] => []
  | m, _ :: l => (⟨m, m + 1, m + 1 + 1, (Int.tmod (m + 1 + 1 + 1) 3 == 0), (Int.tmod (m + 1 + 1 + 1 + 1) 3 == 0)⟩ : S48) :: mkFlit (m + 1 + 1 + 1 + 1 + 1) l
theorem markFlitM_l0 : ∀ (rest pre : List S48) (m : Int), pre.length + rest.length ≤ 1099511627776 → 0 ≤ m → m + 5 * (rest.length : Int) ≤ 1152921504606846976 →
    Ev (fun k => laws_markFlitS.l0 k (pre ++ rest) m (pre.length : Int)) (m + 5 * (rest.length : Int), pre ++ mkFlit m rest)
  | [], pre, m, _, _, _ => by
    refine Ev.suc ?_
    simp only [laws_markFlitS.l0]
    exact Ev.ite_neg (by simp) (Ev.val (by simp [mkFlit]))
  | x :: rest, pre, m, hl, h0, hm => by
    simp only [List.length_cons] at hl hm
    have hp : (pre.length : Int) < ((pre ++ x :: rest).length : Int) := by simp only [List.length_append, List.length_cons]; omega
    have hw : wrap64 ((pre.length : Int) + 1) = ((pre ++ [(⟨m, m + 1, m + 1 + 1, (Int.tmod (m + 1 + 1 + 1) 3 == 0), (Int.tmod (m + 1 + 1 + 1 + 1) 3 == 0)⟩ : S48)]).length : Int) := by rw [w64 (by omega) (by omega), len_snoc]
    have h1 : wrap64 (m + 1) = m + 1 := w64 (by omega) (by omega)
    have h2 : wrap64 (m + 1 + 1) = m + 1 + 1 := w64 (by omega) (by omega)
    have h3 : wrap64 (m + 1 + 1 + 1) = m + 1 + 1 + 1 := w64 (by omega) (by omega)
    have h4 : wrap64 (m + 1 + 1 + 1 + 1) = m + 1 + 1 + 1 + 1 := w64 (by omega) (by omega)
    have h5 : wrap64 (m + 1 + 1 + 1 + 1 + 1) = m + 1 + 1 + 1 + 1 + 1 := w64 (by omega) (by omega)
    have ih := markFlitM_l0 rest (pre ++ [(⟨m, m + 1, m + 1 + 1, (Int.tmod (m + 1 + 1 + 1) 3 == 0), (Int.tmod (m + 1 + 1 + 1 + 1) 3 == 0)⟩ : S48)]) (m + 1 + 1 + 1 + 1 + 1) (by simp only [List.length_append, List.length_cons, List.length_nil]; omega) (by omega) (by omega)
    have e : m + 1 + 1 + 1 + 1 + 1 + 5 * (rest.length : Int) = m + 5 * ((x :: rest).length : Int) := by
      simp only [List.length_cons]
      omega
    rw [e] at ih
    have el : pre ++ mkFlit m (x :: rest) = pre ++ (⟨m, m + 1, m + 1 + 1, (Int.tmod (m + 1 + 1 + 1) 3 == 0), (Int.tmod (m + 1 + 1 + 1 + 1) 3 == 0)⟩ : S48) :: mkFlit (m + 1 + 1 + 1 + 1 + 1) rest := rfl
    refine Ev.suc ?_
    simp only [laws_markFlitS.l0, set_mid, rdI_Flit, Option.bind_some, h1, h2, h3, h4, h5, hw]
    refine Ev.ite_pos hp (Ev.ite_pos (by omega) ?_)
    rw [el, snoc_app pre _ rest, snoc_app pre _ (mkFlit _ rest)]
    exact ih
/-- Marked, no more. -/
theorem markFlitM_f (l : List S48) (m : Int) (hl : l.length ≤ 1099511627776) (h0 : 0 ≤ m) (h1 : m ≤ 1099511627776) :
    ∃ m' l', m ≤ m' ∧ m' ≤ m + 5 * (l.length : Int) ∧ l'.length = l.length ∧ Ev (fun k => laws_markFlitS.f k l m) (m', l') := by
  have h := markFlitM_l0 l [] m (by simpa using hl) h0 (by omega)
  have hlen : ∀ (l : List S48) (m : Int), (mkFlit m l).length = l.length := by
    intro l
    induction l with
    | nil => exact fun _ => rfl
    | cons x l ih => exact fun m => by simp only [mkFlit, List.length_cons, ih]
  refine ⟨m + 5 * (l.length : Int), mkFlit m l, by omega, by omega, hlen l m, ?_⟩
  unfold laws_markFlitS.f
  exact h

/-! ### eqIntS -/
theorem eqIntS_l0 : ∀ (rest pre : List Int), pre.length + rest.length ≤ 1152921504606846976 → Ev (fun k => laws_eqIntS.l0 k (pre ++ rest) (pre ++ rest) (pre.length : Int)) true
  | [], pre, _ => by
    refine Ev.suc ?_
    simp only [laws_eqIntS.l0]
    refine Ev.ite_neg (by simp) (Ev.now _)
  | x :: rest, pre, hl => by
    simp only [List.length_cons] at hl
    refine Ev.suc ?_
    simp only [laws_eqIntS.l0, rd_mid]
    refine Ev.ite_pos (by simp only [List.length_append, List.length_cons]; omega) ?_
    refine Ev.ite_pos (by omega) ?_
    refine Ev.ite_pos (by simp only [List.length_append, List.length_cons]; omega) ?_
    refine Ev.ite_pos trivial ?_
    rw [w64 (by omega) (by omega), ← len_snoc pre x, snoc_app pre x rest]
    exact eqIntS_l0 rest (pre ++ [x]) (by simp only [List.length_append, List.length_cons, List.length_nil]; omega)
theorem eqIntS_f (l : List Int) (h : l.length ≤ 35184372088832) : Ev (fun k => laws_eqIntS.f k l l) true := by
  unfold laws_eqIntS.f
  refine Ev.ite_pos rfl ?_
  exact eqIntS_l0 l [] (by simp; omega)

/-! ### markIntS -/

def mkInt : Int → List Int → List Int
  | _, [] => []
  | m, _ :: l => m :: mkInt (m + 1) l
theorem markInt_l0 : ∀ (rest pre : List Int) (m : Int), pre.length + rest.length ≤ 1099511627776 → 0 ≤ m → m + 1 * (rest.length : Int) ≤ 1152921504606846976 →
    Ev (fun k => laws_markIntS.l0 k (pre ++ rest) m (pre.length : Int)) (m + 1 * (rest.length : Int), pre ++ mkInt m rest) ∧
    Ev (fun k => laws_heldIntS.l0 k (pre ++ mkInt m rest) m (pre.length : Int)) (m + 1 * (rest.length : Int))
  | [], pre, m, _, _, _ => by
    constructor
    · refine Ev.suc ?_
      simp only [laws_markIntS.l0]
      exact Ev.ite_neg (by simp) (Ev.val (by simp [mkInt]))
    · refine Ev.suc ?_
      simp only [laws_heldIntS.l0]
      exact Ev.ite_neg (by simp [mkInt]) (Ev.val (by simp))
  | x :: rest, pre, m, hl, h0, hm => by
    simp only [List.length_cons] at hl hm
    have hp : (pre.length : Int) < ((pre ++ x :: rest).length : Int) := by simp only [List.length_append, List.length_cons]; omega
    have hw : wrap64 ((pre.length : Int) + 1) = ((pre ++ [m]).length : Int) := by rw [w64 (by omega) (by omega), len_snoc]
    have h1 : wrap64 (m + 1) = m + 1 := w64 (by omega) (by omega)
    have ih := markInt_l0 rest (pre ++ [m]) (m + 1) (by simp only [List.length_append, List.length_cons, List.length_nil]; omega) (by omega) (by omega)
    have e : m + 1 + 1 * (rest.length : Int) = m + 1 * ((x :: rest).length : Int) := by
      simp only [List.length_cons]
      omega
    rw [e] at ih
    have el : pre ++ mkInt m (x :: rest) = pre ++ m :: mkInt (m + 1) rest := rfl
    constructor
    · refine Ev.suc ?_
      simp only [laws_markIntS.l0, set_mid, rd_mid, Option.bind_some, h1, hw]
      refine Ev.ite_pos hp (Ev.ite_pos (by omega) ?_)
      rw [el, snoc_app pre _ rest, snoc_app pre _ (mkInt _ rest)]
      exact ih.1
    · rw [el]
      have hq : (pre.length : Int) < ((pre ++ m :: mkInt (m + 1) rest).length : Int) := by simp only [List.length_append, List.length_cons]; omega
      refine Ev.suc ?_
      simp only [laws_heldIntS.l0, rd_mid, h1, hw]
      refine Ev.ite_pos hq (Ev.ite_pos (by omega) (Ev.ite_pos (by trivial) (?_)))
      rw [snoc_app pre _ (mkInt _ rest)]
      exact ih.2
/-- What is marked is held. -/
theorem markInt_f (l : List Int) (m : Int) (hl : l.length ≤ 1099511627776) (h0 : 0 ≤ m) (h1 : m ≤ 1099511627776) :
    ∃ m' l', m ≤ m' ∧ m' ≤ m + 1 * (l.length : Int) ∧ l'.length = l.length ∧ Ev (fun k => laws_markIntS.f k l m) (m', l') ∧ Ev (fun k => laws_heldIntS.f k l' m) m' := by
  have h := markInt_l0 l [] m (by simpa using hl) h0 (by omega)
  have hlen : ∀ (l : List Int) (m : Int), (mkInt m l).length = l.length := by
    intro l
    induction l with
    | nil => exact fun _ => rfl
    | cons x l ih => exact fun m => by simp only [mkInt, List.length_cons, ih]
  refine ⟨m + 1 * (l.length : Int), mkInt m l, by omega, by omega, hlen l m, ?_, ?_⟩
  · unfold laws_markIntS.f
    exact h.1
  · unfold laws_heldIntS.f
    exact h.2

theorem FnExactWholePackets : FnExactWholePackets_says := by
  intro l hl
  refine Ev.rounds ?_
  unfold laws_FnExactWholePackets.f
  simp only [szFlitS_f l 1048576 hl.1 (by omega) (by omega), Option.bind_some]
  refine Ev.ite (fun _ => Ev.now _) (fun h => ?_)
  have hn : l.length ≤ 1048576 := by
    split at h <;> omega
  have hm : (l.map cvFlit).length ≤ 1048576 := by simpa using hn
  have hs := WholePackets_s _ hm
  have hi := WholePackets_i _ hm
  have ht := toFlitS_f l hn
  have he := eqFlitS_f (l.map cvFlit) (by omega)
  have hlen := wpGo_len (l.map cvFlit) (l.map cvFlit).length 0 0 []
  obtain ⟨m, l', h1, _, _, h2⟩ := markFlitM_f (l.map cvFlit) 1 (by omega) (by omega) (by omega)
  generalize l.map cvFlit = L at *
  generalize wpGo L L.length 0 0 [] = R at *
  obtain ⟨g, b⟩ := R
  simp only [List.length_nil, Nat.zero_add] at hlen
  obtain ⟨n, g', k1, _, _, k2, k3⟩ := markInt_f g 1 (by omega) (by omega) (by omega)
  have hg := eqIntS_f g (by omega)
  have ne : (b != b) = false := by simp
  refine Ev.bind ht (Ev.bind hs (Ev.bind ht (Ev.bind hi (Ev.bind hg (Ev.ite_pos rfl ?_)))))
  refine Ev.suc ?_
  simp only [laws_FnExactWholePackets.j0, ne]
  refine Ev.ite_neg (by simp) (Ev.bind ht (Ev.bind he (Ev.ite_pos rfl (Ev.bind h2 (Ev.ite_neg (by omega) (Ev.bind hg (Ev.ite_pos rfl ?_)))))))
  refine Ev.suc ?_
  simp only [laws_FnExactWholePackets.j1]
  refine Ev.ite_neg (by simp) (Ev.bind k2 (Ev.bind k3 (Ev.ite_neg (by omega) (Ev.ite_pos rfl (Ev.bind ht (Ev.bind hi (Ev.bind hg (Ev.ite_pos rfl ?_))))))))
  refine Ev.suc ?_
  simp only [laws_FnExactWholePackets.j2, ne]
  exact Ev.ite_neg (by simp) (Ev.bind k3 (Ev.ite_neg (by omega) (Ev.ite_pos rfl (Ev.now _))))

end Go.Proofs.Ytjialkmfmpkjgaa.Pure
