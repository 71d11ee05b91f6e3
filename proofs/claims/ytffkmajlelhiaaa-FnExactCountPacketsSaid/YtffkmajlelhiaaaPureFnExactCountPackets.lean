/- The plain statement of the law FnExactCountPackets: the program's CountPackets and the reference's give one number. No condition. -/
import Derived.Test.YtffkmajlelhiaaaPFnExactCountPacketsx
import Derived.Test.YtffkmajlelhiaaaU
import Derived.Test.YtffkmajlelhiaaaSaysFnExactCountPackets
namespace Go.Proofs.Ytffkmajlelhiaaa.Pure
open Go.RowKit Go.Proofs.Ytffkmajlelhiaaa.PFnExactCountPackets Go.Proofs.YtffkmajlelhiaaaW.PrintWords Go.Proofs.YtffkmajlelhiaaaW.PrintLast Go.Proofs.YtffkmajlelhiaaaW.PrintMore Go.Proofs.Ytffkmajlelhiaaa.U
set_option linter.unusedVariables false
set_option linter.unusedSimpArgs false

/-! ### szFlitS -/
theorem szFlitS_f (l : List S87) (n : Int) (hl : l.length ≤ maxLen) (h0 : 0 ≤ n) (h1 : n ≤ 1048576) : laws_szFlitS.f l n = some (if n < (l.length : Int) then -1 else n - (l.length : Int)) := by
  have hm : maxLen = 9223372036854775807 := rfl
  unfold laws_szFlitS.f
  rw [w64 (by omega) (by omega)]
  by_cases h : n < (l.length : Int)
  · rw [if_pos h, if_pos (by omega)]
  · rw [if_neg h, if_neg (by omega)]

/-! ### toFlitS -/
def cvFlit (x : S87) : S85 := ⟨x.f0, x.f1, x.f2, x.f3, x.f4⟩
theorem rdL_Flit (pre : List S87) (x : S87) (rest : List S87) : rd_T87 (pre ++ x :: rest) (pre.length : Int) = x := getD_mid pre x rest _
theorem toFlitS_l0 : ∀ (rest pre : List S87) (z : List S85), z.length = rest.length → pre.length + rest.length ≤ 1152921504606846976 →
    Ev (fun k => laws_toFlitS.l0 k (pre ++ rest) (pre.map cvFlit ++ z) (pre.length : Int)) ((pre ++ rest).map cvFlit)
  | [], pre, z, hz, _ => by
    have : z = [] := List.length_eq_zero_iff.1 hz
    subst this
    refine Ev.suc ?_
    simp only [laws_toFlitS.l0]
    refine Ev.ite_neg (by simp) (Ev.val (by simp))
  | x :: rest, pre, z, hz, hl => by
    obtain ⟨y, z, rfl⟩ : ∃ y z', z = y :: z' := by
      cases z with
      | nil => simp at hz
      | cons y z' => exact ⟨y, z', rfl⟩
    simp only [List.length_cons] at hz hl
    have hset : (pre.map cvFlit ++ y :: z).set ((pre.length : Int)).toNat (cvFlit x) = (pre ++ [x]).map cvFlit ++ z := by
      have h := set_mid (pre.map cvFlit) y (cvFlit x) z
      rw [List.length_map] at h
      rw [h]
      simp
    refine Ev.suc ?_
    simp only [laws_toFlitS.l0, rdL_Flit, laws_toFlit.f, Option.bind_some]
    refine Ev.ite_pos (by simp only [List.length_append, List.length_cons]; omega) ?_
    refine Ev.ite_pos (by omega) ?_
    refine Ev.ite_pos (by simp only [List.length_append, List.length_cons, List.length_map]; omega) ?_
    have hset' := hset
    unfold cvFlit at hset'
    simp only [cvFlit] at hset ⊢
    rw [hset, w64 (by omega) (by omega), ← len_snoc pre x, snoc_app pre x rest]
    exact toFlitS_l0 rest (pre ++ [x]) z (by omega) (by simp only [List.length_append, List.length_cons, List.length_nil]; omega)
theorem toFlitS_f (l : List S87) (h : l.length ≤ 1048576) : Ev (fun k => laws_toFlitS.f k l) (l.map cvFlit) := by
  unfold laws_toFlitS.f
  refine Ev.ite_pos (by omega) ?_
  refine Ev.ite_pos (by omega) ?_
  exact toFlitS_l0 l [] _ (by simp) (by simp; omega)

/-! ### rdFlit -/
theorem rdI_Flit (pre : List S85) (x : S85) (rest : List S85) : rd_T85 (pre ++ x :: rest) (pre.length : Int) = x := getD_mid pre x rest _

/-! ### eqFlit -/
theorem eqFlit_f (a0 a1 a2 : Int) (a3 a4 : Bool) : laws_eqFlit.f a0 a1 a2 a3 a4 a0 a1 a2 a3 a4 = some true := by
  unfold laws_eqFlit.f
  simp

/-! ### eqFlitS -/
theorem eqFlitS_l0 : ∀ (rest pre : List S85), pre.length + rest.length ≤ 1152921504606846976 → Ev (fun k => laws_eqFlitS.l0 k (pre ++ rest) (pre ++ rest) (pre.length : Int)) true
  | [], pre, _ => by
    refine Ev.suc ?_
    simp only [laws_eqFlitS.l0]
    refine Ev.ite_neg (by simp) (Ev.now _)
  | x :: rest, pre, hl => by
    simp only [List.length_cons] at hl
    refine Ev.suc ?_
    simp only [laws_eqFlitS.l0, rdI_Flit, eqFlit_f, Option.bind_some]
    refine Ev.ite_pos (by simp only [List.length_append, List.length_cons]; omega) ?_
    refine Ev.ite_pos (by omega) ?_
    refine Ev.ite_pos (by simp only [List.length_append, List.length_cons]; omega) ?_
    refine Ev.ite_pos trivial ?_
    rw [w64 (by omega) (by omega), ← len_snoc pre x, snoc_app pre x rest]
    exact eqFlitS_l0 rest (pre ++ [x]) (by simp only [List.length_append, List.length_cons, List.length_nil]; omega)
theorem eqFlitS_f (l : List S85) (h : l.length ≤ 1152921504606846976) : Ev (fun k => laws_eqFlitS.f k l l) true := by
  unfold laws_eqFlitS.f
  refine Ev.ite_pos rfl ?_
  exact eqFlitS_l0 l [] (by simpa using h)

/-! ### cntTail -/
def cntTail : List S85 → Int
  | [] => 0
  | x :: l => (if x.f4 = true then 1 else 0) + cntTail l
theorem cntTail_b : ∀ l : List S85, 0 ≤ cntTail l ∧ cntTail l ≤ (l.length : Int)
  | [] => ⟨Int.le_refl _, Int.le_refl _⟩
  | x :: l => by
    have := cntTail_b l
    unfold cntTail
    simp only [List.length_cons]
    split <;> omega

/-! ### CountPackets_s -/
theorem CountPackets_s_l0 : ∀ (rest pre : List S85) (c : Int), pre.length + rest.length ≤ 1152921504606846976 → 0 ≤ c → c ≤ (pre.length : Int) →
    Ev (fun k => spec_CountPackets.l0 k (pre ++ rest) c (pre.length : Int)) (c + cntTail rest)
  | [], pre, c, _, _, _ => by
    refine Ev.suc ?_
    simp only [spec_CountPackets.l0]
    exact Ev.ite_neg (by simp) (Ev.val (by simp [cntTail]))
  | x :: rest, pre, c, hl, h0, h1 => by
    simp only [List.length_cons] at hl
    have h2 : (pre.length : Int) < ((pre ++ x :: rest).length : Int) := by simp only [List.length_append, List.length_cons]; omega
    have hw : wrap64 ((pre.length : Int) + 1) = ((pre ++ [x]).length : Int) := by rw [w64 (by omega) (by omega), len_snoc]
    have ih := fun c' h0' h1' => CountPackets_s_l0 rest (pre ++ [x]) c' (by simp only [List.length_append, List.length_cons, List.length_nil]; omega) h0' h1'
    refine Ev.suc ?_
    simp only [spec_CountPackets.l0, rdI_Flit, hw]
    refine Ev.ite_pos h2 (Ev.ite_pos (by omega) ?_)
    rw [snoc_app pre x rest]
    refine Ev.ite (fun ht => ?_) (fun ht => ?_)
    · rw [w64 (by omega) (by omega)]
      refine Ev.eq (ih (c + 1) (by omega) (by rw [len_snoc]; omega)) ?_
      simp only [cntTail, ht, if_true]
      omega
    · refine Ev.eq (ih c (by omega) (by rw [len_snoc]; omega)) ?_
      simp [cntTail, ht]
theorem CountPackets_s (l : List S85) (h : l.length ≤ 1152921504606846976) : Ev (fun k => spec_CountPackets.f k l) (cntTail l) := by
  unfold spec_CountPackets.f
  exact Ev.eq (CountPackets_s_l0 l [] 0 (by simpa using h) (by omega) (by simp)) (by omega)

/-! ### CountPackets_i -/
theorem CountPackets_i_l0 : ∀ (rest pre : List S85) (c : Int), pre.length + rest.length ≤ 1152921504606846976 → 0 ≤ c → c ≤ (pre.length : Int) →
    Ev (fun k => impl_CountPackets.l0 k c (pre ++ rest) ((pre ++ rest).length : Int) (pre.length : Int)) (c + cntTail rest)
  | [], pre, c, _, _, _ => by
    refine Ev.suc ?_
    simp only [impl_CountPackets.l0]
    exact Ev.ite_neg (by simp) (Ev.val (by simp [cntTail]))
  | x :: rest, pre, c, hl, h0, h1 => by
    simp only [List.length_cons] at hl
    have h2 : (pre.length : Int) < ((pre ++ x :: rest).length : Int) := by simp only [List.length_append, List.length_cons]; omega
    have hw : wrap64 ((pre.length : Int) + 1) = ((pre ++ [x]).length : Int) := by rw [w64 (by omega) (by omega), len_snoc]
    have ih := fun c' h0' h1' => CountPackets_i_l0 rest (pre ++ [x]) c' (by simp only [List.length_append, List.length_cons, List.length_nil]; omega) h0' h1'
    refine Ev.suc ?_
    simp only [impl_CountPackets.l0, rdI_Flit, hw]
    refine Ev.ite_pos h2 (Ev.ite_pos (by omega) (Ev.ite_pos h2 ?_))
    rw [snoc_app pre x rest]
    refine Ev.ite (fun ht => ?_) (fun ht => ?_)
    · rw [w64 (by omega) (by omega)]
      refine Ev.eq (ih (c + 1) (by omega) (by rw [len_snoc]; omega)) ?_
      simp only [cntTail, ht, if_true]
      omega
    · refine Ev.eq (ih c (by omega) (by rw [len_snoc]; omega)) ?_
      simp [cntTail, ht]
theorem CountPackets_i (l : List S85) (h : l.length ≤ 1152921504606846976) : Ev (fun k => impl_CountPackets.f k l) (cntTail l) := by
  unfold impl_CountPackets.f
  exact Ev.eq (CountPackets_i_l0 l [] 0 (by simpa using h) (by omega) (by simp)) (by omega)

theorem FnExactCountPackets : FnExactCountPackets_says := by
  intro l hl
  refine Ev.rounds ?_
  unfold laws_FnExactCountPackets.f
  simp only [szFlitS_f l 1048576 hl.1 (by omega) (by omega), Option.bind_some]
  refine Ev.ite (fun _ => Ev.now _) (fun h => ?_)
  have hn : l.length ≤ 1048576 := by
    split at h <;> omega
  have hm : (l.map cvFlit).length ≤ 1048576 := by simpa using hn
  refine Ev.bind (toFlitS_f l hn) (Ev.bind (CountPackets_s _ (by omega)) (Ev.bind (toFlitS_f l hn) (Ev.bind (CountPackets_i _ (by omega)) (Ev.ite_pos rfl ?_))))
  exact Ev.bind (toFlitS_f l hn) (Ev.bind (eqFlitS_f _ (by omega)) (Ev.ite_pos rfl (Ev.now _)))

end Go.Proofs.Ytffkmajlelhiaaa.Pure
