/- The plain statement of the law FnExactSameFlits: the program's SameFlits and the reference's give one answer. No condition. -/
import Derived.Test.YtffkmajlelhiaaaPFnExactSameFlitsx
import Derived.Test.YtffkmajlelhiaaaU
import Derived.Test.YtffkmajlelhiaaaSaysFnExactSameFlits
namespace Go.Proofs.Ytffkmajlelhiaaa.Pure
open Go.RowKit Go.Proofs.Ytffkmajlelhiaaa.PFnExactSameFlits Go.Proofs.YtffkmajlelhiaaaW.PrintWords Go.Proofs.YtffkmajlelhiaaaW.PrintLast Go.Proofs.YtffkmajlelhiaaaW.PrintMore Go.Proofs.Ytffkmajlelhiaaa.U
set_option linter.unusedVariables false
set_option linter.unusedSimpArgs false

/-! ### szFlitS -/
theorem szFlitS_f (l : List S87) (n : Int) (hl : l.length ≤ maxLen) (h0 : 0 ≤ n) (h1 : n ≤ 1048576) : laws_szFlitS.f l n = some (if n < (l.length : Int) then -1 else n - (l.length : Int)) := by
  have hm : maxLen = 9223372036854775807 := rfl
  unfold laws_szFlitS.f
  rw [w64 (by omega) (by omega)]
  by_cases h : n < (l.length : Int)
  · rw [if_pos h, if_pos (by omega)]
  · rw [if_neg h, if_neg (by omega)]

/-! ### toFlitS -/
def cvFlit (x : S87) : S85 := ⟨x.f0, x.f1, x.f2, x.f3, x.f4⟩
theorem rdL_Flit (pre : List S87) (x : S87) (rest : List S87) : rd_T87 (pre ++ x :: rest) (pre.length : Int) = x := getD_mid pre x rest _
theorem toFlitS_l0 : ∀ (rest pre : List S87) (z : List S85), z.length = rest.length → pre.length + rest.length ≤ 1152921504606846976 →
    Ev (fun k => laws_toFlitS.l0 k (pre ++ rest) (pre.map cvFlit ++ z) (pre.length : Int)) ((pre ++ rest).map cvFlit)
  | [], pre, z, hz, _ => by
    have : z = [] := List.length_eq_zero_iff.1 hz
    subst this
    refine Ev.suc ?_
    simp only [laws_toFlitS.l0]
    refine Ev.ite_neg (by simp) (Ev.val (by simp))
  | x :: rest, pre, z, hz, hl => by
    obtain ⟨y, z, rfl⟩ : ∃ y z', z = y :: z' := by
      cases z with
      | nil => simp at hz
      | cons y z' => exact ⟨y, z', rfl⟩
    simp only [List.length_cons] at hz hl
    have hset : (pre.map cvFlit ++ y :: z).set ((pre.length : Int)).toNat (cvFlit x) = (pre ++ [x]).map cvFlit ++ z := by
      have h := set_mid (pre.map cvFlit) y (cvFlit x) z
      rw [List.length_map] at h
      rw [h]
      simp
    refine Ev.suc ?_
    simp only [laws_toFlitS.l0, rdL_Flit, laws_toFlit.f, Option.bind_some]
    refine Ev.ite_pos (by simp only [List.length_append, List.length_cons]; omega) ?_
    refine Ev.ite_pos (by omega) ?_
    refine Ev.ite_pos (by simp only [List.length_append, List.length_cons, List.length_map]; omega) ?_
    have hset' := hset
    unfold cvFlit at hset'
    simp only [cvFlit] at hset ⊢
    rw [hset, w64 (by omega) (by omega), ← len_snoc pre x, snoc_app pre x rest]
    exact toFlitS_l0 rest (pre ++ [x]) z (by omega) (by simp only [List.length_append, List.length_cons, List.length_nil]; omega)
theorem toFlitS_f (l : List S87) (h : l.length ≤ 1048576) : Ev (fun k => laws_toFlitS.f k l) (l.map cvFlit) := by
  unfold laws_toFlitS.f
  refine Ev.ite_pos (by omega) ?_
  refine Ev.ite_pos (by omega) ?_
  exact toFlitS_l0 l [] _ (by simp) (by simp; omega)

/-! ### rdFlit -/
theorem rdI_Flit (pre : List S85) (x : S85) (rest : List S85) : rd_T85 (pre ++ x :: rest) (pre.length : Int) = x := getD_mid pre x rest _

/-! ### eqFlit -/
theorem eqFlit_f (a0 a1 a2 : Int) (a3 a4 : Bool) : laws_eqFlit.f a0 a1 a2 a3 a4 a0 a1 a2 a3 a4 = some true := by
  unfold laws_eqFlit.f
  simp

/-! ### eqFlitS -/
theorem eqFlitS_l0 : ∀ (rest pre : List S85), pre.length + rest.length ≤ 1152921504606846976 → Ev (fun k => laws_eqFlitS.l0 k (pre ++ rest) (pre ++ rest) (pre.length : Int)) true
  | [], pre, _ => by
    refine Ev.suc ?_
    simp only [laws_eqFlitS.l0]
    refine Ev.ite_neg (by simp) (Ev.now _)
  | x :: rest, pre, hl => by
    simp only [List.length_cons] at hl
    refine Ev.suc ?_
    simp only [laws_eqFlitS.l0, rdI_Flit, eqFlit_f, Option.bind_some]
    refine Ev.ite_pos (by simp only [List.length_append, List.length_cons]; omega) ?_
    refine Ev.ite_pos (by omega) ?_
    refine Ev.ite_pos (by simp only [List.length_append, List.length_cons]; omega) ?_
    refine Ev.ite_pos trivial ?_
    rw [w64 (by omega) (by omega), ← len_snoc pre x, snoc_app pre x rest]
    exact eqFlitS_l0 rest (pre ++ [x]) (by simp only [List.length_append, List.length_cons, List.length_nil]; omega)
theorem eqFlitS_f (l : List S85) (h : l.length ≤ 1152921504606846976) : Ev (fun k => laws_eqFlitS.f k l l) true := by
  unfold laws_eqFlitS.f
  refine Ev.ite_pos rfl ?_
  exact eqFlitS_l0 l [] (by simpa using h)

/-! ### flNe -/
def flNe (x y : S85) : Bool := (!(x.f0 == y.f0)) || ((!(x.f1 == y.f1)) || ((!(x.f2 == y.f2)) || ((!(x.f3 == y.f3)) || (!(x.f4 == y.f4)))))
def sameR : List S85 → List S85 → Bool
  | [], [] => true
  | x :: a, y :: b => !flNe x y && sameR a b
  | _, _ => false
theorem sameR_len : ∀ a b : List S85, a.length ≠ b.length → sameR a b = false
  | [], [], h => absurd rfl h
  | [], _ :: _, _ => rfl
  | _ :: _, [], _ => rfl
  | x :: a, y :: b, h => by
    unfold sameR
    rw [sameR_len a b (fun e => h (by simp [e])), Bool.and_false]

/-! ### SameFlits_s -/
theorem SameFlits_s_l0 : ∀ (ra rb pa pb : List S85), pa.length = pb.length → ra.length = rb.length → pa.length + ra.length < 1152921504606846976 →
    Ev (fun k => spec_SameFlits.l0 k (pa ++ ra) (pb ++ rb) (pa.length : Int)) (sameR ra rb)
  | [], rb, pa, pb, hp, hr, hl => by
    have : rb = [] := List.length_eq_zero_iff.1 hr.symm
    subst this
    refine Ev.suc ?_
    simp only [spec_SameFlits.l0]
    exact Ev.ite_neg (by simp) (Ev.val (by simp [sameR]))
  | x :: ra, rb, pa, pb, hp, hr, hl => by
    obtain ⟨y, rb, rfl⟩ : ∃ y rb', rb = y :: rb' := by
      cases rb with
      | nil => simp at hr
      | cons y rb' => exact ⟨y, rb', rfl⟩
    simp only [List.length_cons] at hr hl
    have h1 : (pa.length : Int) < ((pa ++ x :: ra).length : Int) := by simp only [List.length_append, List.length_cons]; omega
    have h2 : (pa.length : Int) < ((pb ++ y :: rb).length : Int) := by simp only [List.length_append, List.length_cons]; omega
    have hw : wrap64 ((pa.length : Int) + 1) = ((pa ++ [x]).length : Int) := by rw [w64 (by omega) (by omega), len_snoc]
    have e2 : rd_T85 (pb ++ y :: rb) (pa.length : Int) = y := by
      rw [hp]
      exact rdI_Flit _ _ _
    have ih := SameFlits_s_l0 ra rb (pa ++ [x]) (pb ++ [y]) (by simp [hp]) (by omega) (by simp only [List.length_append, List.length_cons, List.length_nil]; omega)
    rw [← snoc_app pa x ra, ← snoc_app pb y rb] at ih
    refine Ev.suc ?_
    simp only [spec_SameFlits.l0, rdI_Flit, e2, hw]
    refine Ev.ite_pos h1 (Ev.ite_pos (by omega) ((Ev.ite_pos h2 ?_)))
    refine Ev.ite (fun h => Ev.val ?_) (fun h => ?_)
    · have h' : flNe x y = true := h
      simp [sameR, h']
    · have h' : flNe x y = false := by
        cases hb : flNe x y with
        | true => exact absurd hb h
        | false => rfl
      refine Ev.eq ih ?_
      simp [sameR, h']
theorem SameFlits_s (a b : List S85) (h : a.length ≤ 1048576) : Ev (fun k => spec_SameFlits.f k a b) (sameR a b) := by
  unfold spec_SameFlits.f
  skip
  refine Ev.ite (fun h2 => ?_) (fun h2 => Ev.val (sameR_len a b (by omega)).symm)
  exact SameFlits_s_l0 a b [] [] rfl (by omega) (by simp; omega)

/-! ### SameFlits_i -/
theorem SameFlits_i_l0 : ∀ (ra rb pa pb : List S85), pa.length = pb.length → ra.length = rb.length → pa.length + ra.length < 1152921504606846976 →
    Ev (fun k => impl_Flit.l0 k (pa ++ ra) (pb ++ rb) ((pa ++ ra).length : Int) (pa.length : Int)) (sameR ra rb)
  | [], rb, pa, pb, hp, hr, hl => by
    have : rb = [] := List.length_eq_zero_iff.1 hr.symm
    subst this
    refine Ev.suc ?_
    simp only [impl_Flit.l0]
    exact Ev.ite_neg (by simp) (Ev.val (by simp [sameR]))
  | x :: ra, rb, pa, pb, hp, hr, hl => by
    obtain ⟨y, rb, rfl⟩ : ∃ y rb', rb = y :: rb' := by
      cases rb with
      | nil => simp at hr
      | cons y rb' => exact ⟨y, rb', rfl⟩
    simp only [List.length_cons] at hr hl
    have h1 : (pa.length : Int) < ((pa ++ x :: ra).length : Int) := by simp only [List.length_append, List.length_cons]; omega
    have h2 : (pa.length : Int) < ((pb ++ y :: rb).length : Int) := by simp only [List.length_append, List.length_cons]; omega
    have hw : wrap64 ((pa.length : Int) + 1) = ((pa ++ [x]).length : Int) := by rw [w64 (by omega) (by omega), len_snoc]
    have e2 : rd_T85 (pb ++ y :: rb) (pa.length : Int) = y := by
      rw [hp]
      exact rdI_Flit _ _ _
    have ih := SameFlits_i_l0 ra rb (pa ++ [x]) (pb ++ [y]) (by simp [hp]) (by omega) (by simp only [List.length_append, List.length_cons, List.length_nil]; omega)
    rw [← snoc_app pa x ra, ← snoc_app pb y rb] at ih
    refine Ev.suc ?_
    simp only [impl_Flit.l0, rdI_Flit, e2, hw]
    refine Ev.ite_pos h1 (Ev.ite_pos (by omega) (Ev.ite_pos h1 (Ev.ite_pos h2 ?_)))
    refine Ev.ite (fun h => Ev.val ?_) (fun h => ?_)
    · have h' : flNe x y = true := h
      simp [sameR, h']
    · have h' : flNe x y = false := by
        cases hb : flNe x y with
        | true => exact absurd hb h
        | false => rfl
      refine Ev.eq ih ?_
      simp [sameR, h']
theorem SameFlits_i (a b : List S85) (h : a.length ≤ 1048576) : Ev (fun k => impl_SameFlits.f k a b) (sameR a b) := by
  unfold impl_SameFlits.f impl_Flit.f
  refine Ev.bind (f := fun _ t => some t) (?_ : Ev _ (sameR a b)) (Ev.now _)
  refine Ev.ite (fun h2 => ?_) (fun h2 => Ev.val (sameR_len a b (by omega)).symm)
  exact SameFlits_i_l0 a b [] [] rfl (by omega) (by simp; omega)

theorem FnExactSameFlits : FnExactSameFlits_says := by
  intro l m hl hm
  refine Ev.rounds ?_
  unfold laws_FnExactSameFlits.f
  simp only [szFlitS_f l 1048576 hl.1 (by omega) (by omega), Option.bind_some]
  refine Ev.ite (fun _ => Ev.now _) (fun h => ?_)
  have hn : l.length ≤ 1048576 := by
    split at h <;> omega
  rw [if_neg (by omega)]
  simp only [szFlitS_f m (1048576 - (l.length : Int)) hm.1 (by omega) (by omega), Option.bind_some]
  refine Ev.ite (fun _ => Ev.now _) (fun h' => ?_)
  have hn' : m.length ≤ 1048576 := by
    split at h' <;> omega
  have hv : (l.map cvFlit).length ≤ 1048576 := by simpa using hn
  have hv' : (m.map cvFlit).length ≤ 1048576 := by simpa using hn'
  refine Ev.bind (toFlitS_f l hn) (Ev.bind (toFlitS_f m hn') (Ev.bind (SameFlits_s _ _ hv) (Ev.bind (toFlitS_f l hn) (Ev.bind (toFlitS_f m hn') (Ev.bind (SameFlits_i _ _ hv) (Ev.ite_neg (by simp) ?_))))))
  refine Ev.bind (toFlitS_f l hn) (Ev.bind (eqFlitS_f _ (by omega)) (Ev.ite_pos rfl ?_))
  exact Ev.bind (toFlitS_f m hn') (Ev.bind (eqFlitS_f _ (by omega)) (Ev.ite_pos rfl (Ev.now _)))

end Go.Proofs.Ytffkmajlelhiaaa.Pure
