/- The plain statement of the law FnExactGrantOk: the program's GrantOk and the reference's give one answer. No condition. -/
import Derived.Test.YtffkmajlelhiaaaPFnExactGrantOkx
import Derived.Test.YtffkmajlelhiaaaU
import Derived.Test.YtffkmajlelhiaaaSaysFnExactGrantOk
namespace Go.Proofs.Ytffkmajlelhiaaa.Pure
open Go.RowKit Go.Proofs.Ytffkmajlelhiaaa.PFnExactGrantOk Go.Proofs.YtffkmajlelhiaaaW.PrintWords Go.Proofs.YtffkmajlelhiaaaW.PrintLast Go.Proofs.YtffkmajlelhiaaaW.PrintMore Go.Proofs.Ytffkmajlelhiaaa.U
set_option linter.unusedVariables false
set_option linter.unusedSimpArgs false

/-! ### szGrantS -/
theorem szGrantS_f (l : List S79) (n : Int) (hl : l.length ≤ maxLen) (h0 : 0 ≤ n) (h1 : n ≤ 1048576) : laws_szGrantS.f l n = some (if n < (l.length : Int) then -1 else n - (l.length : Int)) := by
  have hm : maxLen = 9223372036854775807 := rfl
  unfold laws_szGrantS.f
  rw [w64 (by omega) (by omega)]
  by_cases h : n < (l.length : Int)
  · rw [if_pos h, if_pos (by omega)]
  · rw [if_neg h, if_neg (by omega)]

/-! ### toGrantS -/
def cvGrant (x : S79) : S77 := ⟨x.f0, x.f1, x.f2⟩
theorem rdL_Grant (pre : List S79) (x : S79) (rest : List S79) : rd_T79 (pre ++ x :: rest) (pre.length : Int) = x := getD_mid pre x rest _
theorem toGrantS_l0 : ∀ (rest pre : List S79) (z : List S77), z.length = rest.length → pre.length + rest.length ≤ 1152921504606846976 →
    Ev (fun k => laws_toGrantS.l0 k (pre ++ rest) (pre.map cvGrant ++ z) (pre.length : Int)) ((pre ++ rest).map cvGrant)
  | [], pre, z, hz, _ => by
    have : z = [] := List.length_eq_zero_iff.1 hz
    subst this
    refine Ev.suc ?_
    simp only [laws_toGrantS.l0]
    refine Ev.ite_neg (by simp) (Ev.val (by simp))
  | x :: rest, pre, z, hz, hl => by
    obtain ⟨y, z, rfl⟩ : ∃ y z', z = y :: z' := by
      cases z with
      | nil => simp at hz
      | cons y z' => exact ⟨y, z', rfl⟩
    simp only [List.length_cons] at hz hl
    have hset : (pre.map cvGrant ++ y :: z).set ((pre.length : Int)).toNat (cvGrant x) = (pre ++ [x]).map cvGrant ++ z := by
      have h := set_mid (pre.map cvGrant) y (cvGrant x) z
      rw [List.length_map] at h
      rw [h]
      simp
    refine Ev.suc ?_
    simp only [laws_toGrantS.l0, rdL_Grant, laws_toGrant.f, Option.bind_some]
    refine Ev.ite_pos (by simp only [List.length_append, List.length_cons]; omega) ?_
    refine Ev.ite_pos (by omega) ?_
    refine Ev.ite_pos (by simp only [List.length_append, List.length_cons, List.length_map]; omega) ?_
    have hset' := hset
    unfold cvGrant at hset'
    simp only [cvGrant] at hset ⊢
    rw [hset, w64 (by omega) (by omega), ← len_snoc pre x, snoc_app pre x rest]
    exact toGrantS_l0 rest (pre ++ [x]) z (by omega) (by simp only [List.length_append, List.length_cons, List.length_nil]; omega)
theorem toGrantS_f (l : List S79) (h : l.length ≤ 1048576) : Ev (fun k => laws_toGrantS.f k l) (l.map cvGrant) := by
  unfold laws_toGrantS.f
  refine Ev.ite_pos (by omega) ?_
  refine Ev.ite_pos (by omega) ?_
  exact toGrantS_l0 l [] _ (by simp) (by simp; omega)

/-! ### rdGrant -/
theorem rdI_Grant (pre : List S77) (x : S77) (rest : List S77) : rd_T77 (pre ++ x :: rest) (pre.length : Int) = x := getD_mid pre x rest _

/-! ### eqGrant -/
theorem eqGrant_f (a0 a1 a2 : Int)  : laws_eqGrant.f a0 a1 a2 a0 a1 a2 = some true := by
  unfold laws_eqGrant.f
  simp

/-! ### eqGrantS -/
theorem eqGrantS_l0 : ∀ (rest pre : List S77), pre.length + rest.length ≤ 1152921504606846976 → Ev (fun k => laws_eqGrantS.l0 k (pre ++ rest) (pre ++ rest) (pre.length : Int)) true
  | [], pre, _ => by
    refine Ev.suc ?_
    simp only [laws_eqGrantS.l0]
    refine Ev.ite_neg (by simp) (Ev.now _)
  | x :: rest, pre, hl => by
    simp only [List.length_cons] at hl
    refine Ev.suc ?_
    simp only [laws_eqGrantS.l0, rdI_Grant, eqGrant_f, Option.bind_some]
    refine Ev.ite_pos (by simp only [List.length_append, List.length_cons]; omega) ?_
    refine Ev.ite_pos (by omega) ?_
    refine Ev.ite_pos (by simp only [List.length_append, List.length_cons]; omega) ?_
    refine Ev.ite_pos trivial ?_
    rw [w64 (by omega) (by omega), ← len_snoc pre x, snoc_app pre x rest]
    exact eqGrantS_l0 rest (pre ++ [x]) (by simp only [List.length_append, List.length_cons, List.length_nil]; omega)
theorem eqGrantS_f (l : List S77) (h : l.length ≤ 1152921504606846976) : Ev (fun k => laws_eqGrantS.f k l l) true := by
  unfold laws_eqGrantS.f
  refine Ev.ite_pos rfl ?_
  exact eqGrantS_l0 l [] (by simpa using h)

/-! ### dbl -/
/-- No element and an elder one are in C. -/
def dblR {α : Type} (C : α → α → Bool) : List α → List α → Bool
  | _, [] => true
  | pre, x :: rest => pre.all (fun y => !C x y) && dblR C (pre ++ [x]) rest
theorem mid_app {α : Type} (p : List α) (y : α) (q : List α) (x : α) (r : List α) : p ++ y :: q ++ x :: r = p ++ y :: (q ++ x :: r) := by simp
theorem snoc_app2 {α : Type} (p : List α) (y : α) (q : List α) : p ++ y :: q = p ++ [y] ++ q := by simp

/-! ### GrantOk_C -/
def grC (x y : S77) : Bool := decide (x.f0 = y.f0 ∧ (x.f1 = y.f1 ∨ wrap64 (Int.tdiv x.f2 2) = wrap64 (Int.tdiv y.f2 2)))

/-! ### GrantOk_s -/
theorem GrantOk_s_l1 (R : Bool) (x : S77) (rest : List S77) : ∀ (q p : List S77), p.length + q.length + rest.length < 1152921504606846976 →
    Ev (fun k => spec_GrantOk.l0 k (p ++ q ++ x :: rest) (wrap64 (((p ++ q).length : Int) + 1))) R →
    Ev (fun k => spec_GrantOk.l1 k (p ++ q ++ x :: rest) ((p ++ q).length : Int) (p.length : Int)) (q.all (fun y => !grC x y) && R)
  | [], p, hl, hR => by
    refine Ev.suc ?_
    simp only [spec_GrantOk.l1]
    exact Ev.ite_neg (by simp) (Ev.eq hR (by simp))
  | y :: q, p, hl, hR => by
    simp only [List.length_cons] at hl
    have h1 : (p.length : Int) < ((p ++ y :: q).length : Int) := by simp only [List.length_append, List.length_cons]; omega
    have h2 : ((p ++ y :: q).length : Int) < ((p ++ y :: q ++ x :: rest).length : Int) := by simp only [List.length_append, List.length_cons]; omega
    have e1 : rd_T77 (p ++ y :: q ++ x :: rest) ((p ++ y :: q).length : Int) = x := rdI_Grant _ _ _
    have e2 : rd_T77 (p ++ y :: q ++ x :: rest) (p.length : Int) = y := by
      rw [mid_app]
      exact rdI_Grant _ _ _
    have hw : wrap64 ((p.length : Int) + 1) = ((p ++ [y]).length : Int) := by rw [w64 (by omega) (by omega), len_snoc]
    have ih := GrantOk_s_l1 R x rest q (p ++ [y]) (by simp only [List.length_append, List.length_cons, List.length_nil]; omega)
    rw [← snoc_app2 p y q] at ih
    refine Ev.suc ?_
    simp only [spec_GrantOk.l1, e1, e2, hw]
    refine Ev.ite_pos h1 (Ev.ite_pos (by omega) (Ev.ite_pos h2 (Ev.ite_pos (by omega) (Ev.ite_pos (by omega) ?_))))
    have ih' := ih hR
    have hall : ∀ b : Bool, grC x y = b → ((y :: q).all (fun y => !grC x y) && R) = (!b && (q.all (fun y => !grC x y) && R)) := fun b hb => by
      rw [List.all_cons, hb, Bool.and_assoc]
    refine Ev.ite (fun h => ?_) (fun h => ?_)
    · refine Ev.ite (fun h2 => Ev.val ?_) (fun h2 => Ev.ite (fun h3 => Ev.val ?_) (fun h3 => ?_))
      · rw [hall true (by simp [grC, h, h2])]
        rfl
      · rw [hall true (by simp [grC, h, h3])]
        rfl
      · rw [hall false (by simp [grC, h, h2, h3])]
        exact ih'
    · rw [hall false (by simp [grC, h])]
      exact ih'
theorem GrantOk_s_l0 : ∀ (rest pre : List S77), pre.length + rest.length < 1152921504606846976 → Ev (fun k => spec_GrantOk.l0 k (pre ++ rest) (pre.length : Int)) (dblR grC pre rest)
  | [], pre, hl => by
    refine Ev.suc ?_
    simp only [spec_GrantOk.l0]
    exact Ev.ite_neg (by simp) (Ev.val (by simp [dblR]))
  | x :: rest, pre, hl => by
    simp only [List.length_cons] at hl
    have hw : wrap64 ((pre.length : Int) + 1) = ((pre ++ [x]).length : Int) := by rw [w64 (by omega) (by omega), len_snoc]
    have ih := GrantOk_s_l0 rest (pre ++ [x]) (by simp only [List.length_append, List.length_cons, List.length_nil]; omega)
    rw [← snoc_app pre x rest, ← hw] at ih
    refine Ev.suc ?_
    simp only [spec_GrantOk.l0]
    refine Ev.ite_pos (by simp only [List.length_append, List.length_cons]; omega) ?_
    exact GrantOk_s_l1 _ x rest pre [] (by simp only [List.length_nil]; omega) ih
theorem GrantOk_s (l : List S77) (h : l.length ≤ 1048576) : Ev (fun k => spec_GrantOk.f k l) (dblR grC [] l) := by
  unfold spec_GrantOk.f
  exact GrantOk_s_l0 l [] (by simp; omega)

/-! ### GrantOk_i -/
theorem GrantOk_i_l1 (R : Bool) (x : S77) (X : List S77) (n i : Int) (pre : List S77) (hR : Ev (fun k => impl_GrantOk.l0 k X X n (wrap64 (i + 1))) R) : ∀ (q p : List S77), p ++ q = pre → pre.length < 1152921504606846976 →
    Ev (fun k => impl_GrantOk.l1 k X X n i pre (pre.length : Int) (p.length : Int) x.f0 x.f1 x.f2) (q.all (fun y => !grC x y) && R)
  | [], p, hp, hl => by
    subst hp
    refine Ev.suc ?_
    simp only [impl_GrantOk.l1]
    exact Ev.ite_neg (by simp) (Ev.eq hR (by simp))
  | y :: q, p, hp, hl => by
    have hp' : p ++ [y] ++ q = pre := by
      rw [← hp]
      simp
    have ih' := GrantOk_i_l1 R x X n i pre hR q (p ++ [y]) hp' hl
    subst hp
    have h1 : (p.length : Int) < ((p ++ y :: q).length : Int) := by simp only [List.length_append, List.length_cons]; omega
    have hw : wrap64 ((p.length : Int) + 1) = ((p ++ [y]).length : Int) := by rw [w64 (by omega) (by omega), len_snoc]
    refine Ev.suc ?_
    simp only [impl_GrantOk.l1, rdI_Grant, hw]
    refine Ev.ite_pos h1 (Ev.ite_pos (by omega) (Ev.ite_pos h1 ?_))
    have hall : ∀ b : Bool, grC x y = b → ((y :: q).all (fun y => !grC x y) && R) = (!b && (q.all (fun y => !grC x y) && R)) := fun b hb => by
      rw [List.all_cons, hb, Bool.and_assoc]
    refine Ev.ite (fun h => ?_) (fun h => ?_)
    · refine Ev.ite (fun h2 => Ev.val ?_) (fun h2 => Ev.ite (fun h3 => Ev.val ?_) (fun h3 => ?_))
      · rw [hall true (by simp [grC, h, h2])]
        rfl
      · rw [hall true (by simp [grC, h, h3])]
        rfl
      · rw [hall false (by simp [grC, h, h2, h3])]
        exact ih'
    · rw [hall false (by simp [grC, h])]
      exact ih'
theorem GrantOk_i_l0 : ∀ (rest pre : List S77), pre.length + rest.length < 1152921504606846976 → Ev (fun k => impl_GrantOk.l0 k (pre ++ rest) (pre ++ rest) ((pre ++ rest).length : Int) (pre.length : Int)) (dblR grC pre rest)
  | [], pre, hl => by
    refine Ev.suc ?_
    simp only [impl_GrantOk.l0]
    exact Ev.ite_neg (by simp) (Ev.val (by simp [dblR]))
  | x :: rest, pre, hl => by
    simp only [List.length_cons] at hl
    have h1 : (pre.length : Int) < ((pre ++ x :: rest).length : Int) := by simp only [List.length_append, List.length_cons]; omega
    have hw : wrap64 ((pre.length : Int) + 1) = ((pre ++ [x]).length : Int) := by rw [w64 (by omega) (by omega), len_snoc]
    have ih := GrantOk_i_l0 rest (pre ++ [x]) (by simp only [List.length_append, List.length_cons, List.length_nil]; omega)
    rw [← snoc_app pre x rest, ← hw] at ih
    have ht : (pre ++ x :: rest).take (pre.length : Int).toNat = pre := by simp
    refine Ev.suc ?_
    simp only [impl_GrantOk.l0, rdI_Grant]
    refine Ev.ite_pos h1 (Ev.ite_pos (by omega) (Ev.ite_pos h1 (Ev.ite_pos (by omega) (Ev.bindS rfl ?_))))
    rw [ht]
    exact GrantOk_i_l1 _ x _ _ _ pre ih pre [] rfl (by omega)
theorem GrantOk_i (l : List S77) (h : l.length ≤ 1048576) : Ev (fun k => impl_GrantOk.f k l) (dblR grC [] l) := by
  unfold impl_GrantOk.f
  exact GrantOk_i_l0 l [] (by simp; omega)

theorem FnExactGrantOk : FnExactGrantOk_says := by
  intro l hl
  refine Ev.rounds ?_
  unfold laws_FnExactGrantOk.f
  simp only [szGrantS_f l 1048576 hl.1 (by omega) (by omega), Option.bind_some]
  refine Ev.ite (fun _ => Ev.now _) (fun h => ?_)
  have hn : l.length ≤ 1048576 := by
    split at h <;> omega
  have hm : (l.map cvGrant).length ≤ 1048576 := by simpa using hn
  refine Ev.bind (toGrantS_f l hn) (Ev.bind (GrantOk_s _ (by omega)) (Ev.bind (toGrantS_f l hn) (Ev.bind (GrantOk_i _ (by omega)) (Ev.ite_neg (by simp) ?_))))
  exact Ev.bind (toGrantS_f l hn) (Ev.bind (eqGrantS_f _ (by omega)) (Ev.ite_pos rfl (Ev.now _)))

end Go.Proofs.Ytffkmajlelhiaaa.Pure
