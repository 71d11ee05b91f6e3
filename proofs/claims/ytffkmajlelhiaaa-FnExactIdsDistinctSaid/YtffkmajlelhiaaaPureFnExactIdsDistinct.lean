/- The plain statement of the law FnExactIdsDistinct: the program's IdsDistinct and the reference's give one answer. No condition. -/
import Derived.Test.YtffkmajlelhiaaaPFnExactIdsDistinctx
import Derived.Test.YtffkmajlelhiaaaU
import Derived.Test.YtffkmajlelhiaaaSaysFnExactIdsDistinct
namespace Go.Proofs.Ytffkmajlelhiaaa.Pure
open Go.RowKit Go.Proofs.Ytffkmajlelhiaaa.PFnExactIdsDistinct Go.Proofs.YtffkmajlelhiaaaW.PrintWords Go.Proofs.YtffkmajlelhiaaaW.PrintLast Go.Proofs.YtffkmajlelhiaaaW.PrintMore Go.Proofs.Ytffkmajlelhiaaa.U
set_option linter.unusedVariables false
set_option linter.unusedSimpArgs false

/-! ### szPacketS -/
theorem szPacketS_f (l : List S29) (n : Int) (hl : l.length ≤ maxLen) (h0 : 0 ≤ n) (h1 : n ≤ 1048576) : laws_szPacketS.f l n = some (if n < (l.length : Int) then -1 else n - (l.length : Int)) := by
  have hm : maxLen = 9223372036854775807 := rfl
  unfold laws_szPacketS.f
  rw [w64 (by omega) (by omega)]
  by_cases h : n < (l.length : Int)
  · rw [if_pos h, if_pos (by omega)]
  · rw [if_neg h, if_neg (by omega)]

/-! ### toPacketS -/
def cvPacket (x : S29) : S33 := ⟨x.f0, x.f1, x.f2, x.f3, x.f4⟩
theorem rdL_Packet (pre : List S29) (x : S29) (rest : List S29) : rd_T29 (pre ++ x :: rest) (pre.length : Int) = x := getD_mid pre x rest _
theorem toPacketS_l0 : ∀ (rest pre : List S29) (z : List S33), z.length = rest.length → pre.length + rest.length ≤ 1152921504606846976 →
    Ev (fun k => laws_toPacketS.l0 k (pre ++ rest) (pre.map cvPacket ++ z) (pre.length : Int)) ((pre ++ rest).map cvPacket)
  | [], pre, z, hz, _ => by
    have : z = [] := List.length_eq_zero_iff.1 hz
    subst this
    refine Ev.suc ?_
    simp only [laws_toPacketS.l0]
    refine Ev.ite_neg (by simp) (Ev.val (by simp))
  | x :: rest, pre, z, hz, hl => by
    obtain ⟨y, z, rfl⟩ : ∃ y z', z = y :: z' := by
      cases z with
      | nil => simp at hz
      | cons y z' => exact ⟨y, z', rfl⟩
    simp only [List.length_cons] at hz hl
    have hset : (pre.map cvPacket ++ y :: z).set ((pre.length : Int)).toNat (cvPacket x) = (pre ++ [x]).map cvPacket ++ z := by
      have h := set_mid (pre.map cvPacket) y (cvPacket x) z
      rw [List.length_map] at h
      rw [h]
      simp
    refine Ev.suc ?_
    simp only [laws_toPacketS.l0, rdL_Packet, laws_toPacket.f, Option.bind_some]
    refine Ev.ite_pos (by simp only [List.length_append, List.length_cons]; omega) ?_
    refine Ev.ite_pos (by omega) ?_
    refine Ev.ite_pos (by simp only [List.length_append, List.length_cons, List.length_map]; omega) ?_
    have hset' := hset
    unfold cvPacket at hset'
    simp only [cvPacket] at hset ⊢
    rw [hset, w64 (by omega) (by omega), ← len_snoc pre x, snoc_app pre x rest]
    exact toPacketS_l0 rest (pre ++ [x]) z (by omega) (by simp only [List.length_append, List.length_cons, List.length_nil]; omega)
theorem toPacketS_f (l : List S29) (h : l.length ≤ 1048576) : Ev (fun k => laws_toPacketS.f k l) (l.map cvPacket) := by
  unfold laws_toPacketS.f
  refine Ev.ite_pos (by omega) ?_
  refine Ev.ite_pos (by omega) ?_
  exact toPacketS_l0 l [] _ (by simp) (by simp; omega)

/-! ### rdPacket -/
theorem rdI_Packet (pre : List S33) (x : S33) (rest : List S33) : rd_T33 (pre ++ x :: rest) (pre.length : Int) = x := getD_mid pre x rest _

/-! ### eqPacket -/
theorem eqPacket_f (a0 a1 a2 a3 a4 : Int)  : laws_eqPacket.f a0 a1 a2 a3 a4 a0 a1 a2 a3 a4 = some true := by
  unfold laws_eqPacket.f
  simp

/-! ### eqPacketS -/
theorem eqPacketS_l0 : ∀ (rest pre : List S33), pre.length + rest.length ≤ 1152921504606846976 → Ev (fun k => laws_eqPacketS.l0 k (pre ++ rest) (pre ++ rest) (pre.length : Int)) true
  | [], pre, _ => by
    refine Ev.suc ?_
    simp only [laws_eqPacketS.l0]
    refine Ev.ite_neg (by simp) (Ev.now _)
  | x :: rest, pre, hl => by
    simp only [List.length_cons] at hl
    refine Ev.suc ?_
    simp only [laws_eqPacketS.l0, rdI_Packet, eqPacket_f, Option.bind_some]
    refine Ev.ite_pos (by simp only [List.length_append, List.length_cons]; omega) ?_
    refine Ev.ite_pos (by omega) ?_
    refine Ev.ite_pos (by simp only [List.length_append, List.length_cons]; omega) ?_
    refine Ev.ite_pos trivial ?_
    rw [w64 (by omega) (by omega), ← len_snoc pre x, snoc_app pre x rest]
    exact eqPacketS_l0 rest (pre ++ [x]) (by simp only [List.length_append, List.length_cons, List.length_nil]; omega)
theorem eqPacketS_f (l : List S33) (h : l.length ≤ 1152921504606846976) : Ev (fun k => laws_eqPacketS.f k l l) true := by
  unfold laws_eqPacketS.f
  refine Ev.ite_pos rfl ?_
  exact eqPacketS_l0 l [] (by simpa using h)

/-! ### dbl -/
/-- No element and an elder one are in C. -/
def dblR {α : Type} (C : α → α → Bool) : List α → List α → Bool
  | _, [] => true
  | pre, x :: rest => pre.all (fun y => !C x y) && dblR C (pre ++ [x]) rest
theorem mid_app {α : Type} (p : List α) (y : α) (q : List α) (x : α) (r : List α) : p ++ y :: q ++ x :: r = p ++ y :: (q ++ x :: r) := by simp
theorem snoc_app2 {α : Type} (p : List α) (y : α) (q : List α) : p ++ y :: q = p ++ [y] ++ q := by simp

/-! ### IdsDistinct_C -/
def idsC (x y : S33) : Bool := decide (x.f0 = y.f0)

/-! ### IdsDistinct_s -/
theorem IdsDistinct_s_l1 (R : Bool) (x : S33) (rest : List S33) : ∀ (q p : List S33), p.length + q.length + rest.length < 1152921504606846976 →
    Ev (fun k => spec_IdsDistinct.l0 k (p ++ q ++ x :: rest) (wrap64 (((p ++ q).length : Int) + 1))) R →
    Ev (fun k => spec_IdsDistinct.l1 k (p ++ q ++ x :: rest) ((p ++ q).length : Int) (p.length : Int)) (q.all (fun y => !idsC x y) && R)
  | [], p, hl, hR => by
    refine Ev.suc ?_
    simp only [spec_IdsDistinct.l1]
    exact Ev.ite_neg (by simp) (Ev.eq hR (by simp))
  | y :: q, p, hl, hR => by
    simp only [List.length_cons] at hl
    have h1 : (p.length : Int) < ((p ++ y :: q).length : Int) := by simp only [List.length_append, List.length_cons]; omega
    have h2 : ((p ++ y :: q).length : Int) < ((p ++ y :: q ++ x :: rest).length : Int) := by simp only [List.length_append, List.length_cons]; omega
    have e1 : rd_T33 (p ++ y :: q ++ x :: rest) ((p ++ y :: q).length : Int) = x := rdI_Packet _ _ _
    have e2 : rd_T33 (p ++ y :: q ++ x :: rest) (p.length : Int) = y := by
      rw [mid_app]
      exact rdI_Packet _ _ _
    have hw : wrap64 ((p.length : Int) + 1) = ((p ++ [y]).length : Int) := by rw [w64 (by omega) (by omega), len_snoc]
    have ih := IdsDistinct_s_l1 R x rest q (p ++ [y]) (by simp only [List.length_append, List.length_cons, List.length_nil]; omega)
    rw [← snoc_app2 p y q] at ih
    refine Ev.suc ?_
    simp only [spec_IdsDistinct.l1, e1, e2, hw]
    refine Ev.ite_pos h1 (Ev.ite_pos (by omega) (Ev.ite_pos h2 (Ev.ite_pos (by omega) (Ev.ite_pos (by omega) ?_))))
    have ih' := ih hR
    have hall : ∀ b : Bool, idsC x y = b → ((y :: q).all (fun y => !idsC x y) && R) = (!b && (q.all (fun y => !idsC x y) && R)) := fun b hb => by
      rw [List.all_cons, hb, Bool.and_assoc]
    refine Ev.ite (fun h => Ev.val ?_) (fun h => ?_)
    · rw [hall true (by simp [idsC, h])]
      rfl
    · rw [hall false (by simp [idsC]; exact h)]
      exact ih'
theorem IdsDistinct_s_l0 : ∀ (rest pre : List S33), pre.length + rest.length < 1152921504606846976 → Ev (fun k => spec_IdsDistinct.l0 k (pre ++ rest) (pre.length : Int)) (dblR idsC pre rest)
  | [], pre, hl => by
    refine Ev.suc ?_
    simp only [spec_IdsDistinct.l0]
    exact Ev.ite_neg (by simp) (Ev.val (by simp [dblR]))
  | x :: rest, pre, hl => by
    simp only [List.length_cons] at hl
    have hw : wrap64 ((pre.length : Int) + 1) = ((pre ++ [x]).length : Int) := by rw [w64 (by omega) (by omega), len_snoc]
    have ih := IdsDistinct_s_l0 rest (pre ++ [x]) (by simp only [List.length_append, List.length_cons, List.length_nil]; omega)
    rw [← snoc_app pre x rest, ← hw] at ih
    refine Ev.suc ?_
    simp only [spec_IdsDistinct.l0]
    refine Ev.ite_pos (by simp only [List.length_append, List.length_cons]; omega) ?_
    exact IdsDistinct_s_l1 _ x rest pre [] (by simp only [List.length_nil]; omega) ih
theorem IdsDistinct_s (l : List S33) (h : l.length ≤ 1048576) : Ev (fun k => spec_IdsDistinct.f k l) (dblR idsC [] l) := by
  unfold spec_IdsDistinct.f
  exact IdsDistinct_s_l0 l [] (by simp; omega)

/-! ### IdsDistinct_i -/
theorem IdsDistinct_i_l1 (R : Bool) (x : S33) (X : List S33) (n i : Int) (pre : List S33) (hR : Ev (fun k => impl_IdsDistinct.l0 k X X n (wrap64 (i + 1))) R) : ∀ (q p : List S33), p ++ q = pre → pre.length < 1152921504606846976 →
    Ev (fun k => impl_IdsDistinct.l1 k X X n i pre (pre.length : Int) (p.length : Int) x.f0 x.f1 x.f2 x.f3 x.f4) (q.all (fun y => !idsC x y) && R)
  | [], p, hp, hl => by
    subst hp
    refine Ev.suc ?_
    simp only [impl_IdsDistinct.l1]
    exact Ev.ite_neg (by simp) (Ev.eq hR (by simp))
  | y :: q, p, hp, hl => by
    have hp' : p ++ [y] ++ q = pre := by
      rw [← hp]
      simp
    have ih' := IdsDistinct_i_l1 R x X n i pre hR q (p ++ [y]) hp' hl
    subst hp
    have h1 : (p.length : Int) < ((p ++ y :: q).length : Int) := by simp only [List.length_append, List.length_cons]; omega
    have hw : wrap64 ((p.length : Int) + 1) = ((p ++ [y]).length : Int) := by rw [w64 (by omega) (by omega), len_snoc]
    refine Ev.suc ?_
    simp only [impl_IdsDistinct.l1, rdI_Packet, hw]
    refine Ev.ite_pos h1 (Ev.ite_pos (by omega) (Ev.ite_pos h1 ?_))
    have hall : ∀ b : Bool, idsC x y = b → ((y :: q).all (fun y => !idsC x y) && R) = (!b && (q.all (fun y => !idsC x y) && R)) := fun b hb => by
      rw [List.all_cons, hb, Bool.and_assoc]
    refine Ev.ite (fun h => Ev.val ?_) (fun h => ?_)
    · rw [hall true (by simp [idsC, h])]
      rfl
    · rw [hall false (by simp [idsC]; exact fun e => h e.symm)]
      exact ih'
theorem IdsDistinct_i_l0 : ∀ (rest pre : List S33), pre.length + rest.length < 1152921504606846976 → Ev (fun k => impl_IdsDistinct.l0 k (pre ++ rest) (pre ++ rest) ((pre ++ rest).length : Int) (pre.length : Int)) (dblR idsC pre rest)
  | [], pre, hl => by
    refine Ev.suc ?_
    simp only [impl_IdsDistinct.l0]
    exact Ev.ite_neg (by simp) (Ev.val (by simp [dblR]))
  | x :: rest, pre, hl => by
    simp only [List.length_cons] at hl
    have h1 : (pre.length : Int) < ((pre ++ x :: rest).length : Int) := by simp only [List.length_append, List.length_cons]; omega
    have hw : wrap64 ((pre.length : Int) + 1) = ((pre ++ [x]).length : Int) := by rw [w64 (by omega) (by omega), len_snoc]
    have ih := IdsDistinct_i_l0 rest (pre ++ [x]) (by simp only [List.length_append, List.length_cons, List.length_nil]; omega)
    rw [← snoc_app pre x rest, ← hw] at ih
    have ht : (pre ++ x :: rest).take (pre.length : Int).toNat = pre := by simp
    refine Ev.suc ?_
    simp only [impl_IdsDistinct.l0, rdI_Packet]
    refine Ev.ite_pos h1 (Ev.ite_pos (by omega) (Ev.ite_pos h1 (Ev.ite_pos (by omega) (Ev.bindS rfl ?_))))
    rw [ht]
    exact IdsDistinct_i_l1 _ x _ _ _ pre ih pre [] rfl (by omega)
theorem IdsDistinct_i (l : List S33) (h : l.length ≤ 1048576) : Ev (fun k => impl_IdsDistinct.f k l) (dblR idsC [] l) := by
  unfold impl_IdsDistinct.f
  exact IdsDistinct_i_l0 l [] (by simp; omega)

theorem FnExactIdsDistinct : FnExactIdsDistinct_says := by
  intro l hl
  refine Ev.rounds ?_
  unfold laws_FnExactIdsDistinct.f
  simp only [szPacketS_f l 1048576 hl.1 (by omega) (by omega), Option.bind_some]
  refine Ev.ite (fun _ => Ev.now _) (fun h => ?_)
  have hn : l.length ≤ 1048576 := by
    split at h <;> omega
  have hm : (l.map cvPacket).length ≤ 1048576 := by simpa using hn
  refine Ev.bind (toPacketS_f l hn) (Ev.bind (IdsDistinct_s _ (by omega)) (Ev.bind (toPacketS_f l hn) (Ev.bind (IdsDistinct_i _ (by omega)) (Ev.ite_neg (by simp) ?_))))
  exact Ev.bind (toPacketS_f l hn) (Ev.bind (eqPacketS_f _ (by omega)) (Ev.ite_pos rfl (Ev.now _)))

end Go.Proofs.Ytffkmajlelhiaaa.Pure
