/- The plain statement of the law FnExactArrivedAt: the program's ArrivedAt and the reference's give one answer, and nothing is shared or turned. No condition. -/
import Derived.Test.YtaofkfooijfjbaaPFnExactArrivedAtx
import Derived.Test.YtaofkfooijfjbaaU
import Derived.Test.YtaofkfooijfjbaaSaysFnExactArrivedAt
namespace Go.Proofs.Ytaofkfooijfjbaa.Pure
open Go.RowKit Go.Proofs.Ytaofkfooijfjbaa.PFnExactArrivedAt Go.Proofs.YtaofkfooijfjbaaW.PrintWords Go.Proofs.YtaofkfooijfjbaaW.PrintLast Go.Proofs.YtaofkfooijfjbaaW.PrintMore Go.Proofs.Ytaofkfooijfjbaa.U
set_option linter.unusedVariables false
set_option linter.unusedSimpArgs false

/-! ### szFlitS -/
theorem szFlitS_f (l : List S133) (n : Int) (hl : l.length ≤ maxLen) (h0 : 0 ≤ n) (h1 : n ≤ 1048576) : laws_szFlitS.f l n = some (if n < (l.length : Int) then -1 else n - (l.length : Int)) := by
  have hm : maxLen = 9223372036854775807 := rfl
  unfold laws_szFlitS.f
  rw [w64 (by omega) (by omega)]
  by_cases h : n < (l.length : Int)
  · rw [if_pos h, if_pos (by omega)]
  · rw [if_neg h, if_neg (by omega)]

/-! ### szTab -/
theorem szIntS_f (l : List Int) (n : Int) (hl : l.length ≤ maxLen) (h0 : 0 ≤ n) (h1 : n ≤ 1048576) : laws_szIntS.f l n = some (if n < (l.length : Int) then -1 else n - (l.length : Int)) := by
  have hm : maxLen = 9223372036854775807 := rfl
  unfold laws_szIntS.f
  rw [w64 (by omega) (by omega)]
  by_cases h : n < (l.length : Int)
  · rw [if_pos h, if_pos (by omega)]
  · rw [if_neg h, if_neg (by omega)]
theorem szTable_f (l : List Int) (n : Int) (hl : l.length ≤ maxLen) (h0 : 0 ≤ n) (h1 : n ≤ 1048576) : laws_szTable.f l n = some (if n < (l.length : Int) then -1 else n - (l.length : Int)) := by
  unfold laws_szTable.f
  rw [szIntS_f l n hl h0 h1]
  simp only [Option.bind_some]
  by_cases h : n < (l.length : Int)
  · simp [h]
  · rw [if_neg h, if_neg (by omega)]

/-! ### szMesh -/
theorem szMesh_f (w h : Int) (l : List Int) (n : Int) (hl : l.length ≤ maxLen) (h0 : 0 ≤ n) (h1 : n ≤ 1048576) : laws_szMesh.f w h l n = some (if n < (l.length : Int) then -1 else n - (l.length : Int)) := by
  unfold laws_szMesh.f
  rw [szIntS_f l n hl h0 h1]
  simp only [Option.bind_some]
  by_cases h : n < (l.length : Int)
  · simp [h]
  · rw [if_neg h, if_neg (by omega)]

/-! ### szCls -/
theorem szClasses_f (a b : List Int) (n : Int) (ha : a.length ≤ maxLen) (hb : b.length ≤ maxLen) (h0 : 0 ≤ n) (h1 : n ≤ 1048576) :
    ∃ r, laws_szClasses.f a b n = some r ∧ (r < 0 ∨ (0 ≤ r ∧ r = n - (a.length : Int) - (b.length : Int) ∧ (a.length : Int) + (b.length : Int) ≤ n)) := by
  unfold laws_szClasses.f
  rw [szTable_f a n ha h0 h1]
  simp only [Option.bind_some]
  by_cases h : n < (a.length : Int)
  · rw [if_pos h]
    exact ⟨-1, by simp, .inl (by omega)⟩
  · rw [if_neg h, if_neg (by omega), szTable_f b _ hb (by omega) (by omega)]
    simp only [Option.bind_some]
    by_cases h' : n - (a.length : Int) < (b.length : Int)
    · rw [if_pos h']
      exact ⟨-1, by simp, .inl (by omega)⟩
    · rw [if_neg h', if_neg (by omega)]
      exact ⟨_, rfl, .inr ⟨by omega, rfl, by omega⟩⟩

/-! ### slen -/
/-- How many elements the lists hold together. -/
def slen {α : Type} : List (List α) → Int
  | [] => 0
  | x :: l => (x.length : Int) + slen l
theorem slen_nn {α : Type} : ∀ l : List (List α), 0 ≤ slen l
  | [] => Int.le_refl _
  | x :: l => by
    have := slen_nn l
    unfold slen
    omega
theorem slen_mem {α : Type} : ∀ (l : List (List α)) (x : List α), x ∈ l → (x.length : Int) ≤ slen l
  | [], x, h => by simp at h
  | y :: l, x, h => by
    have h0 := slen_nn l
    unfold slen
    cases List.mem_cons.1 h with
    | inl e => rw [e]; omega
    | inr e => have := slen_mem l x e; omega
theorem slen_map {α β : Type} (f : α → β) : ∀ l : List (List α), slen (l.map fun x => x.map f) = slen l
  | [] => rfl
  | x :: l => by
    have := slen_map f l
    simp only [List.map_cons, slen, List.length_map, this]

/-! ### szNet -/
theorem rdL_FlitSS (pre : List (List S133)) (x : List S133) (rest : List (List S133)) : rd_L5 (pre ++ x :: rest) (pre.length : Int) = x := getD_mid pre x rest _
theorem szFlitSS_l0 : ∀ (rest pre : List (List S133)) (n : Int), 0 ≤ n → n ≤ 1048576 → pre.length + rest.length ≤ 1048576 → (∀ x ∈ rest, x.length ≤ maxLen) →
    ∃ r, Ev (fun k => laws_szFlitSS.l0 k (pre ++ rest) n (pre.length : Int)) r ∧ (r < 0 ∨ (0 ≤ r ∧ r = n - slen rest))
  | [], pre, n, h0, h1, hl, hx => by
    refine ⟨n, Ev.suc ?_, .inr ⟨h0, by simp [slen]⟩⟩
    simp only [laws_szFlitSS.l0]
    exact Ev.ite_neg (by simp) (Ev.now _)
  | x :: rest, pre, n, h0, h1, hl, hx => by
    simp only [List.length_cons] at hl
    have hlt : (pre.length : Int) < ((pre ++ x :: rest).length : Int) := by simp only [List.length_append, List.length_cons]; omega
    have hw : wrap64 ((pre.length : Int) + 1) = ((pre ++ [x]).length : Int) := by rw [w64 (by omega) (by omega), len_snoc]
    have hz := szFlitS_f x n (hx x List.mem_cons_self) h0 h1
    by_cases hc : n < (x.length : Int)
    · rw [if_pos hc] at hz
      refine ⟨-1, Ev.suc ?_, .inl (by omega)⟩
      simp only [laws_szFlitSS.l0, rdL_FlitSS, hz, Option.bind_some]
      exact Ev.ite_pos hlt (Ev.ite_pos (by omega) (Ev.ite_pos (by omega) (Ev.now _)))
    · rw [if_neg hc] at hz
      obtain ⟨r, hr, hr2⟩ := szFlitSS_l0 rest (pre ++ [x]) (n - (x.length : Int)) (by omega) (by omega) (by simp only [List.length_append, List.length_cons, List.length_nil]; omega) (fun y hy => hx y (List.mem_cons_of_mem _ hy))
      rw [← snoc_app pre x rest] at hr
      refine ⟨r, Ev.suc ?_, ?_⟩
      · simp only [laws_szFlitSS.l0, rdL_FlitSS, hz, Option.bind_some, hw]
        exact Ev.ite_pos hlt (Ev.ite_pos (by omega) (Ev.ite_neg (by omega) hr))
      · unfold slen
        omega
theorem szFlitSS_f (l : List (List S133)) (n : Int) (hl : l.length ≤ maxLen) (hx : ∀ x ∈ l, x.length ≤ maxLen) (h0 : 0 ≤ n) (h1 : n ≤ 1048576) :
    ∃ r, Ev (fun k => laws_szFlitSS.f k l n) r ∧ (r < 0 ∨ (0 ≤ r ∧ r = n - (l.length : Int) - slen l)) := by
  have hm : maxLen = 9223372036854775807 := rfl
  have e : wrap64 (n - (l.length : Int)) = n - (l.length : Int) := w64 (by omega) (by omega)
  by_cases h : n - (l.length : Int) < 0
  · refine ⟨-1, ?_, .inl (by omega)⟩
    unfold laws_szFlitSS.f
    rw [e]
    exact Ev.ite_pos h (Ev.now _)
  · obtain ⟨r, hr, hr2⟩ := szFlitSS_l0 l [] (n - (l.length : Int)) (by omega) (by omega) (by simp; omega) hx
    refine ⟨r, ?_, hr2⟩
    unfold laws_szFlitSS.f
    rw [e]
    exact Ev.ite_neg h hr
/-- Behind szNet: how great the lists are. -/
abbrev NB (br p q : List Int) (B : List (List S133)) (O T : List Int) (C A : List (List S133)) : Prop :=
  br.length ≤ 1048576 ∧ p.length ≤ 1048576 ∧ q.length ≤ 1048576 ∧ (B.length ≤ 1048576 ∧ slen B ≤ 1048576) ∧ O.length ≤ 1048576 ∧ T.length ≤ 1048576 ∧ (C.length ≤ 1048576 ∧ slen C ≤ 1048576) ∧ (A.length ≤ 1048576 ∧ slen A ≤ 1048576)
theorem szNet_f (w h : Int) (br p q : List Int) (B : List (List S133)) (O T : List Int) (C A : List (List S133)) (t : Int) (n : Int) (hbr : br.length ≤ maxLen) (hp : p.length ≤ maxLen) (hq : q.length ≤ maxLen) (hB : B.length ≤ maxLen ∧ ∀ x ∈ B, x.length ≤ maxLen) (hO : O.length ≤ maxLen) (hT : T.length ≤ maxLen)
    (hC : C.length ≤ maxLen ∧ ∀ x ∈ C, x.length ≤ maxLen) (hA : A.length ≤ maxLen ∧ ∀ x ∈ A, x.length ≤ maxLen) (h0 : 0 ≤ n) (h1 : n ≤ 1048576) :
    ∃ r, Ev (fun k => laws_szNet.f k w h br p q B O T C A t n) r ∧ (r < 0 ∨ (0 ≤ r ∧ r ≤ n ∧ NB br p q B O T C A)) := by
  unfold laws_szNet.f
  have e1 := szMesh_f w h br n hbr h0 h1
  by_cases c1 : n < (br.length : Int)
  · rw [if_pos c1] at e1
    exact ⟨-1, Ev.bindS e1 (Ev.ite_pos (by omega) (Ev.now _)), .inl (by omega)⟩
  rw [if_neg c1] at e1
  obtain ⟨r2, e2, f2⟩ := szClasses_f p q (n - (br.length : Int)) hp hq (by omega) (by omega)
  by_cases c2 : r2 < 0
  · exact ⟨-1, Ev.bindS e1 (Ev.ite_neg (by omega) (Ev.bindS e2 (Ev.ite_pos c2 (Ev.now _)))), .inl (by omega)⟩
  obtain ⟨r3, e3, f3⟩ := szFlitSS_f B r2 hB.1 hB.2 (by omega) (by omega)
  by_cases c3 : r3 < 0
  · exact ⟨-1, Ev.bindS e1 (Ev.ite_neg (by omega) (Ev.bindS e2 (Ev.ite_neg c2 (Ev.bind e3 (Ev.ite_pos c3 (Ev.now _)))))), .inl (by omega)⟩
  have s3 := slen_nn B
  have e4 := szIntS_f O r3 hO (by omega) (by omega)
  by_cases c4 : r3 < (O.length : Int)
  · rw [if_pos c4] at e4
    exact ⟨-1, Ev.bindS e1 (Ev.ite_neg (by omega) (Ev.bindS e2 (Ev.ite_neg c2 (Ev.bind e3 (Ev.ite_neg c3 (Ev.bindS e4 (Ev.ite_pos (by omega) (Ev.now _)))))))), .inl (by omega)⟩
  rw [if_neg c4] at e4
  have e5 := szIntS_f T (r3 - (O.length : Int)) hT (by omega) (by omega)
  by_cases c5 : r3 - (O.length : Int) < (T.length : Int)
  · rw [if_pos c5] at e5
    exact ⟨-1, Ev.bindS e1 (Ev.ite_neg (by omega) (Ev.bindS e2 (Ev.ite_neg c2 (Ev.bind e3 (Ev.ite_neg c3 (Ev.bindS e4 (Ev.ite_neg (by omega) (Ev.bindS e5 (Ev.ite_pos (by omega) (Ev.now _)))))))))), .inl (by omega)⟩
  rw [if_neg c5] at e5
  obtain ⟨r6, e6, f6⟩ := szFlitSS_f C (r3 - (O.length : Int) - (T.length : Int)) hC.1 hC.2 (by omega) (by omega)
  by_cases c6 : r6 < 0
  · exact ⟨-1, Ev.bindS e1 (Ev.ite_neg (by omega) (Ev.bindS e2 (Ev.ite_neg c2 (Ev.bind e3 (Ev.ite_neg c3 (Ev.bindS e4 (Ev.ite_neg (by omega) (Ev.bindS e5 (Ev.ite_neg (by omega) (Ev.bind e6 (Ev.ite_pos c6 (Ev.now _)))))))))))), .inl (by omega)⟩
  have s6 := slen_nn C
  obtain ⟨r7, e7, f7⟩ := szFlitSS_f A r6 hA.1 hA.2 (by omega) (by omega)
  by_cases c7 : r7 < 0
  · exact ⟨-1, Ev.bindS e1 (Ev.ite_neg (by omega) (Ev.bindS e2 (Ev.ite_neg c2 (Ev.bind e3 (Ev.ite_neg c3 (Ev.bindS e4 (Ev.ite_neg (by omega) (Ev.bindS e5 (Ev.ite_neg (by omega) (Ev.bind e6 (Ev.ite_neg c6 (Ev.bind e7 (Ev.ite_pos c7 (Ev.now _)))))))))))))), .inl (by omega)⟩
  have s7 := slen_nn A
  refine ⟨r7, Ev.bindS e1 (Ev.ite_neg (by omega) (Ev.bindS e2 (Ev.ite_neg c2 (Ev.bind e3 (Ev.ite_neg c3 (Ev.bindS e4 (Ev.ite_neg (by omega) (Ev.bindS e5 (Ev.ite_neg (by omega) (Ev.bind e6 (Ev.ite_neg c6 (Ev.bind e7 (Ev.ite_neg c7 (Ev.now _)))))))))))))), .inr ?_⟩
  refine ⟨by omega, by omega, by omega, by omega, by omega, ⟨by omega, by omega⟩, by omega, by omega, ⟨by omega, by omega⟩, by omega, by omega⟩

/-! ### toFlitS -/
def cvFlit (x : S133) : S112 := ⟨x.f0, x.f1, x.f2, x.f3, x.f4⟩
theorem rdL_Flit (pre : List S133) (x : S133) (rest : List S133) : rd_T133 (pre ++ x :: rest) (pre.length : Int) = x := getD_mid pre x rest _
theorem toFlitS_l0 : ∀ (rest pre : List S133) (z : List S112), z.length = rest.length → pre.length + rest.length ≤ 1152921504606846976 →
    Ev (fun k => laws_toFlitS.l0 k (pre ++ rest) (pre.map cvFlit ++ z) (pre.length : Int)) ((pre ++ rest).map cvFlit)
  | [], pre, z, hz, _ => by
    have : z = [] := List.length_eq_zero_iff.1 hz
    subst this
    refine Ev.suc ?_
    simp only [laws_toFlitS.l0]
    refine Ev.ite_neg (by simp) (Ev.val (by simp))
  | x :: rest, pre, z, hz, hl => by
    obtain ⟨y, z, rfl⟩ : ∃ y z', z = y :: z' := by
      cases z with
      | nil => simp at hz
      | cons y z' => exact ⟨y, z', rfl⟩
    simp only [List.length_cons] at hz hl
    have hset : (pre.map cvFlit ++ y :: z).set ((pre.length : Int)).toNat (cvFlit x) = (pre ++ [x]).map cvFlit ++ z := by
      have h := set_mid (pre.map cvFlit) y (cvFlit x) z
      rw [List.length_map] at h
      rw [h]
      simp
    refine Ev.suc ?_
    simp only [laws_toFlitS.l0, rdL_Flit, laws_toFlit.f, Option.bind_some]
    refine Ev.ite_pos (by simp only [List.length_append, List.length_cons]; omega) ?_
    refine Ev.ite_pos (by omega) ?_
    refine Ev.ite_pos (by simp only [List.length_append, List.length_cons, List.length_map]; omega) ?_
    have hset' := hset
    unfold cvFlit at hset'
    simp only [cvFlit] at hset ⊢
    rw [hset, w64 (by omega) (by omega), ← len_snoc pre x, snoc_app pre x rest]
    exact toFlitS_l0 rest (pre ++ [x]) z (by omega) (by simp only [List.length_append, List.length_cons, List.length_nil]; omega)
theorem toFlitS_f (l : List S133) (h : l.length ≤ 1048576) : Ev (fun k => laws_toFlitS.f k l) (l.map cvFlit) := by
  unfold laws_toFlitS.f
  refine Ev.ite_pos (by omega) ?_
  refine Ev.ite_pos (by omega) ?_
  exact toFlitS_l0 l [] _ (by simp) (by simp; omega)

/-! ### toIntS -/
theorem toIntS_l0 : ∀ (rest pre z : List Int), z.length = rest.length → pre.length + rest.length ≤ 1152921504606846976 → Ev (fun k => laws_toIntS.l0 k (pre ++ rest) (pre ++ z) (pre.length : Int)) (pre ++ rest)
  | [], pre, z, hz, _ => by
    have : z = [] := List.length_eq_zero_iff.1 hz
    subst this
    refine Ev.suc ?_
    simp only [laws_toIntS.l0]
    refine Ev.ite_neg (by simp) (Ev.now _)
  | x :: rest, pre, z, hz, hl => by
    obtain ⟨y, z, rfl⟩ : ∃ y z', z = y :: z' := by
      cases z with
      | nil => simp at hz
      | cons y z' => exact ⟨y, z', rfl⟩
    simp only [List.length_cons] at hz hl
    refine Ev.suc ?_
    simp only [laws_toIntS.l0, rd_mid, set_mid]
    refine Ev.ite_pos (by simp only [List.length_append, List.length_cons]; omega) ?_
    refine Ev.ite_pos (by omega) ?_
    refine Ev.ite_pos (by simp only [List.length_append, List.length_cons]; omega) ?_
    rw [w64 (by omega) (by omega), ← len_snoc pre x, snoc_app pre x rest, snoc_app pre x z]
    exact toIntS_l0 rest (pre ++ [x]) z (by omega) (by simp only [List.length_append, List.length_cons, List.length_nil]; omega)
theorem toIntS_f (l : List Int) (h : l.length ≤ 35184372088832) : Ev (fun k => laws_toIntS.f k l) l := by
  unfold laws_toIntS.f
  refine Ev.ite_pos (by omega) ?_
  refine Ev.ite_pos (by omega) ?_
  exact toIntS_l0 l [] _ (by simp) (by simp; omega)

/-! ### toMesh -/
theorem toMesh_f (w h : Int) (l : List Int) (hl : l.length ≤ 35184372088832) : Ev (fun k => laws_toMesh.f k w h l) (w, h, l) := by
  unfold laws_toMesh.f laws_toGrid.f
  simp only [Option.bind_some]
  exact Ev.bind (toIntS_f l hl) (Ev.now _)

/-! ### toCls -/
theorem toTable_f (l : List Int) (h : l.length ≤ 35184372088832) : Ev (fun k => laws_toTable.f k l) l := by
  unfold laws_toTable.f
  exact Ev.bind (toIntS_f l h) (Ev.now _)
theorem toClasses_f (a b : List Int) (ha : a.length ≤ 35184372088832) (hb : b.length ≤ 35184372088832) : Ev (fun k => laws_toClasses.f k a b) (a, b) := by
  unfold laws_toClasses.f
  exact Ev.bind (toTable_f a ha) (Ev.bind (toTable_f b hb) (Ev.now _))

/-! ### toNet -/
def cvSS (l : List (List S133)) : List (List S112) := l.map fun x => x.map cvFlit
theorem cvSS_len (l : List (List S133)) : (cvSS l).length = l.length := by simp [cvSS]
theorem cvSS_slen (l : List (List S133)) : slen (cvSS l) = slen l := slen_map _ _
theorem toFlitSS_l0 : ∀ (rest pre : List (List S133)) (z : List (List S112)), z.length = rest.length → pre.length + rest.length ≤ 1152921504606846976 → (∀ x ∈ rest, x.length ≤ 1048576) →
    Ev (fun k => laws_toFlitSS.l0 k (pre ++ rest) (cvSS pre ++ z) (pre.length : Int)) (cvSS (pre ++ rest))
  | [], pre, z, hz, _, _ => by
    have : z = [] := List.length_eq_zero_iff.1 hz
    subst this
    refine Ev.suc ?_
    simp only [laws_toFlitSS.l0]
    refine Ev.ite_neg (by simp) (Ev.val (by simp))
  | x :: rest, pre, z, hz, hl, hx => by
    obtain ⟨y, z, rfl⟩ : ∃ y z', z = y :: z' := by
      cases z with
      | nil => simp at hz
      | cons y z' => exact ⟨y, z', rfl⟩
    simp only [List.length_cons] at hz hl
    have hset : (cvSS pre ++ y :: z).set ((pre.length : Int)).toNat (x.map cvFlit) = cvSS (pre ++ [x]) ++ z := by
      have h := set_mid (cvSS pre) y (x.map cvFlit) z
      rw [cvSS_len] at h
      rw [h]
      simp [cvSS]
    have ih := toFlitSS_l0 rest (pre ++ [x]) z (by omega) (by simp only [List.length_append, List.length_cons, List.length_nil]; omega) (fun y hy => hx y (List.mem_cons_of_mem _ hy))
    refine Ev.suc ?_
    simp only [laws_toFlitSS.l0, rdL_FlitSS]
    refine Ev.ite_pos (by simp only [List.length_append, List.length_cons]; omega) (Ev.ite_pos (by omega) (Ev.bind (toFlitS_f x (hx x List.mem_cons_self)) ?_))
    refine Ev.ite_pos (by simp only [List.length_append, List.length_cons, cvSS_len]; omega) ?_
    rw [hset, w64 (by omega) (by omega), ← len_snoc pre x, snoc_app pre x rest]
    exact ih
theorem toFlitSS_f (l : List (List S133)) (h : l.length ≤ 1048576) (hx : slen l ≤ 1048576) : Ev (fun k => laws_toFlitSS.f k l) (cvSS l) := by
  unfold laws_toFlitSS.f
  refine Ev.ite_pos (by omega) (Ev.ite_pos (by omega) ?_)
  exact toFlitSS_l0 l [] _ (by simp) (by simp; omega) (fun x hm => by have := slen_mem l x hm; omega)
theorem toNet_f (w h : Int) (br p q : List Int) (B : List (List S133)) (O T : List Int) (C A : List (List S133)) (t : Int) (hb : NB br p q B O T C A) :
    Ev (fun k => laws_toNet.f k w h br p q B O T C A t) (w, h, br, p, q, cvSS B, O, T, cvSS C, cvSS A, t) := by
  obtain ⟨h1, h2, h3, h4, h5, h6, h7, h8⟩ := hb
  unfold laws_toNet.f
  exact Ev.bind (toMesh_f w h br (by omega)) (Ev.bind (toClasses_f p q (by omega) (by omega)) (Ev.bind (toFlitSS_f B h4.1 h4.2) (Ev.bind (toIntS_f O (by omega)) (Ev.bind (toIntS_f T (by omega)) (Ev.bind (toFlitSS_f C h7.1 h7.2) (Ev.bind (toFlitSS_f A h8.1 h8.2) (Ev.now _)))))))

/-! ### rdSS -/
theorem rdI_FlitSS (pre : List (List S112)) (x : List S112) (rest : List (List S112)) : rd_L3 (pre ++ x :: rest) (pre.length : Int) = x := getD_mid pre x rest _

/-! ### rdFlit -/
theorem rdI_Flit (pre : List S112) (x : S112) (rest : List S112) : rd_T112 (pre ++ x :: rest) (pre.length : Int) = x := getD_mid pre x rest _

/-! ### eqFlit -/
theorem eqFlit_f (a0 a1 a2 : Int) (a3 a4 : Bool) : laws_eqFlit.f a0 a1 a2 a3 a4 a0 a1 a2 a3 a4 = some true := by
  unfold laws_eqFlit.f
  simp

/-! ### eqFlitS -/
theorem eqFlitS_l0 : ∀ (rest pre : List S112), pre.length + rest.length ≤ 1152921504606846976 → Ev (fun k => laws_eqFlitS.l0 k (pre ++ rest) (pre ++ rest) (pre.length : Int)) true
  | [], pre, _ => by
    refine Ev.suc ?_
    simp only [laws_eqFlitS.l0]
    refine Ev.ite_neg (by simp) (Ev.now _)
  | x :: rest, pre, hl => by
    simp only [List.length_cons] at hl
    refine Ev.suc ?_
    simp only [laws_eqFlitS.l0, rdI_Flit, eqFlit_f, Option.bind_some]
    refine Ev.ite_pos (by simp only [List.length_append, List.length_cons]; omega) ?_
    refine Ev.ite_pos (by omega) ?_
    refine Ev.ite_pos (by simp only [List.length_append, List.length_cons]; omega) ?_
    refine Ev.ite_pos trivial ?_
    rw [w64 (by omega) (by omega), ← len_snoc pre x, snoc_app pre x rest]
    exact eqFlitS_l0 rest (pre ++ [x]) (by simp only [List.length_append, List.length_cons, List.length_nil]; omega)
theorem eqFlitS_f (l : List S112) (h : l.length ≤ 1152921504606846976) : Ev (fun k => laws_eqFlitS.f k l l) true := by
  unfold laws_eqFlitS.f
  refine Ev.ite_pos rfl ?_
  exact eqFlitS_l0 l [] (by simpa using h)

/-! ### eqIntS -/
theorem eqIntS_l0 : ∀ (rest pre : List Int), pre.length + rest.length ≤ 1152921504606846976 → Ev (fun k => laws_eqIntS.l0 k (pre ++ rest) (pre ++ rest) (pre.length : Int)) true
  | [], pre, _ => by
    refine Ev.suc ?_
    simp only [laws_eqIntS.l0]
    refine Ev.ite_neg (by simp) (Ev.now _)
  | x :: rest, pre, hl => by
    simp only [List.length_cons] at hl
    refine Ev.suc ?_
    simp only [laws_eqIntS.l0, rd_mid]
    refine Ev.ite_pos (by simp only [List.length_append, List.length_cons]; omega) ?_
    refine Ev.ite_pos (by omega) ?_
    refine Ev.ite_pos (by simp only [List.length_append, List.length_cons]; omega) ?_
    refine Ev.ite_pos trivial ?_
    rw [w64 (by omega) (by omega), ← len_snoc pre x, snoc_app pre x rest]
    exact eqIntS_l0 rest (pre ++ [x]) (by simp only [List.length_append, List.length_cons, List.length_nil]; omega)
theorem eqIntS_f (l : List Int) (h : l.length ≤ 35184372088832) : Ev (fun k => laws_eqIntS.f k l l) true := by
  unfold laws_eqIntS.f
  refine Ev.ite_pos rfl ?_
  exact eqIntS_l0 l [] (by simp; omega)

/-! ### eqMesh -/
theorem eqMesh_f (w h : Int) (l : List Int) (hl : l.length ≤ 35184372088832) : Ev (fun k => laws_eqMesh.f k w h l w h l) true := by
  unfold laws_eqMesh.f laws_eqGrid.f
  simp only [if_true, Option.bind_some]
  exact Ev.bind (eqIntS_f l hl) (Ev.ite_pos rfl (Ev.now _))

/-! ### eqCls -/
theorem eqTable_f (l : List Int) (h : l.length ≤ 35184372088832) : Ev (fun k => laws_eqTable.f k l l) true := by
  unfold laws_eqTable.f
  exact Ev.bind (eqIntS_f l h) (Ev.ite_pos rfl (Ev.now _))
theorem eqClasses_f (a b : List Int) (ha : a.length ≤ 35184372088832) (hb : b.length ≤ 35184372088832) : Ev (fun k => laws_eqClasses.f k a b a b) true := by
  unfold laws_eqClasses.f
  exact Ev.bind (eqTable_f a ha) (Ev.ite_pos rfl (Ev.bind (eqTable_f b hb) (Ev.ite_pos rfl (Ev.now _))))

/-! ### eqNet -/
theorem eqFlitSS_l0 : ∀ (rest pre : List (List S112)), pre.length + rest.length ≤ 1152921504606846976 → (∀ x ∈ rest, x.length ≤ 1048576) → Ev (fun k => laws_eqFlitSS.l0 k (pre ++ rest) (pre ++ rest) (pre.length : Int)) true
  | [], pre, _, _ => by
    refine Ev.suc ?_
    simp only [laws_eqFlitSS.l0]
    refine Ev.ite_neg (by simp) (Ev.now _)
  | x :: rest, pre, hl, hx => by
    simp only [List.length_cons] at hl
    have h1 : (pre.length : Int) < ((pre ++ x :: rest).length : Int) := by simp only [List.length_append, List.length_cons]; omega
    have ih := eqFlitSS_l0 rest (pre ++ [x]) (by simp only [List.length_append, List.length_cons, List.length_nil]; omega) (fun y hy => hx y (List.mem_cons_of_mem _ hy))
    have hx0 := hx x List.mem_cons_self
    refine Ev.suc ?_
    simp only [laws_eqFlitSS.l0, rdI_FlitSS]
    refine Ev.ite_pos h1 (Ev.ite_pos (by omega) (Ev.ite_pos h1 (Ev.bind (eqFlitS_f x (by omega)) (Ev.ite_pos rfl ?_))))
    rw [w64 (by omega) (by omega), ← len_snoc pre x, snoc_app pre x rest]
    exact ih
theorem eqFlitSS_f (l : List (List S112)) (h : l.length ≤ 1048576) (hx : slen l ≤ 1048576) : Ev (fun k => laws_eqFlitSS.f k l l) true := by
  unfold laws_eqFlitSS.f
  refine Ev.ite_pos rfl ?_
  exact eqFlitSS_l0 l [] (by simp; omega) (fun x hm => by have := slen_mem l x hm; omega)
theorem eqNet_f (w h : Int) (br p q : List Int) (B : List (List S112)) (O T : List Int) (C A : List (List S112)) (t : Int) (hbr : br.length ≤ 1048576) (hp : p.length ≤ 1048576) (hq : q.length ≤ 1048576) (hB : B.length ≤ 1048576 ∧ slen B ≤ 1048576) (hO : O.length ≤ 1048576) (hT : T.length ≤ 1048576)
    (hC : C.length ≤ 1048576 ∧ slen C ≤ 1048576) (hA : A.length ≤ 1048576 ∧ slen A ≤ 1048576) : Ev (fun k => laws_eqNet.f k w h br p q B O T C A t w h br p q B O T C A t) true := by
  unfold laws_eqNet.f
  exact Ev.bind (eqMesh_f w h br (by omega)) (Ev.ite_pos rfl (Ev.bind (eqClasses_f p q (by omega) (by omega)) (Ev.ite_pos rfl (Ev.bind (eqFlitSS_f B hB.1 hB.2) (Ev.ite_pos rfl (Ev.bind (eqIntS_f O (by omega)) (Ev.ite_pos rfl (Ev.bind (eqIntS_f T (by omega)) (Ev.ite_pos rfl (Ev.bind (eqFlitSS_f C hC.1 hC.2) (Ev.ite_pos rfl (Ev.bind (eqFlitSS_f A hA.1 hA.2) (Ev.ite_pos rfl (Ev.ite_pos rfl (Ev.now _)))))))))))))))

/-! ### in -/
theorem l01In_f (a b c : Int) : spec_l01In.f a b c = some (decide (b ≤ a ∧ a ≤ c)) := by
  unfold spec_l01In.f
  by_cases h : a ≥ b
  · rw [if_pos h]
    simp [show b ≤ a from h]
  · rw [if_neg h]
    simp [show ¬ b ≤ a from h]

/-! ### grid -/
abbrev gOk (w h : Int) : Prop := 1 ≤ w ∧ w ≤ 4 ∧ 1 ≤ h ∧ h ≤ 4
def ncR (w h : Int) : Int := if gOk w h then w * h else 0
theorem mul_b {w h : Int} (hw : 1 ≤ w ∧ w ≤ 4) (hh : 1 ≤ h ∧ h ≤ 4) : 1 ≤ w * h ∧ w * h ≤ 16 := by
  obtain h1 | h1 | h1 | h1 : w = 1 ∨ w = 2 ∨ w = 3 ∨ w = 4 := by omega
  all_goals
    subst h1
    omega
theorem ncR_b (w h : Int) : 0 ≤ ncR w h ∧ ncR w h ≤ 16 := by
  unfold ncR
  split
  · rename_i hg
    have := mul_b ⟨hg.1, hg.2.1⟩ hg.2.2
    omega
  · omega
abbrev nodeOk (w h n : Int) : Prop := 0 ≤ n ∧ n ≤ ncR w h - 1

/-! ### grid_s -/
theorem GridOk_s (w h : Int) : spec_GridOk.f w h = some (decide (gOk w h)) := by
  unfold spec_GridOk.f gOk
  simp only [l01In_f, Option.bind_some, decide_eq_true_eq]
  split
  · rename_i h1
    simp [h1]
  · rename_i h1
    simp only [Option.some.injEq]
    symm
    rw [decide_eq_false_iff_not]
    exact fun h2 => h1 ⟨h2.1, h2.2.1⟩
theorem NodeCount_s (w h : Int) : spec_NodeCount.f w h = some (ncR w h) := by
  unfold spec_NodeCount.f ncR
  simp only [GridOk_s, Option.bind_some, decide_eq_true_eq]
  split
  · rename_i hg
    have := mul_b ⟨hg.1, hg.2.1⟩ hg.2.2
    rw [w64 (by omega) (by omega)]
  · rfl

/-! ### l02Has -/
theorem l02Has_s (w h n : Int) : spec_l02Has.f w h n = some (decide (nodeOk w h n)) := by
  unfold spec_l02Has.f nodeOk
  have := ncR_b w h
  simp only [NodeCount_s, l01In_f, Option.bind_some]
  rw [w64 (by omega) (by omega)]

/-! ### inside -/
theorem inside_f (a b c : Int) : impl_inside.f a b c = some (decide (b ≤ a ∧ a ≤ c)) := by
  unfold impl_inside.f
  by_cases h : b ≤ a
  · rw [if_pos h]
    simp [h]
  · rw [if_neg h]
    simp [h]

/-! ### grid_i -/
theorem GridOk_i (w h : Int) : impl_GridOk.f w h = some (decide (gOk w h)) := by
  unfold impl_GridOk.f gOk
  simp only [inside_f, Option.bind_some, decide_eq_true_eq]
  split
  · rename_i h1
    simp [h1]
  · rename_i h1
    simp only [Option.some.injEq]
    symm
    rw [decide_eq_false_iff_not]
    exact fun h2 => h1 ⟨h2.1, h2.2.1⟩
theorem NodeCount_i (w h : Int) : impl_NodeCount.f w h = some (ncR w h) := by
  unfold impl_NodeCount.f ncR
  simp only [GridOk_i, Option.bind_some, decide_eq_true_eq]
  split
  · rename_i hg
    have := mul_b ⟨hg.1, hg.2.1⟩ hg.2.2
    rw [w64 (by omega) (by omega)]
  · rfl

/-! ### isNode -/
theorem isNode_i (w h n : Int) : impl_isNode.f w h n = some (decide (nodeOk w h n)) := by
  unfold impl_isNode.f nodeOk
  have := ncR_b w h
  simp only [NodeCount_i, inside_f, Option.bind_some]
  rw [w64 (by omega) (by omega)]

/-! ### node -/
def nodeAtR (w h x y : Int) : Int := if gOk w h ∧ (0 ≤ x ∧ x ≤ w - 1) ∧ (0 ≤ y ∧ y ≤ h - 1) then y * w + x else -1
theorem nodeAt_b (w h x y : Int) : nodeAtR w h x y = -1 ∨ nodeOk w h (nodeAtR w h x y) := by
  unfold nodeAtR
  split
  · rename_i hc
    obtain ⟨hg, hx, hy⟩ := hc
    right
    have hn : ncR w h = w * h := if_pos hg
    rw [nodeOk, hn]
    obtain ⟨g1, g2, g3, g4⟩ := hg
    obtain h1 | h1 | h1 | h1 : w = 1 ∨ w = 2 ∨ w = 3 ∨ w = 4 := by omega
    all_goals
      subst h1
      omega
  · exact .inl rfl
theorem NodeAt_s (w h x y : Int) : spec_NodeAt.f w h x y = some (nodeAtR w h x y) := by
  unfold spec_NodeAt.f nodeAtR
  simp only [GridOk_s, l01In_f, Option.bind_some, decide_eq_true_eq]
  by_cases hg : gOk w h
  · have e1 : wrap64 (w - 1) = w - 1 := w64 (by have := hg.1; omega) (by have := hg.2.1; omega)
    have e2 : wrap64 (h - 1) = h - 1 := w64 (by have := hg.2.2.1; omega) (by have := hg.2.2.2; omega)
    rw [if_pos hg, e1, e2]
    by_cases hx : 0 ≤ x ∧ x ≤ w - 1
    · by_cases hy : 0 ≤ y ∧ y ≤ h - 1
      · rw [if_pos hx, if_pos hy, if_pos ⟨hg, hx, hy⟩]
        obtain ⟨g1, g2, g3, g4⟩ := hg
        have hm : 0 ≤ y * w ∧ y * w ≤ 12 := by
          obtain h1 | h1 | h1 | h1 : w = 1 ∨ w = 2 ∨ w = 3 ∨ w = 4 := by omega
          all_goals
            subst h1
            omega
        rw [w64 (x := y * w) (by omega) (by omega), w64 (by omega) (by omega)]
      · rw [if_pos hx, if_neg hy, if_neg (fun hh => hy hh.2.2)]
    · rw [if_neg hx, if_neg (fun hh => hx hh.2.1)]
  · rw [if_neg hg, if_neg (fun hh => hg hh.1)]
theorem NodeAt_i (w h x y : Int) : impl_NodeAt.f w h x y = some (nodeAtR w h x y) := by
  have e : impl_NodeAt.f w h x y = spec_NodeAt.f w h x y := by
    unfold impl_NodeAt.f spec_NodeAt.f
    simp only [GridOk_i, GridOk_s, inside_f, l01In_f]
  rw [e, NodeAt_s]
def nextR (w h n p : Int) : Int :=
  if nodeOk w h n then
    (if p = 0 then nodeAtR w h (n % w) (n / w - 1) else if p = 1 then nodeAtR w h (n % w + 1) (n / w) else if p = 2 then nodeAtR w h (n % w) (n / w + 1) else if p = 3 then nodeAtR w h (n % w - 1) (n / w) else if p = 4 then n else -1)
  else -1
theorem nextR_b (w h n p : Int) : nextR w h n p = -1 ∨ nodeOk w h (nextR w h n p) := by
  unfold nextR
  by_cases hn : nodeOk w h n
  · rw [if_pos hn]
    by_cases h0 : p = 0
    · rw [if_pos h0]
      exact nodeAt_b _ _ _ _
    rw [if_neg h0]
    by_cases h1 : p = 1
    · rw [if_pos h1]
      exact nodeAt_b _ _ _ _
    rw [if_neg h1]
    by_cases h2 : p = 2
    · rw [if_pos h2]
      exact nodeAt_b _ _ _ _
    rw [if_neg h2]
    by_cases h3 : p = 3
    · rw [if_pos h3]
      exact nodeAt_b _ _ _ _
    rw [if_neg h3]
    by_cases h4 : p = 4
    · rw [if_pos h4]
      exact .inr hn
    · rw [if_neg h4]
      exact .inl rfl
  · rw [if_neg hn]
    exact .inl rfl
theorem nodeOk_g {w h n : Int} (hn : nodeOk w h n) : gOk w h ∧ 0 ≤ n ∧ n ≤ 15 := by
  obtain ⟨h0, h1⟩ := hn
  have hb := ncR_b w h
  by_cases hg : gOk w h
  · exact ⟨hg, h0, by omega⟩
  · have e : ncR w h = 0 := if_neg hg
    omega
theorem div_b {w x : Int} (hw : 1 ≤ w ∧ w ≤ 4) (hx : 0 ≤ x ∧ x ≤ 15) : Int.tmod x w = x % w ∧ Int.tdiv x w = x / w ∧ 0 ≤ x % w ∧ x % w < w ∧ 0 ≤ x / w ∧ x / w ≤ 15 := by
  rw [Int.tmod_eq_emod_of_nonneg hx.1, Int.tdiv_eq_ediv_of_nonneg hx.1]
  refine ⟨rfl, rfl, Int.emod_nonneg _ (by omega), Int.emod_lt_of_pos _ (by omega), Int.ediv_nonneg hx.1 (by omega), ?_⟩
  obtain h1 | h1 | h1 | h1 : w = 1 ∨ w = 2 ∨ w = 3 ∨ w = 4 := by omega
  all_goals
    subst h1
    omega
theorem NextNode_s (w h n p : Int) : spec_NextNode.f w h n p = some (nextR w h n p) := by
  unfold spec_NextNode.f nextR
  simp only [l02Has_s, Option.bind_some, decide_eq_true_eq]
  by_cases hn : nodeOk w h n
  · obtain ⟨hg, h0, h15⟩ := nodeOk_g hn
    obtain ⟨a1, a2, a3, a4, a5, a6⟩ := div_b ⟨hg.1, hg.2.1⟩ ⟨h0, h15⟩
    rw [if_pos hn, if_pos hn, if_neg (by have := hg.1; omega), a1, a2]
    have hw4 := hg.2.1
    generalize n % w = x at *
    generalize n / w = y at *
    have e1 : wrap64 y = y := w64 (by omega) (by omega)
    have e2 : wrap64 (y - 1) = y - 1 := w64 (by omega) (by omega)
    have e3 : wrap64 (y + 1) = y + 1 := w64 (by omega) (by omega)
    have e4 : wrap64 (x - 1) = x - 1 := w64 (by omega) (by omega)
    have e5 : wrap64 (x + 1) = x + 1 := w64 (by omega) (by omega)
    simp only [e1, e2, e3, e4, e5, NodeAt_s, Option.bind_some]
    repeat' split
    all_goals rfl
  · rw [if_neg hn, if_neg hn]
theorem NextNode_i (w h n p : Int) : impl_NextNode.f w h n p = some (nextR w h n p) := by
  have e : impl_NextNode.f w h n p = spec_NextNode.f w h n p := by
    unfold impl_NextNode.f spec_NextNode.f
    simp only [isNode_i, l02Has_s, NodeAt_i, NodeAt_s]
  rw [e, NextNode_s]
def leadsR (w h c : Int) : Bool := decide (0 ≤ c ∧ c ≤ 4 * ncR w h - 1) && decide (nextR w h (c / 4) (c % 4) ≥ 0)
theorem leads_s (w h c : Int) : spec_l03Leads.f w h c = some (leadsR w h c) := by
  unfold spec_l03Leads.f leadsR
  have hb := ncR_b w h
  simp only [NodeCount_s, l01In_f, Option.bind_some, decide_eq_true_eq]
  rw [w64 (x := 4 * ncR w h) (by omega) (by omega), w64 (x := 4 * ncR w h - 1) (by omega) (by omega)]
  by_cases hc : 0 ≤ c ∧ c ≤ 4 * ncR w h - 1
  · rw [if_pos hc, Int.tdiv_eq_ediv_of_nonneg hc.1, Int.tmod_eq_emod_of_nonneg hc.1, w64 (x := c / 4) (by omega) (by omega), NextNode_s]
    simp [hc]
  · rw [if_neg hc]
    simp [hc]
theorem leads_i (w h c : Int) : impl_leads.f w h c = some (leadsR w h c) := by
  have e : impl_leads.f w h c = spec_l03Leads.f w h c := by
    unfold impl_leads.f spec_l03Leads.f
    simp only [NodeCount_i, NodeCount_s, inside_f, l01In_f, NextNode_i, NextNode_s]
  rw [e, leads_s]

/-! ### mesh -/
/-- The list from an element on, behind what stands ahead of it. -/
def brR (w h : Int) : Option Int → List Int → Bool
  | _, [] => true
  | p, x :: r => leadsR w h x && (match p with | none => true | some y => decide (y < x)) && brR w h (some x) r
def meshR (w h : Int) (br : List Int) : Bool := decide (gOk w h) && brR w h none br
theorem last_snoc (pre : List Int) (y : Int) : rd (pre ++ [y]) (pre.length : Int) = y := rd_mid pre y []
theorem rd_app_last (pre : List Int) (y : Int) (rest : List Int) : rd (pre ++ [y] ++ rest) (((pre ++ [y]).length : Int) - 1) = y := by
  have e : ((pre ++ [y]).length : Int) - 1 = (pre.length : Int) := by
    rw [len_snoc]
    omega
  rw [e, List.append_assoc]
  exact rd_mid pre y rest

/-! ### hasCh -/
/-- A channel of a valid mesh. -/
def hasR (w h : Int) (br : List Int) (c : Int) : Bool := leadsR w h c && !decide (c ∈ br)

/-! ### walkR -/
theorem idx_b {n x y : Int} (hn : 0 ≤ n ∧ n ≤ 16) (hx : 0 ≤ x ∧ x ≤ n - 1) (hy : 0 ≤ y ∧ y ≤ n - 1) : 0 ≤ x * n ∧ x * n ≤ 256 ∧ x * n + y < n * n ∧ n * n ≤ 256 := by
  have h1 : 0 ≤ x * n := Int.mul_nonneg hx.1 hn.1
  have h2 : (x + 1) * n ≤ n * n := Int.mul_le_mul_of_nonneg_right (by omega) hn.1
  have h3 : n * n ≤ 16 * n := Int.mul_le_mul_of_nonneg_right hn.2 hn.1
  rw [Int.add_mul, Int.one_mul] at h2
  omega
theorem idx_w {n x y : Int} (hn : 0 ≤ n ∧ n ≤ 16) (hx : 0 ≤ x ∧ x ≤ n - 1) (hy : 0 ≤ y ∧ y ≤ n - 1) : wrap64 (wrap64 (x * n) + y) = x * n + y ∧ wrap64 (n * n) = n * n := by
  have hb := idx_b hn hx hy
  generalize x * n = m at *
  generalize n * n = q at *
  rw [w64 (x := m) (by omega) (by omega), w64 (x := m + y) (by omega) (by omega), w64 (x := q) (by omega) (by omega)]
  exact ⟨rfl, rfl⟩
/-- The walk from a node on, d channels at most still allowed. -/
def walkGo (w h : Int) (br ps : List Int) (dst : Int) : Nat → List Int → Int → List Int
  | 0, _, _ => []
  | d + 1, acc, x => if rd ps (x * ncR w h + dst) = 4 then (if x = dst then acc else []) else
      if (0 ≤ rd ps (x * ncR w h + dst) ∧ rd ps (x * ncR w h + dst) ≤ 3) ∧ hasR w h br (4 * x + rd ps (x * ncR w h + dst)) = true then
        walkGo w h br ps dst d (acc ++ [4 * x + rd ps (x * ncR w h + dst)]) (nextR w h x (rd ps (x * ncR w h + dst)))
      else []
def walkR (w h : Int) (br ps : List Int) (x dst : Int) : List Int := walkGo w h br ps dst ((ncR w h).toNat + 1) [] x
theorem walkGo_zero (w h : Int) (br ps : List Int) (dst : Int) (acc : List Int) (x : Int) (hx : ¬ (rd ps (x * ncR w h + dst) = 4)) : walkGo w h br ps dst 1 acc x = [] := by
  unfold walkGo
  rw [if_neg hx]
  split <;> rfl
theorem ch_div {x p : Int} (hp : 0 ≤ p ∧ p ≤ 3) : (4 * x + p) / 4 = x ∧ (4 * x + p) % 4 = p := by omega
theorem has_next {w h : Int} {br : List Int} {x p : Int} (hp : 0 ≤ p ∧ p ≤ 3) (hh : hasR w h br (4 * x + p) = true) : nodeOk w h (nextR w h x p) := by
  unfold hasR leadsR at hh
  obtain ⟨e1, e2⟩ := ch_div (x := x) hp
  rw [e1, e2] at hh
  simp only [Bool.and_eq_true, decide_eq_true_eq] at hh
  rcases nextR_b w h x p with h1 | h1
  · rw [h1] at hh
    omega
  · exact h1

/-! ### tableR -/
def diagOk (w h : Int) (ps : List Int) : Prop := ∀ x : Nat, (x : Int) < ncR w h → rd ps ((x : Int) * ncR w h + (x : Int)) = 4
def walksOk (w h : Int) (br ps : List Int) : Prop := ∀ x y : Nat, (x : Int) < ncR w h → (y : Int) < ncR w h → x ≠ y → walkR w h br ps (x : Int) (y : Int) ≠ []
/-- A table is valid. -/
def tableOk (w h : Int) (br ps : List Int) : Prop := meshR w h br = true ∧ (ps.length : Int) = ncR w h * ncR w h ∧ diagOk w h ps ∧ walksOk w h br ps

/-! ### contains -/
theorem Index_l0 (x : Int) : ∀ (rest pre : List Int), pre.length + rest.length < 1152921504606846976 → ∃ r, Ev (fun k => slices_Index_int_int.l0 k (pre ++ rest) x ((pre ++ rest).length : Int) (pre.length : Int)) r ∧ (r ≥ 0 ↔ x ∈ rest)
  | [], pre, _ => by
    refine ⟨-1, Ev.suc ?_, by simp⟩
    simp only [slices_Index_int_int.l0]
    exact Ev.ite_neg (by simp) (Ev.now _)
  | y :: rest, pre, hl => by
    simp only [List.length_cons] at hl
    have h1 : (pre.length : Int) < ((pre ++ y :: rest).length : Int) := by simp only [List.length_append, List.length_cons]; omega
    have hw : wrap64 ((pre.length : Int) + 1) = ((pre ++ [y]).length : Int) := by rw [w64 (by omega) (by omega), len_snoc]
    obtain ⟨r, hr, hr2⟩ := Index_l0 x rest (pre ++ [y]) (by simp only [List.length_append, List.length_cons, List.length_nil]; omega)
    rw [← snoc_app pre y rest] at hr
    by_cases h : x = y
    · refine ⟨(pre.length : Int), Ev.suc ?_, by simp [h]⟩
      simp only [slices_Index_int_int.l0, rd_mid]
      exact Ev.ite_pos h1 (Ev.ite_pos (by omega) (Ev.ite_pos h1 (Ev.ite_pos h (Ev.now _))))
    · refine ⟨r, Ev.suc ?_, by simp [h, hr2]⟩
      simp only [slices_Index_int_int.l0, rd_mid, hw]
      exact Ev.ite_pos h1 (Ev.ite_pos (by omega) (Ev.ite_pos h1 (Ev.ite_neg h hr)))
theorem Contains_i (l : List Int) (x : Int) (h : l.length < 1152921504606846976) : Ev (fun k => slices_Contains_int_int.f k l x) (decide (x ∈ l)) := by
  obtain ⟨r, hr, hr2⟩ := Index_l0 x l [] (by simpa using h)
  unfold slices_Contains_int_int.f slices_Index_int_int.f
  refine Ev.bind hr (Ev.val ?_)
  rw [decide_eq_decide]
  exact hr2

/-! ### MeshOk_i -/
theorem MeshOk_i_l0 (w h : Int) : ∀ (rest pre : List Int) (y : Int), pre.length + rest.length < 1152921504606846976 → Ev (fun k => impl_MeshOk.l0 k ((pre ++ [y]) ++ rest) (((pre ++ [y]) ++ rest).length : Int) (((pre ++ [y])).length : Int) w h ((pre ++ [y]) ++ rest)) ((brR w h (some y) rest) && decide (gOk w h))
  | [], pre, y, hl => by
    refine Ev.suc ?_
    simp only [impl_MeshOk.l0]
    refine Ev.ite_neg (by simp) ?_
    exact Ev.bindS (GridOk_i w h) (Ev.val (by simp [brR]))
  | x :: rest, pre, y, hl => by
    simp only [List.length_cons] at hl
    have hp : (pre ++ [y]).length = pre.length + 1 := by simp
    have h1 : ((pre ++ [y]).length : Int) < ((pre ++ [y] ++ x :: rest).length : Int) := by simp only [List.length_append, List.length_cons, List.length_nil]; omega
    have hw : wrap64 (((pre ++ [y]).length : Int) + 1) = ((pre ++ [y] ++ [x]).length : Int) := by rw [w64 (by omega) (by omega)]; exact (len_snoc _ _).symm
    have hv : wrap64 (((pre ++ [y]).length : Int) - 1) = ((pre ++ [y]).length : Int) - 1 := w64 (by omega) (by omega)
    have e1 : rd (pre ++ [y] ++ x :: rest) (((pre ++ [y]).length : Int) - 1) = y := rd_app_last pre y (x :: rest)
    have e2 : rd (pre ++ [y] ++ x :: rest) ((pre ++ [y]).length : Int) = x := rd_mid _ _ _
    have ih := MeshOk_i_l0 w h rest (pre ++ [y]) x (by omega)
    rw [← snoc_app (pre ++ [y]) x rest] at ih
    refine Ev.suc ?_
    simp only [impl_MeshOk.l0, e1, e2, hw, hv, leads_i, Option.bind_some]
    refine Ev.ite_pos h1 (Ev.ite_pos (by omega) (Ev.ite_pos h1 (Ev.ite (fun hlx => ?_) (fun hlx => Ev.val ?_))))
    · refine Ev.ite_pos (by omega) (Ev.ite_pos (by omega) (Ev.ite_pos (by omega) (Ev.ite (fun hc => Ev.val ?_) (fun hc => Ev.eq ih ?_))))
      · have hc' : ¬ y < x := by omega
        simp [brR, hc']
      · have hc' : y < x := by omega
        simp [brR, hlx, hc']
    · simp [brR, hlx]
theorem MeshOk_i (w h : Int) (br : List Int) (hl : br.length < 1152921504606846976) : Ev (fun k => impl_MeshOk.f k w h br) (meshR w h br) := by
  unfold impl_MeshOk.f meshR
  skip
  cases br with
  | nil =>
    refine Ev.suc ?_
    simp only [impl_MeshOk.l0]
    refine Ev.ite_neg (by simp) ?_
    exact Ev.bindS (GridOk_i w h) (Ev.val (by simp [brR]))
  | cons x rest =>
    simp only [List.length_cons] at hl
    have z := MeshOk_i_l0 w h rest [] x (by simp; omega)
    have hw : wrap64 ((0 : Int) + 1) = ((([] : List Int) ++ [x]).length : Int) := by rw [w64 (by omega) (by omega)]; rfl
    have e2 : rd (x :: rest) 0 = x := rfl
    have h1 : (0 : Int) < ((x :: rest).length : Int) := by simp only [List.length_cons]; omega
    refine Ev.suc ?_
    simp only [impl_MeshOk.l0, e2, hw, leads_i, Option.bind_some]
    refine Ev.ite_pos h1 (Ev.ite_pos (by omega) (Ev.ite_pos h1 (Ev.ite (fun hlx => Ev.ite_neg (by omega) (Ev.eq z ?_)) (fun hlx => Ev.val ?_))))
    · rw [Bool.and_comm]; simp [brR, hlx]
    · simp [brR, hlx]

/-! ### hasCh_i -/
theorem HasChannel_i (w h : Int) (br : List Int) (c : Int) (hl : br.length < 1152921504606846976) : Ev (fun k => impl_HasChannel.f k w h br c) (meshR w h br && hasR w h br c) := by
  unfold impl_HasChannel.f hasR
  refine Ev.bind (MeshOk_i w h br hl) (Ev.ite (fun h0 => ?_) (fun h0 => Ev.val (by simp [h0])))
  refine Ev.bindS (leads_i w h c) (Ev.ite (fun h1 => ?_) (fun h1 => Ev.val (by simp [h1])))
  exact Ev.bind (Contains_i br c hl) (Ev.val (by simp [h0, h1]))

/-! ### walk_i -/
theorem PortAt_i (w h : Int) (br ps : List Int) (x dst : Int) (hbr : br.length < 1152921504606846976) (hm : meshR w h br = true) (hps : (ps.length : Int) = ncR w h * ncR w h) (hx : nodeOk w h x) (hd : nodeOk w h dst) :
    Ev (fun k => impl_PortAt.f k w h br ps x dst) (if 0 ≤ rd ps (x * ncR w h + dst) ∧ rd ps (x * ncR w h + dst) ≤ 4 then rd ps (x * ncR w h + dst) else -1) := by
  have hn := ncR_b w h
  have hb := idx_b hn hx hd
  obtain ⟨e1, e2⟩ := idx_w hn hx hd
  have hin1 : 0 ≤ x * ncR w h + dst := by
    have := hd.1
    omega
  have hin2 : x * ncR w h + dst < (ps.length : Int) := by
    rw [hps]
    exact hb.2.2.1
  have e3 : wrap64 (ncR w h - 1) = ncR w h - 1 := w64 (by omega) (by omega)
  unfold impl_PortAt.f
  refine Ev.bindS (NodeCount_i w h) (Ev.bind (MeshOk_i w h br hbr) (Ev.ite_pos hm ?_))
  simp only [inside_f, e1, e2, e3, Option.bind_some, decide_eq_true_eq]
  refine Ev.ite_pos hx (Ev.ite_pos hd (Ev.ite_pos hps (Ev.ite_pos hin1 (Ev.ite_pos hin2 (Ev.ite (fun hp => Ev.val ?_) (fun hp => Ev.val ?_))))))
  · rw [if_pos hp]
  · rw [if_neg hp]
theorem endOf_i (w h : Int) (br : List Int) (x p : Int) (hx : 0 ≤ x ∧ x ≤ 15) (hp : 0 ≤ p ∧ p ≤ 3) : impl_endOf.f w h br (4 * x + p) = some (nextR w h x p) := by
  obtain ⟨e1, e2⟩ := ch_div (x := x) hp
  unfold impl_endOf.f
  rw [Int.tdiv_eq_ediv_of_nonneg (by omega), Int.tmod_eq_emod_of_nonneg (by omega), e1, e2, w64 (x := x) (by omega) (by omega), NextNode_i]
  rfl
theorem WalkTable_l0 (w h : Int) (br ps : List Int) (dst : Int) (hbr : br.length < 1152921504606846976) (hm : meshR w h br = true) (hps : (ps.length : Int) = ncR w h * ncR w h) (hd : nodeOk w h dst) : ∀ (d : Nat) (acc : List Int) (x : Int), nodeOk w h x → (acc.length : Int) + d = ncR w h →
    Ev (fun k => impl_WalkTable.l0 k dst acc x w h br ps) (walkGo w h br ps dst (d + 1) acc x)
  | d, acc, x, hx, hl => by
    have hn := ncR_b w h
    have hx15 : 0 ≤ x ∧ x ≤ 15 := ⟨hx.1, by have := hx.2; omega⟩
    refine Ev.suc ?_
    simp only [impl_WalkTable.l0]
    refine Ev.bind (PortAt_i w h br ps x dst hbr hm hps hx hd) ?_
    have hz := walkGo_zero w h br ps dst acc x
    unfold walkGo
    have hacc : acc.length < 17592186044416 := by omega
    generalize rd ps (x * ncR w h + dst) = p at *
    by_cases h4 : p = 4
    · subst h4
      simp only [show (0 : Int) ≤ 4 ∧ (4 : Int) ≤ 4 from by omega, and_self, if_true]
      refine Ev.ite_neg (by omega) (Ev.ite (fun h5 => Ev.val ?_) (fun h5 => Ev.val ?_))
      · rw [if_pos h5]
      · rw [if_neg h5]
    · rw [if_neg h4]
      by_cases hp : 0 ≤ p ∧ p ≤ 3
      · have e3 : wrap64 (wrap64 (4 * x) + p) = 4 * x + p := by rw [w64 (x := 4 * x) (by omega) (by omega), w64 (by omega) (by omega)]
        rw [if_pos (show 0 ≤ p ∧ p ≤ 4 by omega)]
        simp only [e3]
        refine Ev.ite_neg (by omega) (Ev.ite_neg h4 (Ev.bind (HasChannel_i w h br (4 * x + p) hbr) ?_))
        rw [hm, Bool.true_and]
        refine Ev.ite (fun hh => Ev.bindS (NodeCount_i w h) ?_) (fun hh => Ev.val ?_)
        · rw [if_pos ⟨hp, hh⟩]
          cases d with
          | zero => exact Ev.ite_pos (by omega) (Ev.val rfl)
          | succ d =>
            refine Ev.ite_neg (by omega) (Ev.ite_pos hacc (Ev.bindS (endOf_i w h br x p hx15 hp) ?_))
            exact WalkTable_l0 w h br ps dst hbr hm hps hd d _ _ (has_next hp hh) (by simp only [List.length_append, List.length_cons, List.length_nil]; omega)
        · rw [if_neg (fun z => hh z.2)]
      · rw [if_neg (show ¬ (0 ≤ p ∧ p ≤ 4) by omega), if_neg (show ¬ ((0 ≤ p ∧ p ≤ 3) ∧ hasR w h br (4 * x + p) = true) from fun z => hp z.1)]
        exact Ev.ite_pos (by omega) (Ev.now _)
theorem WalkTable_i (w h : Int) (br ps : List Int) (x dst : Int) (hbr : br.length < 1152921504606846976) (hm : meshR w h br = true) (hps : (ps.length : Int) = ncR w h * ncR w h) (hx : nodeOk w h x) (hd : nodeOk w h dst) (hne : ¬ x = dst) :
    Ev (fun k => impl_WalkTable.f k w h br ps x dst) (walkR w h br ps x dst) := by
  unfold impl_WalkTable.f walkR
  have hn := ncR_b w h
  refine Ev.ite_neg hne (Ev.bind (MeshOk_i w h br hbr) (Ev.ite_pos hm ?_))
  simp only [isNode_i, Option.bind_some, decide_eq_true hx, decide_eq_true hd]
  refine Ev.ite_pos trivial ?_
  refine Ev.suc ?_
  simp only [impl_WalkTable.j0]
  refine Ev.ite_neg (by simp) ?_
  exact WalkTable_l0 w h br ps dst hbr hm hps hd _ [] x hx (by simp only [List.length_nil]; omega)

/-! ### TableOk_i -/
theorem TableOk_v (w h : Int) (br ps : List Int) (x y : Int) (hbr : br.length < 1152921504606846976) (hm : meshR w h br = true) (hps : (ps.length : Int) = ncR w h * ncR w h) (hx : nodeOk w h x) (hy : nodeOk w h y) (hne : ¬ x = y) :
    Ev (fun k => impl_TableOk.v k w h br ps x y) (decide (walkR w h br ps x y ≠ [])) := by
  unfold impl_TableOk.v
  refine Ev.bind (WalkTable_i w h br ps x y hbr hm hps hx hy hne) (Ev.val ?_)
  rw [decide_eq_decide]
  cases walkR w h br ps x y with
  | nil => simp
  | cons a l => simp
/-- One row of pairs, then what follows. -/
theorem TableOk_l2 (w h : Int) (br ps : List Int) (hbr : br.length < 1152921504606846976) (hm : meshR w h br = true) (hps : (ps.length : Int) = ncR w h * ncR w h) (n : Nat) (hn : (n : Int) = ncR w h) (x : Nat) (hx : x < n) (P : Prop)
    (hR : ∃ b, Ev (fun k => impl_TableOk.l1 k w h br ps (n : Int) ((x + 1 : Nat) : Int)) b ∧ (b = true ↔ P)) : ∀ (d y : Nat), y + d = n →
    ∃ b, Ev (fun k => impl_TableOk.l2 k w h br ps (n : Int) (x : Int) (y : Int)) b ∧ (b = true ↔ (∀ y' : Nat, y ≤ y' → y' < n → x ≠ y' → walkR w h br ps (x : Int) (y' : Int) ≠ []) ∧ P)
  | 0, y, hd => by
    obtain ⟨b, hb, hb2⟩ := hR
    have hnb := ncR_b w h
    refine ⟨b, Ev.suc ?_, ?_⟩
    · simp only [impl_TableOk.l2]
      refine Ev.ite_neg (by omega) ?_
      have e : wrap64 ((x : Int) + 1) = ((x + 1 : Nat) : Int) := by rw [w64 (by omega) (by omega)]; omega
      rw [e]
      exact hb
    · rw [hb2]
      exact ⟨fun hp => ⟨fun y' h1 h2 => absurd h2 (by omega), hp⟩, fun hp => hp.2⟩
  | d + 1, y, hd => by
    obtain ⟨b, hb, hb2⟩ := TableOk_l2 w h br ps hbr hm hps n hn x hx P hR d (y + 1) (by omega)
    have hnb := ncR_b w h
    have e : wrap64 ((y : Int) + 1) = ((y + 1 : Nat) : Int) := by rw [w64 (by omega) (by omega)]; omega
    by_cases hxy : x = y
    · refine ⟨b, Ev.suc ?_, ?_⟩
      · simp only [impl_TableOk.l2, e]
        exact Ev.ite_pos (by omega) (Ev.ite_pos (by omega) hb)
      · rw [hb2]
        refine ⟨fun hp => ⟨fun y' h1 h2 h3 => hp.1 y' (by omega) h2 h3, hp.2⟩, fun hp => ⟨fun y' h1 h2 h3 => hp.1 y' (by omega) h2 h3, hp.2⟩⟩
    · have hv := TableOk_v w h br ps (x : Int) (y : Int) hbr hm hps ⟨by omega, by omega⟩ ⟨by omega, by omega⟩ (by omega)
      by_cases hw : walkR w h br ps (x : Int) (y : Int) = []
      · refine ⟨false, Ev.suc ?_, ?_⟩
        · simp only [impl_TableOk.l2, e]
          refine Ev.ite_pos (by omega) (Ev.ite_neg (by omega) (Ev.bind hv (Ev.ite_neg (by simp [hw]) (Ev.now _))))
        · refine ⟨fun z => absurd z Bool.false_ne_true, fun hp => absurd hw (hp.1 y (Nat.le_refl _) (by omega) hxy)⟩
      · refine ⟨b, Ev.suc ?_, ?_⟩
        · simp only [impl_TableOk.l2, e]
          exact Ev.ite_pos (by omega) (Ev.ite_neg (by omega) (Ev.bind hv (Ev.ite_pos (by simp [hw]) hb)))
        · rw [hb2]
          refine ⟨fun hp => ⟨fun y' h1 h2 h3 => ?_, hp.2⟩, fun hp => ⟨fun y' h1 h2 h3 => hp.1 y' (by omega) h2 h3, hp.2⟩⟩
          by_cases hy : y' = y
          · rw [hy]
            exact hw
          · exact hp.1 y' (by omega) h2 h3
theorem TableOk_l1 (w h : Int) (br ps : List Int) (hbr : br.length < 1152921504606846976) (hm : meshR w h br = true) (hps : (ps.length : Int) = ncR w h * ncR w h) (n : Nat) (hn : (n : Int) = ncR w h) : ∀ (d x : Nat), x + d = n →
    ∃ b, Ev (fun k => impl_TableOk.l1 k w h br ps (n : Int) (x : Int)) b ∧ (b = true ↔ ∀ x' y' : Nat, x ≤ x' → x' < n → y' < n → x' ≠ y' → walkR w h br ps (x' : Int) (y' : Int) ≠ [])
  | 0, x, hd => by
    refine ⟨true, Ev.suc ?_, ?_⟩
    · simp only [impl_TableOk.l1]
      exact Ev.ite_neg (by omega) (Ev.now _)
    · exact ⟨fun _ x' y' h1 h2 => absurd h2 (by omega), fun _ => rfl⟩
  | d + 1, x, hd => by
    obtain ⟨b, hb, hb2⟩ := TableOk_l2 w h br ps hbr hm hps n hn x (by omega) _ (TableOk_l1 w h br ps hbr hm hps n hn d (x + 1) (by omega)) n 0 (by omega)
    refine ⟨b, Ev.suc ?_, ?_⟩
    · simp only [impl_TableOk.l1]
      exact Ev.ite_pos (by omega) hb
    · rw [hb2]
      refine ⟨fun hp x' y' h1 h2 h3 h4 => ?_, fun hp => ⟨fun y' h1 h2 h3 => hp x y' (Nat.le_refl _) (by omega) h2 h3, fun x' y' h1 h2 h3 h4 => hp x' y' (by omega) h2 h3 h4⟩⟩
      by_cases hx : x' = x
      · subst hx
        exact hp.1 y' (Nat.zero_le _) h3 h4
      · exact hp.2 x' y' (by omega) h2 h3 h4
theorem TableOk_l0 (w h : Int) (br ps : List Int) (hbr : br.length < 1152921504606846976) (hm : meshR w h br = true) (hps : (ps.length : Int) = ncR w h * ncR w h) (n : Nat) (hn : (n : Int) = ncR w h) : ∀ (d x : Nat), x + d = n →
    ∃ b, Ev (fun k => impl_TableOk.l0 k w h br ps (n : Int) (x : Int)) b ∧ (b = true ↔ (∀ x' : Nat, x ≤ x' → x' < n → rd ps ((x' : Int) * ncR w h + (x' : Int)) = 4) ∧ walksOk w h br ps)
  | 0, x, hd => by
    obtain ⟨b, hb, hb2⟩ := TableOk_l1 w h br ps hbr hm hps n hn n 0 (by omega)
    refine ⟨b, Ev.suc ?_, ?_⟩
    · simp only [impl_TableOk.l0]
      refine Ev.ite_neg (by omega) ?_
      unfold impl_TableOk.ps
      refine Ev.bindS (NodeCount_i w h) ?_
      rw [← hn]
      exact hb
    · rw [hb2]
      unfold walksOk
      rw [← hn]
      exact ⟨fun hp => ⟨fun x' h1 h2 => absurd h2 (by omega), fun x' y' h1 h2 h3 => hp x' y' (Nat.zero_le _) (by omega) (by omega) h3⟩, fun hp x' y' _ h2 h3 h4 => hp.2 x' y' (by omega) (by omega) h4⟩
  | d + 1, x, hd => by
    obtain ⟨b, hb, hb2⟩ := TableOk_l0 w h br ps hbr hm hps n hn d (x + 1) (by omega)
    have hnb := ncR_b w h
    have hxn : 0 ≤ (x : Int) ∧ (x : Int) ≤ ncR w h - 1 := by omega
    have e : wrap64 ((x : Int) + 1) = ((x + 1 : Nat) : Int) := by rw [w64 (by omega) (by omega)]; omega
    have hi := idx_b hnb hxn hxn
    have hi0 : 0 ≤ (x : Int) * ncR w h + (x : Int) := by omega
    have hi1 : (x : Int) * ncR w h + (x : Int) < (ps.length : Int) := by
      rw [hps]
      exact hi.2.2.1
    have ew := (idx_w hnb hxn hxn).1
    have hlt : (x : Int) < (n : Int) := by omega
    by_cases h4 : rd ps ((x : Int) * ncR w h + (x : Int)) = 4
    · refine ⟨b, Ev.suc ?_, ?_⟩
      · rw [hn] at hb hlt ⊢
        simp only [impl_TableOk.l0, ew, e]
        exact Ev.ite_pos hlt (Ev.ite_pos hi0 (Ev.ite_pos hi1 (Ev.ite_pos h4 hb)))
      · rw [hb2]
        clear hi hi0 hi1 ew
        refine ⟨fun hp => ⟨fun x' h1 h2 => ?_, hp.2⟩, fun hp => ⟨fun x' h1 h2 => hp.1 x' (by omega) h2, hp.2⟩⟩
        by_cases hx : x' = x
        · rw [hx]
          exact h4
        · exact hp.1 x' (by omega) h2
    · refine ⟨false, Ev.suc ?_, ?_⟩
      · rw [hn] at hlt ⊢
        simp only [impl_TableOk.l0, ew, e]
        exact Ev.ite_pos hlt (Ev.ite_pos hi0 (Ev.ite_pos hi1 (Ev.ite_neg h4 (Ev.now _))))
      · exact ⟨fun z => absurd z Bool.false_ne_true, fun hp => absurd (hp.1 x (Nat.le_refl _) (by omega)) h4⟩
theorem TableOk_i (w h : Int) (br ps : List Int) (hbr : br.length < 1152921504606846976) : ∃ b, Ev (fun k => impl_TableOk.f k w h br ps) b ∧ (b = true ↔ tableOk w h br ps) := by
  have hnb := ncR_b w h
  unfold impl_TableOk.f tableOk
  by_cases hm : meshR w h br = true
  · have hsq : wrap64 (ncR w h * ncR w h) = ncR w h * ncR w h := by
      have h3 : ncR w h * ncR w h ≤ 16 * ncR w h := Int.mul_le_mul_of_nonneg_right hnb.2 hnb.1
      have h4 : 0 ≤ ncR w h * ncR w h := Int.mul_nonneg hnb.1 hnb.1
      generalize ncR w h * ncR w h = q at *
      exact w64 (by omega) (by omega)
    by_cases hps : (ps.length : Int) = ncR w h * ncR w h
    · obtain ⟨n, hn⟩ : ∃ n : Nat, (n : Int) = ncR w h := ⟨(ncR w h).toNat, by omega⟩
      obtain ⟨b, hb, hb2⟩ := TableOk_l0 w h br ps hbr hm hps n hn n 0 (by omega)
      refine ⟨b, ?_, ?_⟩
      · refine Ev.bindS (NodeCount_i w h) (Ev.bind (MeshOk_i w h br hbr) (Ev.ite_pos hm (Ev.ite_pos (by rw [hsq]; exact hps) ?_)))
        rw [← hn]
        exact hb
      · rw [hb2]
        unfold diagOk
        exact ⟨fun hp => ⟨hm, hps, fun x hx => hp.1 x (Nat.zero_le _) (by omega), hp.2⟩, fun hp => ⟨fun x _ hx => hp.2.2.1 x (by omega), hp.2.2.2⟩⟩
    · refine ⟨false, ?_, ⟨fun z => absurd z Bool.false_ne_true, fun hp => absurd hp.2.1 hps⟩⟩
      exact Ev.bindS (NodeCount_i w h) (Ev.bind (MeshOk_i w h br hbr) (Ev.ite_pos hm (Ev.ite_neg (by rw [hsq]; exact hps) (Ev.now _))))
  · refine ⟨false, ?_, ⟨fun z => absurd z Bool.false_ne_true, fun hp => absurd hp.1 hm⟩⟩
    exact Ev.bindS (NodeCount_i w h) (Ev.bind (MeshOk_i w h br hbr) (Ev.ite_neg hm (Ev.now _)))

/-! ### clsL -/
def clsL (c : Int) : List S112 → List S112
  | [] => []
  | x :: l => if x.f2 = c then x :: clsL c l else clsL c l
theorem clsL_len (c : Int) : ∀ l : List S112, (clsL c l).length ≤ l.length
  | [] => Nat.le_refl _
  | x :: l => by
    have := clsL_len c l
    unfold clsL
    split
    · simp only [List.length_cons]
      omega
    · simp only [List.length_cons]
      omega

/-! ### netB -/
abbrev Fl := S112
def flB (w h : Int) (l : List Fl) : Bool := l.all fun x => decide (nodeOk w h x.f1) && decide (0 ≤ x.f2 ∧ x.f2 ≤ 1)
def clB (c : Int) (l : List Fl) : Bool := l.all fun x => decide (x.f2 = c)
def srcB (w h : Int) (l : List (List Fl)) : Bool := l.all fun b => decide (b.length ≤ 60) && flB w h b
def rgB (lo hi : Int) (l : List Int) : Bool := l.all fun x => decide (lo ≤ x ∧ x ≤ hi)
def bufI (w h : Int) : Nat → List (List Fl) → Bool
  | _, [] => true
  | i, b :: r => (decide (b.length ≤ 3) && (clB (Int.tmod (i : Int) 2) b && flB w h b)) && bufI w h (i + 1) r
def bufS (w h : Int) : Nat → List (List Fl) → List Int → Bool
  | i, b :: r, o :: os => (decide (b.length ≤ 3) && (flB w h b && (decide (-1 ≤ o ∧ o ≤ 4) && clB (Int.tmod (i : Int) 2) b))) && bufS w h (i + 1) r os
  | _, _, _ => true
theorem bufS_eq (w h : Int) : ∀ (B : List (List Fl)) (O : List Int) (i : Nat), B.length = O.length → bufS w h i B O = (bufI w h i B && rgB (-1) 4 O)
  | [], [], _, _ => rfl
  | [], _ :: _, _, h => by simp at h
  | _ :: _, [], _, h => by simp at h
  | b :: r, o :: os, i, hl => by
    have ih := bufS_eq w h r os (i + 1) (by simpa using hl)
    unfold bufS bufI
    rw [ih]
    simp only [rgB, List.all_cons]
    cases decide (b.length ≤ 3) <;> cases flB w h b <;> cases decide (-1 ≤ o ∧ o ≤ 4) <;> cases clB (Int.tmod (i : Int) 2) b <;> simp
theorem clsL_all (c : Int) : ∀ l : List Fl, ((clsL c l).length = l.length) ↔ clB c l = true
  | [] => by simp [clsL, clB]
  | x :: l => by
    have ih := clsL_all c l
    have hl := clsL_len c l
    unfold clsL
    by_cases h : x.f2 = c
    · rw [if_pos h]
      simp only [List.length_cons, clB, List.all_cons, h, decide_true, Bool.true_and, Nat.add_right_cancel_iff]
      exact ih
    · rw [if_neg h]
      simp only [List.length_cons, clB, List.all_cons, h, decide_false, Bool.false_and]
      exact ⟨fun z => by omega, fun z => absurd z Bool.false_ne_true⟩

/-! ### netR -/
def clsOk (w h : Int) (br p q : List Int) : Prop := tableOk w h br p ∧ tableOk w h br q
/-- What of a network is told behind the tables. -/
def restOk (w h : Int) (B : List (List Fl)) (O T : List Int) (C A : List (List Fl)) (t : Int) : Prop :=
  ((B.length : Int) = 10 * ncR w h ∧ (O.length : Int) = 10 * ncR w h ∧ (T.length : Int) = 5 * ncR w h ∧ (C.length : Int) = ncR w h ∧ (A.length : Int) = ncR w h) ∧ (bufI w h 0 B && (srcB w h C && (rgB (-1) 4 O && (rgB 0 9 T && decide (0 ≤ t ∧ t ≤ 1000000))))) = true
def netOk (w h : Int) (br p q : List Int) (B : List (List Fl)) (O T : List Int) (C A : List (List Fl)) (t : Int) : Prop := clsOk w h br p q ∧ restOk w h B O T C A t

/-! ### ClassesOk_i -/
theorem ClassesOk_i (w h : Int) (br p q : List Int) (hbr : br.length < 1152921504606846976) : ∃ b, Ev (fun k => impl_ClassesOk.f k w h br p q) b ∧ (b = true ↔ clsOk w h br p q) := by
  obtain ⟨b, hb, hb2⟩ := TableOk_i w h br p hbr
  obtain ⟨c, hc, hc2⟩ := TableOk_i w h br q hbr
  unfold impl_ClassesOk.f clsOk
  by_cases h : b = true
  · exact ⟨c, Ev.bind hb (Ev.ite_pos h (Ev.bind hc (Ev.now _))), by rw [hc2]; exact ⟨fun z => ⟨hb2.1 h, z⟩, fun z => z.2⟩⟩
  · exact ⟨false, Ev.bind hb (Ev.ite_neg h (Ev.now _)), ⟨fun z => absurd z Bool.false_ne_true, fun z => absurd (hb2.2 z.1) h⟩⟩

/-! ### flits_i -/
theorem areFlits_l0 (w h : Int) : ∀ (rest pre : List Fl), pre.length + rest.length ≤ 1048576 → Ev (fun k => impl_areFlits.l0 k (pre ++ rest) ((pre ++ rest).length : Int) (pre.length : Int) w h) (flB w h rest)
  | [], pre, hl => by
    refine Ev.suc ?_
    simp only [impl_areFlits.l0]
    exact Ev.ite_neg (by simp) (Ev.val (by simp [flB]))
  | x :: rest, pre, hl => by
    simp only [List.length_cons] at hl
    have h1 : (pre.length : Int) < ((pre ++ x :: rest).length : Int) := by simp only [List.length_append, List.length_cons]; omega
    have hw : wrap64 ((pre.length : Int) + 1) = ((pre ++ [x]).length : Int) := by rw [w64 (by omega) (by omega), len_snoc]
    have ih := areFlits_l0 w h rest (pre ++ [x]) (by simp only [List.length_append, List.length_cons, List.length_nil]; omega)
    rw [← snoc_app pre x rest] at ih
    refine Ev.suc ?_
    simp only [impl_areFlits.l0, rdI_Flit, isNode_i, inside_f, Option.bind_some, decide_eq_true_eq, hw]
    refine Ev.ite_pos h1 (Ev.ite_pos (by omega) (Ev.ite_pos h1 (Ev.ite (fun a => Ev.ite (fun b => Ev.eq ih ?_) (fun b => Ev.val ?_)) (fun a => Ev.val ?_))))
    · simp [flB, a, b]
    · simp [flB, b]
    · simp [flB, a]
theorem areFlits_f (w h : Int) (l : List Fl) (hl : l.length ≤ 1048576) : Ev (fun k => impl_areFlits.f k w h l) (flB w h l) := by
  unfold impl_areFlits.f
  exact areFlits_l0 w h l [] (by simpa using hl)

/-! ### ClassOnly_i -/
theorem ClassOnly_i_l0 (c : Int) : ∀ (rest pre acc : List S112), acc.length ≤ pre.length → pre.length + rest.length ≤ 1048576 →
    Ev (fun k => impl_ClassOnly.l0 k c acc (pre ++ rest) ((pre ++ rest).length : Int) (pre.length : Int)) (acc ++ clsL c rest)
  | [], pre, acc, ha, hl => by
    refine Ev.suc ?_
    simp only [impl_ClassOnly.l0]
    exact Ev.ite_neg (by simp) (Ev.val (by simp [clsL]))
  | x :: rest, pre, acc, ha, hl => by
    simp only [List.length_cons] at hl
    have h1 : (pre.length : Int) < ((pre ++ x :: rest).length : Int) := by simp only [List.length_append, List.length_cons]; omega
    have hw : wrap64 ((pre.length : Int) + 1) = ((pre ++ [x]).length : Int) := by rw [w64 (by omega) (by omega), len_snoc]
    have ih := fun acc' h' => ClassOnly_i_l0 c rest (pre ++ [x]) acc' h' (by simp only [List.length_append, List.length_cons, List.length_nil]; omega)
    rw [← snoc_app pre x rest] at ih
    refine Ev.suc ?_
    simp only [impl_ClassOnly.l0, rdI_Flit, hw]
    refine Ev.ite_pos h1 (Ev.ite_pos (by omega) (Ev.ite_pos h1 (Ev.ite (fun h => Ev.ite_pos (by omega) ?_) (fun h => ?_))))
    · refine Ev.eq (ih (acc ++ [x]) (by simp; omega)) ?_
      simp [clsL, h]
    · refine Ev.eq (ih acc (by simp; omega)) ?_
      simp [clsL, h]
theorem ClassOnly_i (l : List S112) (c : Int) (h : l.length ≤ 1048576) : Ev (fun k => impl_ClassOnly.f k l c) (clsL c l) := by
  unfold impl_ClassOnly.f
  exact ClassOnly_i_l0 c l [] [] (Nat.le_refl _) (by simpa using h)

/-! ### areInside -/
theorem areInside_l0 (lo hi : Int) : ∀ (rest pre : List Int), pre.length + rest.length ≤ 1152921504606846976 →
    Ev (fun k => impl_areInside.l0 k lo hi (pre ++ rest) ((pre ++ rest).length : Int) (pre.length : Int)) (decide (∀ x ∈ rest, lo ≤ x ∧ x ≤ hi))
  | [], pre, _ => by
    refine Ev.suc ?_
    simp only [impl_areInside.l0]
    refine Ev.ite_neg (by simp) (Ev.val (by simp))
  | x :: rest, pre, hl => by
    simp only [List.length_cons] at hl
    have h1 : (pre.length : Int) < ((pre ++ x :: rest).length : Int) := by simp only [List.length_append, List.length_cons]; omega
    have hw : wrap64 ((pre.length : Int) + 1) = ((pre ++ [x]).length : Int) := by rw [w64 (by omega) (by omega), len_snoc]
    have ih := areInside_l0 lo hi rest (pre ++ [x]) (by simp only [List.length_append, List.length_cons, List.length_nil]; omega)
    refine Ev.suc ?_
    simp only [impl_areInside.l0, rd_mid, inside_f, Option.bind_some, decide_eq_true_eq, hw]
    refine Ev.ite_pos h1 (Ev.ite_pos (by omega) (Ev.ite_pos h1 ?_))
    refine Ev.ite (fun hx => ?_) (fun hx => Ev.val ?_)
    · rw [snoc_app pre x rest]
      refine Ev.eq ih ?_
      rw [decide_eq_decide]
      simp [hx]
    · symm
      rw [decide_eq_false_iff_not]
      intro h
      exact hx (h x List.mem_cons_self)
theorem areInside_f (l : List Int) (lo hi : Int) (h : l.length ≤ 1152921504606846976) : Ev (fun k => impl_areInside.f k l lo hi) (decide (∀ x ∈ l, lo ≤ x ∧ x ≤ hi)) := by
  unfold impl_areInside.f
  exact areInside_l0 lo hi l [] (by simpa using h)

/-! ### NetOk_i -/
theorem areInside_rg (l : List Int) (lo hi : Int) (h : l.length ≤ 1048576) : Ev (fun k => impl_areInside.f k l lo hi) (rgB lo hi l) := by
  refine Ev.eq (areInside_f l lo hi (by omega)) ?_
  rw [Bool.eq_iff_iff]
  simp [rgB]
theorem NetOk_i_l1 (w h : Int) (br p q : List Int) (B : List (List Fl)) (O T : List Int) (C A : List (List Fl)) (t : Int) (hO : O.length ≤ 1048576) (hT : T.length ≤ 1048576) : ∀ (rest pre : List (List Fl)), pre.length + rest.length ≤ 1048576 → (∀ x ∈ rest, x.length ≤ 1048576) →
    Ev (fun k => impl_NetOk.l1 k (pre ++ rest) ((pre ++ rest).length : Int) (pre.length : Int) w h br p q B O T C A t) (srcB w h rest && (rgB (-1) 4 O && (rgB 0 9 T && decide (0 ≤ t ∧ t ≤ 1000000))))
  | [], pre, hl, hx => by
    refine Ev.suc ?_
    simp only [impl_NetOk.l1, inside_f, Option.bind_some]
    refine Ev.ite_neg (by simp) (Ev.bind (areInside_rg O (-1) 4 hO) ?_)
    refine Ev.ite (fun a => Ev.bind (areInside_rg T 0 9 hT) (Ev.ite (fun b => Ev.val ?_) (fun b => Ev.val ?_))) (fun a => Ev.val ?_)
    · simp [srcB, a, b]
    · simp [srcB, b]
    · simp [srcB, a]
  | x :: rest, pre, hl, hx => by
    simp only [List.length_cons] at hl
    have h1 : (pre.length : Int) < ((pre ++ x :: rest).length : Int) := by simp only [List.length_append, List.length_cons]; omega
    have hw : wrap64 ((pre.length : Int) + 1) = ((pre ++ [x]).length : Int) := by rw [w64 (by omega) (by omega), len_snoc]
    have ih := NetOk_i_l1 w h br p q B O T C A t hO hT rest (pre ++ [x]) (by simp only [List.length_append, List.length_cons, List.length_nil]; omega) (fun y hy => hx y (List.mem_cons_of_mem _ hy))
    rw [← snoc_app pre x rest] at ih
    have hx0 := hx x List.mem_cons_self
    refine Ev.suc ?_
    simp only [impl_NetOk.l1, rdI_FlitSS, hw]
    refine Ev.ite_pos h1 (Ev.ite_pos (by omega) (Ev.ite_pos h1 (Ev.ite (fun a => Ev.val ?_) (fun a => Ev.bind (areFlits_f w h x hx0) (Ev.ite (fun b => Ev.eq ih ?_) (fun b => Ev.val ?_))))))
    · have : ¬ x.length ≤ 60 := by omega
      simp [srcB, this]
    · have : x.length ≤ 60 := by omega
      simp [srcB, this, b]
    · simp [srcB, b]
theorem NetOk_i_l0 (w h : Int) (br p q : List Int) (B : List (List Fl)) (O T : List Int) (C A : List (List Fl)) (t : Int) (R : Bool) (hR : Ev (fun k => impl_NetOk.l1 k C (C.length : Int) 0 w h br p q B O T C A t) R) : ∀ (rest pre : List (List Fl)), pre.length + rest.length ≤ 1048576 → (∀ x ∈ rest, x.length ≤ 1048576) →
    Ev (fun k => impl_NetOk.l0 k (pre ++ rest) ((pre ++ rest).length : Int) (pre.length : Int) w h br p q B O T C A t) (bufI w h pre.length rest && R)
  | [], pre, hl, hx => by
    refine Ev.suc ?_
    simp only [impl_NetOk.l0]
    exact Ev.ite_neg (by simp) (Ev.eq hR (by simp [bufI]))
  | x :: rest, pre, hl, hx => by
    simp only [List.length_cons] at hl
    have h1 : (pre.length : Int) < ((pre ++ x :: rest).length : Int) := by simp only [List.length_append, List.length_cons]; omega
    have hw : wrap64 ((pre.length : Int) + 1) = ((pre ++ [x]).length : Int) := by rw [w64 (by omega) (by omega), len_snoc]
    have ih := NetOk_i_l0 w h br p q B O T C A t R hR rest (pre ++ [x]) (by simp only [List.length_append, List.length_cons, List.length_nil]; omega) (fun y hy => hx y (List.mem_cons_of_mem _ hy))
    rw [← snoc_app pre x rest] at ih
    have hx0 := hx x List.mem_cons_self
    have hcl := clsL_all (Int.tmod (pre.length : Int) 2) x
    have hlen : (pre ++ [x]).length = pre.length + 1 := by simp
    rw [hlen] at ih
    refine Ev.suc ?_
    simp only [impl_NetOk.l0, rdI_FlitSS, hw]
    rw [len_snoc]
    refine Ev.ite_pos h1 (Ev.ite_pos (by omega) (Ev.ite_pos h1 (Ev.ite (fun a => Ev.val ?_) (fun a => Ev.bind (ClassOnly_i x (Int.tmod (pre.length : Int) 2) hx0) (Ev.ite (fun c => Ev.bind (areFlits_f w h x hx0) (Ev.ite (fun b => Ev.eq ih ?_) (fun b => Ev.val ?_))) (fun c => Ev.val ?_))))))
    · have : ¬ x.length ≤ 3 := by omega
      simp [bufI, this]
    · have h3 : x.length ≤ 3 := by omega
      have h4 := hcl.1 (by omega)
      simp [bufI, h3, h4, b]
    · simp [bufI, b]
    · have h4 : ¬ clB (Int.tmod (pre.length : Int) 2) x = true := fun z => c (by have := hcl.2 z; omega)
      simp [bufI, h4]
theorem NetOk_i (w h : Int) (br p q : List Int) (B : List (List Fl)) (O T : List Int) (C A : List (List Fl)) (t : Int) (hbr : br.length ≤ 1048576) (hB : B.length ≤ 1048576 ∧ slen B ≤ 1048576) (hO : O.length ≤ 1048576) (hT : T.length ≤ 1048576) (hC : C.length ≤ 1048576 ∧ slen C ≤ 1048576) :
    ∃ b, Ev (fun k => impl_NetOk.f k w h br p q B O T C A t) b ∧ (b = true ↔ netOk w h br p q B O T C A t) := by
  obtain ⟨b, hb, hb2⟩ := ClassesOk_i w h br p q (by omega)
  have hn := ncR_b w h
  have w10 : wrap64 (10 * ncR w h) = 10 * ncR w h := w64 (by omega) (by omega)
  have w5 : wrap64 (5 * ncR w h) = 5 * ncR w h := w64 (by omega) (by omega)
  have e1 := NetOk_i_l1 w h br p q B O T C A t hO hT C [] (by simp; omega) (fun x hm => by have := slen_mem C x hm; omega)
  have e0 := NetOk_i_l0 w h br p q B O T C A t _ e1 B [] (by simp; omega) (fun x hm => by have := slen_mem B x hm; omega)
  have ef : Ev (fun k => impl_NetOk.j0 k true w h br p q B O T C A t) false := by
    refine Ev.suc ?_
    simp only [impl_NetOk.j0]
    exact Ev.ite_pos trivial (Ev.now _)
  unfold netOk restOk
  have no : ∀ (c : Prop), ¬ c → (false = true ↔ c) := fun c hc => ⟨fun z => absurd z Bool.false_ne_true, fun z => absurd z hc⟩
  by_cases c0 : b = true
  · by_cases cB : (B.length : Int) = 10 * ncR w h
    · by_cases cO : (O.length : Int) = 10 * ncR w h
      · by_cases cT : (T.length : Int) = 5 * ncR w h
        · by_cases cC : (C.length : Int) = ncR w h
          · by_cases cA : (A.length : Int) = ncR w h
            · refine ⟨bufI w h 0 B && (srcB w h C && (rgB (-1) 4 O && (rgB 0 9 T && decide (0 ≤ t ∧ t ≤ 1000000)))), ?_, ?_⟩
              · unfold impl_NetOk.f
                simp only [NodeCount_i, Option.bind_some, w10, w5]
                refine Ev.bind hb (Ev.ite_pos c0 (Ev.ite_pos cB (Ev.ite_pos cO (Ev.ite_pos cT (Ev.ite_pos cC (Ev.suc ?_))))))
                simp only [impl_NetOk.j0]
                exact Ev.ite_neg (by simp [cA]) e0
              · exact ⟨fun z => ⟨hb2.1 c0, ⟨cB, cO, cT, cC, cA⟩, z⟩, fun z => z.2.2⟩
            · refine ⟨false, ?_, no _ (fun z => cA z.2.1.2.2.2.2)⟩
              unfold impl_NetOk.f
              simp only [NodeCount_i, Option.bind_some, w10, w5]
              refine Ev.bind hb (Ev.ite_pos c0 (Ev.ite_pos cB (Ev.ite_pos cO (Ev.ite_pos cT (Ev.ite_pos cC (Ev.suc ?_))))))
              simp only [impl_NetOk.j0]
              exact Ev.ite_pos (by simp [cA]) (Ev.now _)
          · refine ⟨false, ?_, no _ (fun z => cC z.2.1.2.2.2.1)⟩
            unfold impl_NetOk.f
            simp only [NodeCount_i, Option.bind_some, w10, w5]
            exact Ev.bind hb (Ev.ite_pos c0 (Ev.ite_pos cB (Ev.ite_pos cO (Ev.ite_pos cT (Ev.ite_neg cC ef)))))
        · refine ⟨false, ?_, no _ (fun z => cT z.2.1.2.2.1)⟩
          unfold impl_NetOk.f
          simp only [NodeCount_i, Option.bind_some, w10, w5]
          exact Ev.bind hb (Ev.ite_pos c0 (Ev.ite_pos cB (Ev.ite_pos cO (Ev.ite_neg cT ef))))
      · refine ⟨false, ?_, no _ (fun z => cO z.2.1.2.1)⟩
        unfold impl_NetOk.f
        simp only [NodeCount_i, Option.bind_some, w10, w5]
        exact Ev.bind hb (Ev.ite_pos c0 (Ev.ite_pos cB (Ev.ite_neg cO ef)))
    · refine ⟨false, ?_, no _ (fun z => cB z.2.1.1)⟩
      unfold impl_NetOk.f
      simp only [NodeCount_i, Option.bind_some, w10, w5]
      exact Ev.bind hb (Ev.ite_pos c0 (Ev.ite_neg cB ef))
  · refine ⟨false, ?_, no _ (fun z => c0 (hb2.2 z.1))⟩
    unfold impl_NetOk.f
    simp only [NodeCount_i, Option.bind_some, w10, w5]
    exact Ev.bind hb (Ev.ite_neg c0 ef)

/-! ### find -/
theorem l03Find_l0 (x : Int) : ∀ (rest pre : List Int), pre.length + rest.length < 1152921504606846976 → Ev (fun k => spec_l03Find.l0 k (pre ++ rest) x (pre.length : Int)) (decide (x ∈ rest))
  | [], pre, _ => by
    refine Ev.suc ?_
    simp only [spec_l03Find.l0]
    exact Ev.ite_neg (by simp) (Ev.val (by simp))
  | y :: rest, pre, hl => by
    simp only [List.length_cons] at hl
    have h1 : (pre.length : Int) < ((pre ++ y :: rest).length : Int) := by simp only [List.length_append, List.length_cons]; omega
    have hw : wrap64 ((pre.length : Int) + 1) = ((pre ++ [y]).length : Int) := by rw [w64 (by omega) (by omega), len_snoc]
    refine Ev.suc ?_
    simp only [spec_l03Find.l0, rd_mid, hw]
    refine Ev.ite_pos h1 (Ev.ite_pos (by omega) (Ev.ite (fun h => Ev.val ?_) (fun h => ?_)))
    · simp [h]
    · rw [snoc_app pre y rest]
      refine Ev.eq (l03Find_l0 x rest (pre ++ [y]) (by simp only [List.length_append, List.length_cons, List.length_nil]; omega)) ?_
      rw [decide_eq_decide]
      simp [show ¬ x = y from fun e => h e.symm]
theorem l03Find_s (l : List Int) (x : Int) (h : l.length < 1152921504606846976) : Ev (fun k => spec_l03Find.f k l x) (decide (x ∈ l)) := by
  unfold spec_l03Find.f
  exact l03Find_l0 x l [] (by simpa using h)

/-! ### hasCh_s -/
theorem l03Has_s (w h : Int) (br : List Int) (c : Int) (hl : br.length < 1152921504606846976) : Ev (fun k => spec_l03Has.f k w h br c) (hasR w h br c) := by
  unfold spec_l03Has.f hasR
  refine Ev.bindS (leads_s w h c) (Ev.ite (fun h1 => ?_) (fun h1 => Ev.val (by simp [h1])))
  exact Ev.bind (l03Find_s br c hl) (Ev.val (by simp [h1]))

/-! ### walk_s -/
theorem l04Walk_l0 (w h : Int) (br ps : List Int) (dst : Int) (hbr : br.length < 1152921504606846976) (hps : (ps.length : Int) = ncR w h * ncR w h) (hd : nodeOk w h dst) : ∀ (d : Nat) (acc : List Int) (x : Int), nodeOk w h x → (acc.length : Int) + d = ncR w h + 1 →
    Ev (fun k => spec_l04Walk.l0 k dst acc (ncR w h) x w h br ps) (walkGo w h br ps dst d acc x)
  | 0, acc, x, hx, hl => by
    refine Ev.suc ?_
    simp only [spec_l04Walk.l0]
    exact Ev.ite_neg (by omega) (Ev.now _)
  | d + 1, acc, x, hx, hl => by
    have hn := ncR_b w h
    have hb := idx_b hn hx hd
    obtain ⟨e1, e2⟩ := idx_w hn hx hd
    have hx15 : 0 ≤ x ∧ x ≤ 15 := ⟨hx.1, by have := hx.2; omega⟩
    have hin1 : 0 ≤ x * ncR w h + dst := by
      have := hd.1
      omega
    have hin2 : x * ncR w h + dst < (ps.length : Int) := by
      rw [hps]
      exact hb.2.2.1
    refine Ev.suc ?_
    simp only [spec_l04Walk.l0, e1, l01In_f, Option.bind_some, decide_eq_true_eq]
    unfold walkGo
    have hlen : (acc.length : Int) ≤ ncR w h := by omega
    have hacc : acc.length < 17592186044416 := by omega
    clear hb e1 e2
    refine Ev.ite_pos hlen (Ev.ite_pos hin1 (Ev.ite_pos hin2 ?_))
    generalize rd ps (x * ncR w h + dst) = p at *
    by_cases h4 : p = 4
    · refine Ev.ite_pos h4 ?_
      rw [if_pos h4]
      refine Ev.ite (fun h5 => Ev.val ?_) (fun h5 => Ev.val ?_)
      · rw [if_pos h5]
      · rw [if_neg h5]
    · refine Ev.ite_neg h4 ?_
      rw [if_neg h4]
      by_cases hp : 0 ≤ p ∧ p ≤ 3
      · have e3 : wrap64 (wrap64 (4 * x) + p) = 4 * x + p := by rw [w64 (x := 4 * x) (by omega) (by omega), w64 (by omega) (by omega)]
        simp only [e3]
        refine Ev.ite_pos hp (Ev.bind (l03Has_s w h br (4 * x + p) hbr) (Ev.ite (fun hh => ?_) (fun hh => Ev.val ?_)))
        · rw [if_pos ⟨hp, hh⟩]
          refine Ev.ite_pos hacc (Ev.bindS (NextNode_s w h x p) ?_)
          exact l04Walk_l0 w h br ps dst hbr hps hd d _ _ (has_next hp hh) (by simp only [List.length_append, List.length_cons, List.length_nil]; omega)
        · rw [if_neg (fun z => hh z.2)]
      · refine Ev.ite_neg hp (Ev.val ?_)
        rw [if_neg (fun z => hp z.1)]
theorem l04Walk_s (w h : Int) (br ps : List Int) (x dst : Int) (hbr : br.length < 1152921504606846976) (hps : (ps.length : Int) = ncR w h * ncR w h) (hx : nodeOk w h x) (hd : nodeOk w h dst) :
    Ev (fun k => spec_l04Walk.f k w h br ps x dst) (walkR w h br ps x dst) := by
  unfold spec_l04Walk.f walkR
  have hn := ncR_b w h
  exact Ev.bindS (NodeCount_s w h) (l04Walk_l0 w h br ps dst hbr hps hd _ [] x hx (by simp only [List.length_nil]; omega))

/-! ### MeshOk_s -/
theorem MeshOk_s_l0 (w h : Int) : ∀ (rest pre : List Int) (y : Int), pre.length + rest.length < 1152921504606846976 → Ev (fun k => spec_MeshOk.l0 k (((pre ++ [y])).length : Int) w h ((pre ++ [y]) ++ rest)) (brR w h (some y) rest)
  | [], pre, y, hl => by
    refine Ev.suc ?_
    simp only [spec_MeshOk.l0]
    refine Ev.ite_neg (by simp) ?_
    exact Ev.val (by simp [brR])
  | x :: rest, pre, y, hl => by
    simp only [List.length_cons] at hl
    have hp : (pre ++ [y]).length = pre.length + 1 := by simp
    have h1 : ((pre ++ [y]).length : Int) < ((pre ++ [y] ++ x :: rest).length : Int) := by simp only [List.length_append, List.length_cons, List.length_nil]; omega
    have hw : wrap64 (((pre ++ [y]).length : Int) + 1) = ((pre ++ [y] ++ [x]).length : Int) := by rw [w64 (by omega) (by omega)]; exact (len_snoc _ _).symm
    have hv : wrap64 (((pre ++ [y]).length : Int) - 1) = ((pre ++ [y]).length : Int) - 1 := w64 (by omega) (by omega)
    have e1 : rd (pre ++ [y] ++ x :: rest) (((pre ++ [y]).length : Int) - 1) = y := rd_app_last pre y (x :: rest)
    have e2 : rd (pre ++ [y] ++ x :: rest) ((pre ++ [y]).length : Int) = x := rd_mid _ _ _
    have ih := MeshOk_s_l0 w h rest (pre ++ [y]) x (by omega)
    rw [← snoc_app (pre ++ [y]) x rest] at ih
    refine Ev.suc ?_
    simp only [spec_MeshOk.l0, e1, e2, hw, hv, leads_s, Option.bind_some]
    refine Ev.ite_pos h1 (Ev.ite_pos (by omega) (Ev.ite (fun hlx => ?_) (fun hlx => Ev.val ?_)))
    · refine Ev.ite_pos (by omega) (Ev.ite_pos (by omega) (Ev.ite_pos (by omega) (Ev.ite (fun hc => Ev.val ?_) (fun hc => Ev.eq ih ?_))))
      · have hc' : ¬ y < x := by omega
        simp [brR, hc']
      · have hc' : y < x := by omega
        simp [brR, hlx, hc']
    · simp [brR, hlx]
theorem MeshOk_s (w h : Int) (br : List Int) (hl : br.length < 1152921504606846976) : Ev (fun k => spec_MeshOk.f k w h br) (meshR w h br) := by
  unfold spec_MeshOk.f meshR
  refine Ev.bindS (GridOk_s w h) (Ev.ite (fun hg => ?_) (fun hg => Ev.val (by simp [show ¬ gOk w h from fun z => hg (decide_eq_true z)])))
  cases br with
  | nil =>
    refine Ev.suc ?_
    simp only [spec_MeshOk.l0]
    refine Ev.ite_neg (by simp) ?_
    exact Ev.val (by simp [brR, of_decide_eq_true hg])
  | cons x rest =>
    simp only [List.length_cons] at hl
    have z := MeshOk_s_l0 w h rest [] x (by simp; omega)
    have hw : wrap64 ((0 : Int) + 1) = ((([] : List Int) ++ [x]).length : Int) := by rw [w64 (by omega) (by omega)]; rfl
    have e2 : rd (x :: rest) 0 = x := rfl
    have h1 : (0 : Int) < ((x :: rest).length : Int) := by simp only [List.length_cons]; omega
    refine Ev.suc ?_
    simp only [spec_MeshOk.l0, e2, hw, leads_s, Option.bind_some]
    refine Ev.ite_pos h1 (Ev.ite_pos (by omega) (Ev.ite (fun hlx => Ev.ite_neg (by omega) (Ev.eq z ?_)) (fun hlx => Ev.val ?_)))
    · simp [brR, hlx, of_decide_eq_true hg]
    · simp [brR, hlx]

/-! ### TableOk_s -/
theorem TableOk_s_l1 (w h : Int) (br ps : List Int) (hbr : br.length < 1152921504606846976) (hps : (ps.length : Int) = ncR w h * ncR w h) (n : Nat) (hn : (n : Int) = ncR w h) (x : Nat) (hx : x < n) (P : Prop)
    (hR : ∃ b, Ev (fun k => spec_TableOk.l0 k (n : Int) ((x + 1 : Nat) : Int) w h br ps) b ∧ (b = true ↔ P)) : ∀ (d y : Nat), y + d = n →
    ∃ b, Ev (fun k => spec_TableOk.l1 k (n : Int) (x : Int) (y : Int) w h br ps) b ∧ (b = true ↔ (y ≤ x → rd ps ((x : Int) * ncR w h + (x : Int)) = 4) ∧ (∀ y' : Nat, y ≤ y' → y' < n → x ≠ y' → walkR w h br ps (x : Int) (y' : Int) ≠ []) ∧ P)
  | 0, y, hd => by
    obtain ⟨b, hb, hb2⟩ := hR
    have hnb := ncR_b w h
    refine ⟨b, Ev.suc ?_, ?_⟩
    · simp only [spec_TableOk.l1]
      refine Ev.ite_neg (by omega) ?_
      have e : wrap64 ((x : Int) + 1) = ((x + 1 : Nat) : Int) := by rw [w64 (by omega) (by omega)]; omega
      rw [e]
      exact hb
    · rw [hb2]
      exact ⟨fun hp => ⟨fun hz => absurd hz (by omega), fun y' h1 h2 => absurd h2 (by omega), hp⟩, fun hp => hp.2.2⟩
  | d + 1, y, hd => by
    obtain ⟨b, hb, hb2⟩ := TableOk_s_l1 w h br ps hbr hps n hn x hx P hR d (y + 1) (by omega)
    have hnb := ncR_b w h
    have e : wrap64 ((y : Int) + 1) = ((y + 1 : Nat) : Int) := by rw [w64 (by omega) (by omega)]; omega
    have hlt : (y : Int) < (n : Int) := by omega
    by_cases hxy : x = y
    · have hxn : 0 ≤ (x : Int) ∧ (x : Int) ≤ ncR w h - 1 := by omega
      have hi := idx_b hnb hxn hxn
      have hi0 : 0 ≤ (x : Int) * ncR w h + (x : Int) := by omega
      have hi1 : (x : Int) * ncR w h + (x : Int) < (ps.length : Int) := by
        rw [hps]
        exact hi.2.2.1
      have ew := (idx_w hnb hxn hxn).1
      have hxy' : (x : Int) = (y : Int) := by omega
      have hle : y ≤ x := by omega
      have hnle : ¬ y + 1 ≤ x := by omega
      have hrest : (∀ y' : Nat, y + 1 ≤ y' → y' < n → x ≠ y' → walkR w h br ps (x : Int) (y' : Int) ≠ []) ↔ (∀ y' : Nat, y ≤ y' → y' < n → x ≠ y' → walkR w h br ps (x : Int) (y' : Int) ≠ []) := by
        clear hi hi0 hi1 ew
        exact ⟨fun hp y' h1 h2 h3 => hp y' (by omega) h2 h3, fun hp y' h1 h2 h3 => hp y' (by omega) h2 h3⟩
      by_cases h4 : rd ps ((x : Int) * ncR w h + (x : Int)) = 4
      · refine ⟨b, Ev.suc ?_, ?_⟩
        · rw [hn] at hb hlt ⊢
          simp only [spec_TableOk.l1, ew, e]
          exact Ev.ite_pos hlt (Ev.ite_pos hxy' (Ev.ite_pos hi0 (Ev.ite_pos hi1 (Ev.ite_pos h4 hb))))
        · rw [hb2, hrest]
          exact ⟨fun hp => ⟨fun _ => h4, hp.2⟩, fun hp => ⟨fun hz => absurd hz hnle, hp.2⟩⟩
      · refine ⟨false, Ev.suc ?_, ?_⟩
        · rw [hn] at hlt ⊢
          simp only [spec_TableOk.l1, ew, e]
          exact Ev.ite_pos hlt (Ev.ite_pos hxy' (Ev.ite_pos hi0 (Ev.ite_pos hi1 (Ev.ite_neg h4 (Ev.now _)))))
        · exact ⟨fun z => absurd z Bool.false_ne_true, fun hp => absurd (hp.1 hle) h4⟩
    · have hv := l04Walk_s w h br ps (x : Int) (y : Int) hbr hps ⟨by omega, by omega⟩ ⟨by omega, by omega⟩
      have hneq : ¬ (x : Int) = (y : Int) := by omega
      have hd2 : (y ≤ x → rd ps ((x : Int) * ncR w h + (x : Int)) = 4) ↔ (y + 1 ≤ x → rd ps ((x : Int) * ncR w h + (x : Int)) = 4) := ⟨fun hp hz => hp (by omega), fun hp hz => hp (by omega)⟩
      by_cases hw : walkR w h br ps (x : Int) (y : Int) = []
      · refine ⟨false, Ev.suc ?_, ?_⟩
        · simp only [spec_TableOk.l1, e]
          refine Ev.ite_pos hlt (Ev.ite_neg hneq (Ev.bind hv (Ev.ite_pos (by simp [hw]) (Ev.now _))))
        · refine ⟨fun z => absurd z Bool.false_ne_true, fun hp => absurd hw (hp.2.1 y (Nat.le_refl _) (by omega) hxy)⟩
      · refine ⟨b, Ev.suc ?_, ?_⟩
        · simp only [spec_TableOk.l1, e]
          refine Ev.ite_pos hlt (Ev.ite_neg hneq (Ev.bind hv (Ev.ite_neg ?_ hb)))
          cases hc : walkR w h br ps (x : Int) (y : Int) with
          | nil => exact absurd hc hw
          | cons a l => simp only [List.length_cons]; omega
        · rw [hb2, hd2]
          refine ⟨fun hp => ⟨hp.1, fun y' h1 h2 h3 => ?_, hp.2.2⟩, fun hp => ⟨hp.1, fun y' h1 h2 h3 => hp.2.1 y' (by omega) h2 h3, hp.2.2⟩⟩
          by_cases hy : y' = y
          · rw [hy]
            exact hw
          · exact hp.2.1 y' (by omega) h2 h3
theorem TableOk_s_l0 (w h : Int) (br ps : List Int) (hbr : br.length < 1152921504606846976) (hps : (ps.length : Int) = ncR w h * ncR w h) (n : Nat) (hn : (n : Int) = ncR w h) : ∀ (d x : Nat), x + d = n →
    ∃ b, Ev (fun k => spec_TableOk.l0 k (n : Int) (x : Int) w h br ps) b ∧ (b = true ↔ (∀ x' : Nat, x ≤ x' → x' < n → rd ps ((x' : Int) * ncR w h + (x' : Int)) = 4) ∧ ∀ x' y' : Nat, x ≤ x' → x' < n → y' < n → x' ≠ y' → walkR w h br ps (x' : Int) (y' : Int) ≠ [])
  | 0, x, hd => by
    refine ⟨true, Ev.suc ?_, ?_⟩
    · simp only [spec_TableOk.l0]
      exact Ev.ite_neg (by omega) (Ev.now _)
    · exact ⟨fun _ => ⟨fun x' h1 h2 => absurd h2 (by omega), fun x' y' h1 h2 => absurd h2 (by omega)⟩, fun _ => rfl⟩
  | d + 1, x, hd => by
    obtain ⟨b, hb, hb2⟩ := TableOk_s_l1 w h br ps hbr hps n hn x (by omega) _ (TableOk_s_l0 w h br ps hbr hps n hn d (x + 1) (by omega)) n 0 (by omega)
    refine ⟨b, Ev.suc ?_, ?_⟩
    · simp only [spec_TableOk.l0]
      exact Ev.ite_pos (by omega) hb
    · rw [hb2]
      refine ⟨fun hp => ⟨fun x' h1 h2 => ?_, fun x' y' h1 h2 h3 h4 => ?_⟩, fun hp => ⟨fun _ => hp.1 x (Nat.le_refl _) (by omega), fun y' h1 h2 h3 => hp.2 x y' (Nat.le_refl _) (by omega) h2 h3, fun x' h1 h2 => hp.1 x' (by omega) h2, fun x' y' h1 h2 h3 h4 => hp.2 x' y' (by omega) h2 h3 h4⟩⟩
      · by_cases hx : x' = x
        · rw [hx]
          exact hp.1 (Nat.zero_le _)
        · exact hp.2.2.1 x' (by omega) h2
      · by_cases hx : x' = x
        · subst hx
          exact hp.2.1 y' (Nat.zero_le _) h3 h4
        · exact hp.2.2.2 x' y' (by omega) h2 h3 h4
theorem l04Sized_s (w h : Int) (br ps : List Int) (hbr : br.length < 1152921504606846976) : Ev (fun k => spec_l04Sized.f k w h br ps) (decide (meshR w h br = true ∧ (ps.length : Int) = ncR w h * ncR w h)) := by
  have hnb := ncR_b w h
  have hsq : wrap64 (ncR w h * ncR w h) = ncR w h * ncR w h := by
    have h3 : ncR w h * ncR w h ≤ 16 * ncR w h := Int.mul_le_mul_of_nonneg_right hnb.2 hnb.1
    have h4 : 0 ≤ ncR w h * ncR w h := Int.mul_nonneg hnb.1 hnb.1
    generalize ncR w h * ncR w h = q at *
    exact w64 (by omega) (by omega)
  unfold spec_l04Sized.f
  refine Ev.bindS (NodeCount_s w h) (Ev.bind (MeshOk_s w h br hbr) (Ev.ite (fun hm => Ev.val ?_) (fun hm => Ev.val ?_)))
  · rw [hsq, hm]
    by_cases he : (ps.length : Int) = ncR w h * ncR w h
    · simp [he]
    · simp [he]
  · simp [hm]
theorem TableOk_s (w h : Int) (br ps : List Int) (hbr : br.length < 1152921504606846976) : ∃ b, Ev (fun k => spec_TableOk.f k w h br ps) b ∧ (b = true ↔ tableOk w h br ps) := by
  have hnb := ncR_b w h
  have hs := l04Sized_s w h br ps hbr
  unfold spec_TableOk.f tableOk
  by_cases hm : meshR w h br = true ∧ (ps.length : Int) = ncR w h * ncR w h
  · obtain ⟨n, hn⟩ : ∃ n : Nat, (n : Int) = ncR w h := ⟨(ncR w h).toNat, by omega⟩
    obtain ⟨b, hb, hb2⟩ := TableOk_s_l0 w h br ps hbr hm.2 n hn n 0 (by omega)
    refine ⟨b, ?_, ?_⟩
    · refine Ev.bind hs (Ev.ite_pos (decide_eq_true hm) (Ev.bindS (NodeCount_s w h) ?_))
      rw [← hn]
      exact hb
    · rw [hb2]
      unfold diagOk walksOk
      rw [← hn] at hm ⊢
      exact ⟨fun hp => ⟨hm.1, hm.2, fun x hx => hp.1 x (Nat.zero_le _) (by omega), fun x y hx hy hne => hp.2 x y (Nat.zero_le _) (by omega) (by omega) hne⟩, fun hp => ⟨fun x _ hx => hp.2.2.1 x (by omega), fun x y _ hx hy hne => hp.2.2.2 x y (by omega) (by omega) hne⟩⟩
  · refine ⟨false, ?_, ⟨fun z => absurd z Bool.false_ne_true, fun hp => absurd ⟨hp.1, hp.2.1⟩ hm⟩⟩
    exact Ev.bind hs (Ev.ite_neg (fun z => hm (of_decide_eq_true z)) (Ev.now _))

/-! ### ClassesOk_s -/
theorem ClassesOk_s (w h : Int) (br p q : List Int) (hbr : br.length < 1152921504606846976) : ∃ b, Ev (fun k => spec_ClassesOk.f k w h br p q) b ∧ (b = true ↔ clsOk w h br p q) := by
  obtain ⟨b, hb, hb2⟩ := TableOk_s w h br p hbr
  obtain ⟨c, hc, hc2⟩ := TableOk_s w h br q hbr
  unfold spec_ClassesOk.f clsOk
  by_cases h : b = true
  · exact ⟨c, Ev.bind hb (Ev.ite_pos h (Ev.bind hc (Ev.now _))), by rw [hc2]; exact ⟨fun z => ⟨hb2.1 h, z⟩, fun z => z.2⟩⟩
  · exact ⟨false, Ev.bind hb (Ev.ite_neg h (Ev.now _)), ⟨fun z => absurd z Bool.false_ne_true, fun z => absurd (hb2.2 z.1) h⟩⟩

/-! ### flits_s -/
theorem l15Flits_l0 (w h : Int) : ∀ (rest pre : List Fl), pre.length + rest.length ≤ 1048576 → Ev (fun k => spec_l15Flits.l0 k (pre ++ rest) (pre.length : Int) w h) (flB w h rest)
  | [], pre, hl => by
    refine Ev.suc ?_
    simp only [spec_l15Flits.l0]
    exact Ev.ite_neg (by simp) (Ev.val (by simp [flB]))
  | x :: rest, pre, hl => by
    simp only [List.length_cons] at hl
    have h1 : (pre.length : Int) < ((pre ++ x :: rest).length : Int) := by simp only [List.length_append, List.length_cons]; omega
    have hw : wrap64 ((pre.length : Int) + 1) = ((pre ++ [x]).length : Int) := by rw [w64 (by omega) (by omega), len_snoc]
    have ih := l15Flits_l0 w h rest (pre ++ [x]) (by simp only [List.length_append, List.length_cons, List.length_nil]; omega)
    rw [← snoc_app pre x rest] at ih
    refine Ev.suc ?_
    simp only [spec_l15Flits.l0, rdI_Flit, l02Has_s, l01In_f, Option.bind_some, decide_eq_true_eq, hw]
    refine Ev.ite_pos h1 (Ev.ite_pos (by omega) (Ev.ite (fun a => Ev.ite (fun b => Ev.eq ih ?_) (fun b => Ev.val ?_)) (fun a => Ev.val ?_)))
    · simp [flB, a, b]
    · simp [flB, b]
    · simp [flB, a]
theorem l15Flits_f (w h : Int) (l : List Fl) (hl : l.length ≤ 1048576) : Ev (fun k => spec_l15Flits.f k w h l) (flB w h l) := by
  unfold spec_l15Flits.f
  exact l15Flits_l0 w h l [] (by simpa using hl)

/-! ### NetOk_s -/
section
variable (w h : Int) (br p q : List Int)
theorem NetOk_s_l3 (n : Int) (B : List (List Fl)) (O T : List Int) (A : List (List Fl)) (t : Int) : ∀ (rest pre : List (List Fl)), ((pre.length + rest.length : Nat) : Int) = n → n ≤ 16 → (∀ x ∈ rest, x.length ≤ 1048576) →
    Ev (fun k => spec_NetOk.l3 k n (pre.length : Int) w h br p q B O T (pre ++ rest) A t) (srcB w h rest)
  | [], pre, hn, hn2, hx => by
    simp only [List.length_nil] at hn
    refine Ev.suc ?_
    simp only [spec_NetOk.l3]
    exact Ev.ite_neg (by omega) (Ev.val (by simp [srcB]))
  | x :: rest, pre, hn, hn2, hx => by
    simp only [List.length_cons] at hn
    have h1 : (pre.length : Int) < ((pre ++ x :: rest).length : Int) := by simp only [List.length_append, List.length_cons]; omega
    have hw : wrap64 ((pre.length : Int) + 1) = ((pre ++ [x]).length : Int) := by rw [w64 (by omega) (by omega), len_snoc]
    have ih := NetOk_s_l3 n B O T A t rest (pre ++ [x]) (by simp only [List.length_append, List.length_cons, List.length_nil]; omega) hn2 (fun y hy => hx y (List.mem_cons_of_mem _ hy))
    rw [← snoc_app pre x rest] at ih
    have hx0 := hx x List.mem_cons_self
    refine Ev.suc ?_
    simp only [spec_NetOk.l3, rdI_FlitSS, hw]
    refine Ev.ite_pos (by omega) (Ev.ite_pos (by omega) (Ev.ite_pos h1 (Ev.ite (fun a => Ev.val ?_) (fun a => Ev.bind (l15Flits_f w h x hx0) (Ev.ite (fun b => Ev.eq ih ?_) (fun b => Ev.val ?_))))))
    · have : ¬ x.length ≤ 60 := by omega
      simp [srcB, this]
    · have : x.length ≤ 60 := by omega
      simp [srcB, this, b]
    · simp [srcB, b]
theorem NetOk_s_l2 (n : Int) (B : List (List Fl)) (O : List Int) (C A : List (List Fl)) (t : Int) : ∀ (rest pre : List Int) (R : Bool), Ev (fun k => spec_NetOk.l3 k n 0 w h br p q B O (pre ++ rest) C A t) R → ((pre.length + rest.length : Nat) : Int) = 5 * n → 0 ≤ n → n ≤ 16 →
    Ev (fun k => spec_NetOk.l2 k n (pre.length : Int) w h br p q B O (pre ++ rest) C A t) (rgB 0 9 rest && R)
  | [], pre, R, hR, hn, hn0, hn2 => by
    simp only [List.length_nil] at hn
    have w5 : wrap64 (5 * n) = 5 * n := w64 (by omega) (by omega)
    refine Ev.suc ?_
    simp only [spec_NetOk.l2, w5]
    exact Ev.ite_neg (by omega) (Ev.eq hR (by simp [rgB]))
  | x :: rest, pre, R, hR, hn, hn0, hn2 => by
    simp only [List.length_cons] at hn
    have w5 : wrap64 (5 * n) = 5 * n := w64 (by omega) (by omega)
    have h1 : (pre.length : Int) < ((pre ++ x :: rest).length : Int) := by simp only [List.length_append, List.length_cons]; omega
    have hw : wrap64 ((pre.length : Int) + 1) = ((pre ++ [x]).length : Int) := by rw [w64 (by omega) (by omega), len_snoc]
    have ih := NetOk_s_l2 n B O C A t rest (pre ++ [x]) R (by rw [← snoc_app pre x rest]; exact hR) (by simp only [List.length_append, List.length_cons, List.length_nil]; omega) hn0 hn2
    rw [← snoc_app pre x rest] at ih
    refine Ev.suc ?_
    simp only [spec_NetOk.l2, w5, rd_mid, l01In_f, Option.bind_some, hw, decide_eq_true_eq]
    refine Ev.ite_pos (by omega) (Ev.ite_pos (by omega) (Ev.ite_pos h1 (Ev.ite (fun a => Ev.eq ih ?_) (fun a => Ev.val ?_))))
    · simp [rgB, a]
    · simp [rgB, a]
theorem NetOk_s_l1 (n i : Int) (B : List (List Fl)) (O T : List Int) (C A : List (List Fl)) (t : Int) (R : Bool) (hR : Ev (fun k => spec_NetOk.l0 k n (wrap64 (i + 1)) w h br p q B O T C A t) R) : ∀ (rest pre : List Fl), pre.length + rest.length ≤ 1048576 →
    Ev (fun k => spec_NetOk.l1 k n i (pre ++ rest) (pre.length : Int) w h br p q B O T C A t) (clB (Int.tmod i 2) rest && R)
  | [], pre, hl => by
    refine Ev.suc ?_
    simp only [spec_NetOk.l1]
    exact Ev.ite_neg (by simp) (Ev.eq hR (by simp [clB]))
  | x :: rest, pre, hl => by
    simp only [List.length_cons] at hl
    have h1 : (pre.length : Int) < ((pre ++ x :: rest).length : Int) := by simp only [List.length_append, List.length_cons]; omega
    have hw : wrap64 ((pre.length : Int) + 1) = ((pre ++ [x]).length : Int) := by rw [w64 (by omega) (by omega), len_snoc]
    have ih := NetOk_s_l1 n i B O T C A t R hR rest (pre ++ [x]) (by simp only [List.length_append, List.length_cons, List.length_nil]; omega)
    rw [← snoc_app pre x rest] at ih
    refine Ev.suc ?_
    simp only [spec_NetOk.l1, rdI_Flit, hw]
    refine Ev.ite_pos h1 (Ev.ite_pos (by omega) (Ev.ite (fun a => Ev.eq ih ?_) (fun a => Ev.val ?_)))
    · simp [clB, a]
    · simp [clB, a]
theorem NetOk_s_l0 (n : Int) (T : List Int) (C A : List (List Fl)) (t : Int) : ∀ (B preB : List (List Fl)) (O preO : List Int) (R : Bool), Ev (fun k => spec_NetOk.l2 k n 0 w h br p q (preB ++ B) (preO ++ O) T C A t) R → ((preB.length + B.length : Nat) : Int) = 10 * n → preB.length = preO.length → B.length = O.length → 0 ≤ n → n ≤ 16 → (∀ x ∈ B, x.length ≤ 1048576) →
    Ev (fun k => spec_NetOk.l0 k n (preB.length : Int) w h br p q (preB ++ B) (preO ++ O) T C A t) (bufS w h preB.length B O && R)
  | [], preB, O, preO, R, hR, hn, he, he2, hn0, hn2, hx => by
    simp only [List.length_nil] at hn
    have w10 : wrap64 (10 * n) = 10 * n := w64 (by omega) (by omega)
    refine Ev.suc ?_
    simp only [spec_NetOk.l0, w10]
    exact Ev.ite_neg (by omega) (Ev.eq hR (by simp [bufS]))
  | x :: B, preB, [], preO, R, hR, hn, he, he2, hn0, hn2, hx => by simp at he2
  | x :: B, preB, o :: O, preO, R, hR, hn, he, he2, hn0, hn2, hx => by
    simp only [List.length_cons] at hn he2
    have w10 : wrap64 (10 * n) = 10 * n := w64 (by omega) (by omega)
    have h1 : (preB.length : Int) < ((preB ++ x :: B).length : Int) := by simp only [List.length_append, List.length_cons]; omega
    have h2 : (preB.length : Int) < ((preO ++ o :: O).length : Int) := by simp only [List.length_append, List.length_cons]; omega
    have hw : wrap64 ((preB.length : Int) + 1) = ((preB ++ [x]).length : Int) := by rw [w64 (by omega) (by omega), len_snoc]
    have ih := NetOk_s_l0 n T C A t B (preB ++ [x]) O (preO ++ [o]) R (by rw [← snoc_app preB x B, ← snoc_app preO o O]; exact hR) (by simp only [List.length_append, List.length_cons, List.length_nil]; omega) (by simp only [List.length_append, List.length_cons, List.length_nil]; omega) (by omega) hn0 hn2 (fun y hy => hx y (List.mem_cons_of_mem _ hy))
    rw [← snoc_app preB x B, ← snoc_app preO o O, ← hw] at ih
    have hlen : (preB ++ [x]).length = preB.length + 1 := by simp
    rw [hlen] at ih
    have hx0 := hx x List.mem_cons_self
    have e1 := NetOk_s_l1 w h br p q n (preB.length : Int) (preB ++ x :: B) (preO ++ o :: O) T C A t _ ih x [] (by simpa using hx0)
    have ro : rd (preO ++ o :: O) (preB.length : Int) = o := by rw [he]; exact rd_mid _ _ _
    have jt : Ev (fun k => spec_NetOk.j2 k n (preB.length : Int) x true w h br p q (preB ++ x :: B) (preO ++ o :: O) T C A t) false := by
      refine Ev.suc ?_
      simp only [spec_NetOk.j2]
      exact Ev.ite_pos trivial (Ev.now _)
    refine Ev.suc ?_
    simp only [spec_NetOk.l0, w10, rdI_FlitSS, ro, l01In_f, Option.bind_some]
    refine Ev.ite_pos (by omega) (Ev.ite_pos (by omega) (Ev.ite_pos h1 (Ev.ite (fun a => Ev.eq jt ?_) (fun a => Ev.bind (l15Flits_f w h x hx0) (Ev.ite (fun b => Ev.ite_pos h2 (Ev.suc ?_)) (fun b => Ev.eq jt ?_))))))
    · have : ¬ x.length ≤ 3 := by omega
      simp [bufS, this]
    · simp only [spec_NetOk.j2]
      refine Ev.ite (fun c => Ev.val ?_) (fun c => Ev.eq e1 ?_)
      · have : ¬ (-1 ≤ o ∧ o ≤ 4) := by
          simp at c
          omega
        simp only [bufS, decide_eq_false this]
        simp
      · have h3 : x.length ≤ 3 := by omega
        have : -1 ≤ o ∧ o ≤ 4 := by simpa using c
        simp only [bufS, b, decide_eq_true this, decide_eq_true h3]
        simp [Bool.and_assoc]
    · simp [bufS, b]
end
theorem NetOk_s (w h : Int) (br p q : List Int) (B : List (List Fl)) (O T : List Int) (C A : List (List Fl)) (t : Int) (hbr : br.length ≤ 1048576) (hB : B.length ≤ 1048576 ∧ slen B ≤ 1048576) (hC : C.length ≤ 1048576 ∧ slen C ≤ 1048576) :
    ∃ b, Ev (fun k => spec_NetOk.f k w h br p q B O T C A t) b ∧ (b = true ↔ netOk w h br p q B O T C A t) := by
  obtain ⟨b, hb, hb2⟩ := ClassesOk_s w h br p q (by omega)
  have hn := ncR_b w h
  have w10 : wrap64 (10 * ncR w h) = 10 * ncR w h := w64 (by omega) (by omega)
  have w5 : wrap64 (5 * ncR w h) = 5 * ncR w h := w64 (by omega) (by omega)
  have ef : Ev (fun k => spec_NetOk.j0 k (ncR w h) true w h br p q B O T C A t) false := by
    refine Ev.suc ?_
    simp only [spec_NetOk.j0]
    exact Ev.ite_pos trivial (Ev.now _)
  unfold netOk restOk
  have no : ∀ (c : Prop), ¬ c → (false = true ↔ c) := fun c hc => ⟨fun z => absurd z Bool.false_ne_true, fun z => absurd z hc⟩
  by_cases c0 : b = true
  · by_cases cB : (B.length : Int) = 10 * ncR w h
    · by_cases cO : (O.length : Int) = 10 * ncR w h
      · by_cases cT : (T.length : Int) = 5 * ncR w h
        · by_cases cC : (C.length : Int) = ncR w h
          · by_cases cA : (A.length : Int) = ncR w h
            · have e3 := NetOk_s_l3 w h br p q (ncR w h) B O T A t C [] (by simp; omega) hn.2 (fun x hm => by have := slen_mem C x hm; omega)
              have e2 := NetOk_s_l2 w h br p q (ncR w h) B O C A t T [] _ e3 (by simp; omega) hn.1 hn.2
              have e0 := NetOk_s_l0 w h br p q (ncR w h) T C A t B [] O [] _ e2 (by simp; omega) rfl (by omega) hn.1 hn.2 (fun x hm => by have := slen_mem B x hm; omega)
              have ebs := bufS_eq w h B O 0 (by omega)
              refine ⟨decide (0 ≤ t ∧ t ≤ 1000000) && (bufS w h 0 B O && (rgB 0 9 T && srcB w h C)), ?_, ?_⟩
              · unfold spec_NetOk.f
                simp only [NodeCount_s, Option.bind_some, w10, w5, l01In_f]
                refine Ev.bind hb (Ev.ite_pos c0 (Ev.ite_pos cB (Ev.ite_pos cO (Ev.ite_pos cT (Ev.ite_pos cC (Ev.ite_pos cA (Ev.suc ?_)))))))
                simp only [spec_NetOk.j0]
                refine Ev.ite (fun c => Ev.val ?_) (fun c => Ev.eq e0 ?_)
                · have : ¬ (0 ≤ t ∧ t ≤ 1000000) := by
                    simp at c
                    omega
                  simp only [decide_eq_false this]
                  simp
                · have : 0 ≤ t ∧ t ≤ 1000000 := by simpa using c
                  simp only [decide_eq_true this]
                  simp
              · rw [ebs]
                have ec : (decide (0 ≤ t ∧ t ≤ 1000000) && (bufI w h 0 B && rgB (-1) 4 O && (rgB 0 9 T && srcB w h C))) = (bufI w h 0 B && (srcB w h C && (rgB (-1) 4 O && (rgB 0 9 T && decide (0 ≤ t ∧ t ≤ 1000000))))) := by
                  cases decide (0 ≤ t ∧ t ≤ 1000000) <;> cases bufI w h 0 B <;> cases rgB (-1) 4 O <;> cases rgB 0 9 T <;> cases srcB w h C <;> rfl
                rw [ec]
                exact ⟨fun z => ⟨hb2.1 c0, ⟨cB, cO, cT, cC, cA⟩, z⟩, fun z => z.2.2⟩
            · refine ⟨false, ?_, no _ (fun z => cA z.2.1.2.2.2.2)⟩
              unfold spec_NetOk.f
              simp only [NodeCount_s, Option.bind_some, w10, w5]
              exact Ev.bind hb (Ev.ite_pos c0 (Ev.ite_pos cB (Ev.ite_pos cO (Ev.ite_pos cT (Ev.ite_pos cC (Ev.ite_neg cA ef))))))
          · refine ⟨false, ?_, no _ (fun z => cC z.2.1.2.2.2.1)⟩
            unfold spec_NetOk.f
            simp only [NodeCount_s, Option.bind_some, w10, w5]
            exact Ev.bind hb (Ev.ite_pos c0 (Ev.ite_pos cB (Ev.ite_pos cO (Ev.ite_pos cT (Ev.ite_neg cC ef)))))
        · refine ⟨false, ?_, no _ (fun z => cT z.2.1.2.2.1)⟩
          unfold spec_NetOk.f
          simp only [NodeCount_s, Option.bind_some, w10, w5]
          exact Ev.bind hb (Ev.ite_pos c0 (Ev.ite_pos cB (Ev.ite_pos cO (Ev.ite_neg cT ef))))
      · refine ⟨false, ?_, no _ (fun z => cO z.2.1.2.1)⟩
        unfold spec_NetOk.f
        simp only [NodeCount_s, Option.bind_some, w10, w5]
        exact Ev.bind hb (Ev.ite_pos c0 (Ev.ite_pos cB (Ev.ite_neg cO ef)))
    · refine ⟨false, ?_, no _ (fun z => cB z.2.1.1)⟩
      unfold spec_NetOk.f
      simp only [NodeCount_s, Option.bind_some, w10, w5]
      exact Ev.bind hb (Ev.ite_pos c0 (Ev.ite_neg cB ef))
  · refine ⟨false, ?_, no _ (fun z => c0 (hb2.2 z.1))⟩
    unfold spec_NetOk.f
    simp only [NodeCount_s, Option.bind_some, w10, w5]
    exact Ev.bind hb (Ev.ite_neg c0 ef)

/-! ### markFlitM -/
def mkFlit : Int → List S112 → List S112
  | _, [] => []
  | m, _ :: l => (⟨m, m + 1, m + 1 + 1, (Int.tmod (m + 1 + 1 + 1) 3 == 0), (Int.tmod (m + 1 + 1 + 1 + 1) 3 == 0)⟩ : S112) :: mkFlit (m + 1 + 1 + 1 + 1 + 1) l
theorem markFlitM_l0 : ∀ (rest pre : List S112) (m : Int), pre.length + rest.length ≤ 1099511627776 → 0 ≤ m → m + 5 * (rest.length : Int) ≤ 1152921504606846976 →
    Ev (fun k => laws_markFlitS.l0 k (pre ++ rest) m (pre.length : Int)) (m + 5 * (rest.length : Int), pre ++ mkFlit m rest)
  | [], pre, m, _, _, _ => by
    refine Ev.suc ?_
    simp only [laws_markFlitS.l0]
    exact Ev.ite_neg (by simp) (Ev.val (by simp [mkFlit]))
  | x :: rest, pre, m, hl, h0, hm => by
    simp only [List.length_cons] at hl hm
    have hp : (pre.length : Int) < ((pre ++ x :: rest).length : Int) := by simp only [List.length_append, List.length_cons]; omega
    have hw : wrap64 ((pre.length : Int) + 1) = ((pre ++ [(⟨m, m + 1, m + 1 + 1, (Int.tmod (m + 1 + 1 + 1) 3 == 0), (Int.tmod (m + 1 + 1 + 1 + 1) 3 == 0)⟩ : S112)]).length : Int) := by rw [w64 (by omega) (by omega), len_snoc]
    have h1 : wrap64 (m + 1) = m + 1 := w64 (by omega) (by omega)
    have h2 : wrap64 (m + 1 + 1) = m + 1 + 1 := w64 (by omega) (by omega)
    have h3 : wrap64 (m + 1 + 1 + 1) = m + 1 + 1 + 1 := w64 (by omega) (by omega)
    have h4 : wrap64 (m + 1 + 1 + 1 + 1) = m + 1 + 1 + 1 + 1 := w64 (by omega) (by omega)
    have h5 : wrap64 (m + 1 + 1 + 1 + 1 + 1) = m + 1 + 1 + 1 + 1 + 1 := w64 (by omega) (by omega)
    have ih := markFlitM_l0 rest (pre ++ [(⟨m, m + 1, m + 1 + 1, (Int.tmod (m + 1 + 1 + 1) 3 == 0), (Int.tmod (m + 1 + 1 + 1 + 1) 3 == 0)⟩ : S112)]) (m + 1 + 1 + 1 + 1 + 1) (by simp only [List.length_append, List.length_cons, List.length_nil]; omega) (by omega) (by omega)
    have e : m + 1 + 1 + 1 + 1 + 1 + 5 * (rest.length : Int) = m + 5 * ((x :: rest).length : Int) := by
      simp only [List.length_cons]
      omega
    rw [e] at ih
    have el : pre ++ mkFlit m (x :: rest) = pre ++ (⟨m, m + 1, m + 1 + 1, (Int.tmod (m + 1 + 1 + 1) 3 == 0), (Int.tmod (m + 1 + 1 + 1 + 1) 3 == 0)⟩ : S112) :: mkFlit (m + 1 + 1 + 1 + 1 + 1) rest := rfl
    refine Ev.suc ?_
    simp only [laws_markFlitS.l0, set_mid, rdI_Flit, Option.bind_some, h1, h2, h3, h4, h5, hw]
    refine Ev.ite_pos hp (Ev.ite_pos (by omega) ?_)
    rw [el, snoc_app pre _ rest, snoc_app pre _ (mkFlit _ rest)]
    exact ih
/-- Marked, no more. -/
theorem markFlitM_f (l : List S112) (m : Int) (hl : l.length ≤ 1099511627776) (h0 : 0 ≤ m) (h1 : m ≤ 1099511627776) :
    ∃ m' l', m ≤ m' ∧ m' ≤ m + 5 * (l.length : Int) ∧ l'.length = l.length ∧ Ev (fun k => laws_markFlitS.f k l m) (m', l') := by
  have h := markFlitM_l0 l [] m (by simpa using hl) h0 (by omega)
  have hlen : ∀ (l : List S112) (m : Int), (mkFlit m l).length = l.length := by
    intro l
    induction l with
    | nil => exact fun _ => rfl
    | cons x l ih => exact fun m => by simp only [mkFlit, List.length_cons, ih]
  refine ⟨m + 5 * (l.length : Int), mkFlit m l, by omega, by omega, hlen l m, ?_⟩
  unfold laws_markFlitS.f
  exact h

/-! ### markIntS -/

def mkInt : Int → List Int → List Int
  | _, [] => []
  | m, _ :: l => m :: mkInt (m + 1) l
theorem markInt_l0 : ∀ (rest pre : List Int) (m : Int), pre.length + rest.length ≤ 1099511627776 → 0 ≤ m → m + 1 * (rest.length : Int) ≤ 1152921504606846976 →
    Ev (fun k => laws_markIntS.l0 k (pre ++ rest) m (pre.length : Int)) (m + 1 * (rest.length : Int), pre ++ mkInt m rest) ∧
    Ev (fun k => laws_heldIntS.l0 k (pre ++ mkInt m rest) m (pre.length : Int)) (m + 1 * (rest.length : Int))
  | [], pre, m, _, _, _ => by
    constructor
    · refine Ev.suc ?_
      simp only [laws_markIntS.l0]
      exact Ev.ite_neg (by simp) (Ev.val (by simp [mkInt]))
    · refine Ev.suc ?_
      simp only [laws_heldIntS.l0]
      exact Ev.ite_neg (by simp [mkInt]) (Ev.val (by simp))
  | x :: rest, pre, m, hl, h0, hm => by
    simp only [List.length_cons] at hl hm
    have hp : (pre.length : Int) < ((pre ++ x :: rest).length : Int) := by simp only [List.length_append, List.length_cons]; omega
    have hw : wrap64 ((pre.length : Int) + 1) = ((pre ++ [m]).length : Int) := by rw [w64 (by omega) (by omega), len_snoc]
    have h1 : wrap64 (m + 1) = m + 1 := w64 (by omega) (by omega)
    have ih := markInt_l0 rest (pre ++ [m]) (m + 1) (by simp only [List.length_append, List.length_cons, List.length_nil]; omega) (by omega) (by omega)
    have e : m + 1 + 1 * (rest.length : Int) = m + 1 * ((x :: rest).length : Int) := by
      simp only [List.length_cons]
      omega
    rw [e] at ih
    have el : pre ++ mkInt m (x :: rest) = pre ++ m :: mkInt (m + 1) rest := rfl
    constructor
    · refine Ev.suc ?_
      simp only [laws_markIntS.l0, set_mid, rd_mid, Option.bind_some, h1, hw]
      refine Ev.ite_pos hp (Ev.ite_pos (by omega) ?_)
      rw [el, snoc_app pre _ rest, snoc_app pre _ (mkInt _ rest)]
      exact ih.1
    · rw [el]
      have hq : (pre.length : Int) < ((pre ++ m :: mkInt (m + 1) rest).length : Int) := by simp only [List.length_append, List.length_cons]; omega
      refine Ev.suc ?_
      simp only [laws_heldIntS.l0, rd_mid, h1, hw]
      refine Ev.ite_pos hq (Ev.ite_pos (by omega) (Ev.ite_pos (by trivial) (?_)))
      rw [snoc_app pre _ (mkInt _ rest)]
      exact ih.2
/-- What is marked is held. -/
theorem markInt_f (l : List Int) (m : Int) (hl : l.length ≤ 1099511627776) (h0 : 0 ≤ m) (h1 : m ≤ 1099511627776) :
    ∃ m' l', m ≤ m' ∧ m' ≤ m + 1 * (l.length : Int) ∧ l'.length = l.length ∧ Ev (fun k => laws_markIntS.f k l m) (m', l') ∧ Ev (fun k => laws_heldIntS.f k l' m) m' := by
  have h := markInt_l0 l [] m (by simpa using hl) h0 (by omega)
  have hlen : ∀ (l : List Int) (m : Int), (mkInt m l).length = l.length := by
    intro l
    induction l with
    | nil => exact fun _ => rfl
    | cons x l ih => exact fun m => by simp only [mkInt, List.length_cons, ih]
  refine ⟨m + 1 * (l.length : Int), mkInt m l, by omega, by omega, hlen l m, ?_, ?_⟩
  · unfold laws_markIntS.f
    exact h.1
  · unfold laws_heldIntS.f
    exact h.2

/-! ### markNet -/
theorem markTableN_f (l : List Int) (m : Int) (hl : l.length ≤ 1048576) (h0 : 0 ≤ m) (h1 : m ≤ 1073741824) :
    ∃ m' l', m ≤ m' ∧ m' ≤ m + (l.length : Int) ∧ Ev (fun k => laws_markTable.f k l m) (m', l') := by
  obtain ⟨m', l', a, b, _, d, _⟩ := markInt_f l m (by omega) h0 (by omega)
  refine ⟨m', l', a, by omega, ?_⟩
  unfold laws_markTable.f
  exact Ev.bind d (Ev.now _)
theorem markSS_l0 : ∀ (rest pre : List (List S112)) (m : Int), pre.length + rest.length ≤ 1099511627776 → (∀ x ∈ rest, x.length ≤ 1048576) → 0 ≤ m → m + 5 * slen rest ≤ 1073741824 →
    ∃ m' l', m ≤ m' ∧ m' ≤ m + 5 * slen rest ∧ Ev (fun k => laws_markFlitSS.l0 k (pre ++ rest) m (pre.length : Int)) (m', l')
  | [], pre, m, _, _, _, _ => by
    refine ⟨m, pre, by omega, by simp [slen], Ev.suc ?_⟩
    simp only [laws_markFlitSS.l0]
    exact Ev.ite_neg (by simp) (Ev.val (by simp))
  | x :: rest, pre, m, hl, hx, h0, hm => by
    have hs : slen (x :: rest) = (x.length : Int) + slen rest := rfl
    rw [hs] at hm ⊢
    simp only [List.length_cons] at hl
    have hxl := hx x List.mem_cons_self
    have hnn := slen_nn rest
    obtain ⟨n, x', p1, p2, _, p4⟩ := markFlitM_f x m (by omega) h0 (by omega)
    obtain ⟨m', l', q1, q2, q3⟩ := markSS_l0 rest (pre ++ [x']) n (by simp only [List.length_append, List.length_cons, List.length_nil]; omega) (fun y hy => hx y (List.mem_cons_of_mem _ hy)) (by omega) (by omega)
    refine ⟨m', l', by omega, by omega, Ev.suc ?_⟩
    have hg : (pre ++ x :: rest).getD ((pre.length : Int)).toNat [] = x := by simp
    simp only [laws_markFlitSS.l0, hg]
    refine Ev.ite_pos (by simp only [List.length_append, List.length_cons]; omega) (Ev.ite_pos (by omega) (Ev.bind p4 ?_))
    rw [set_mid, w64 (by omega) (by omega), ← len_snoc pre x', snoc_app pre x' rest]
    exact q3
theorem markSS_f (l : List (List S112)) (m : Int) (hl : l.length ≤ 1048576) (hs : slen l ≤ 1048576) (h0 : 0 ≤ m) (h1 : m ≤ 100000000) :
    ∃ m' l', m ≤ m' ∧ m' ≤ m + 5242880 ∧ Ev (fun k => laws_markFlitSS.f k l m) (m', l') := by
  obtain ⟨m', l', a, b, c⟩ := markSS_l0 l [] m (by simp only [List.length_nil]; omega) (fun x hm => by have := slen_mem l x hm; omega) h0 (by omega)
  exact ⟨m', l', a, by omega, by unfold laws_markFlitSS.f; exact c⟩
/-- All of a network marked: the last number is not below 0. -/
theorem markNet_f (w h : Int) (br p q : List Int) (B : List (List S112)) (O T : List Int) (C A : List (List S112)) (t : Int)
    (h1 : br.length ≤ 1048576) (h2 : p.length ≤ 1048576) (h3 : q.length ≤ 1048576) (h4 : B.length ≤ 1048576 ∧ slen B ≤ 1048576) (h5 : O.length ≤ 1048576) (h6 : T.length ≤ 1048576) (h7 : C.length ≤ 1048576 ∧ slen C ≤ 1048576) (h8 : A.length ≤ 1048576 ∧ slen A ≤ 1048576) :
    ∃ (m : Int) (z : _), 0 ≤ m ∧ Ev (fun k => laws_markNet.f k w h br p q B O T C A t 1) (m, z) := by
  obtain ⟨m1, l1, a1, b1, _, e1, _⟩ := markInt_f br 1 (by omega) (by omega) (by omega)
  obtain ⟨ma, l2, a2a, b2a, e2a⟩ := markTableN_f p m1 h2 (by omega) (by omega)
  obtain ⟨m2, l3, a2, b2, e2⟩ := markTableN_f q ma h3 (by omega) (by omega)
  obtain ⟨m3, l4, a3, b3, e3⟩ := markSS_f B m2 h4.1 h4.2 (by omega) (by omega)
  obtain ⟨m4, l5, a4, b4, _, e4, _⟩ := markInt_f O m3 (by omega) (by omega) (by omega)
  obtain ⟨m5, l6, a5, b5, _, e5, _⟩ := markInt_f T m4 (by omega) (by omega) (by omega)
  obtain ⟨m6, l7, a6, b6, e6⟩ := markSS_f C m5 h7.1 h7.2 (by omega) (by omega)
  obtain ⟨m7, l8, a7, b7, e7⟩ := markSS_f A m6 h8.1 h8.2 (by omega) (by omega)
  refine ⟨m7, (l1, l2, l3, l4, l5, l6, l7, l8), by omega, ?_⟩
  unfold laws_markNet.f laws_markMesh.f laws_markClasses.f
  exact Ev.bind (Ev.bind e1 (Ev.now _)) (Ev.bind (Ev.bind e2a (Ev.bind e2 (Ev.now _))) (Ev.bind e3 (Ev.bind e4 (Ev.bind e5 (Ev.bind e6 (Ev.bind e7 (Ev.now _)))))))

/-! ### wholeB -/
def wOne (h : S112) (n i : Int) (x : S112) : Prop := x.f0 = h.f0 ∧ x.f1 = h.f1 ∧ x.f2 = h.f2 ∧ x.f3 = (i == 0) ∧ x.f4 = (i == n - 1)
instance (h : S112) (n i : Int) (x : S112) : Decidable (wOne h n i x) := by
  unfold wOne
  infer_instance
def wR (h : S112) (n : Int) : Int → List S112 → Bool
  | _, [] => true
  | i, x :: r => decide (wOne h n i x) && wR h n (i + 1) r
def wholeB : List S112 → Bool
  | [] => false
  | h :: t => wR h ((h :: t).length : Int) 0 (h :: t)
theorem rd_head (h : S112) (t : List S112) : rd_T112 (h :: t) 0 = h := rfl
theorem wR_id (h : S112) (n : Int) : ∀ (l : List S112) (i : Int), wR h n i l = true → ∀ x ∈ l, x.f0 = h.f0
  | [], _, _, x, hx => by cases hx
  | y :: l, i, hw, x, hx => by
    unfold wR at hw
    rw [Bool.and_eq_true, decide_eq_true_eq] at hw
    rcases List.mem_cons.1 hx with rfl | hx
    · exact hw.1.1
    · exact wR_id h n l (i + 1) hw.2 x hx

/-! ### IsWhole_i -/
theorem IsWhole_i_l0 (h : S112) (t : List S112) (hn : (h :: t).length ≤ 1152921504606846976) : ∀ (rest pre : List S112), pre ++ rest = h :: t →
    Ev (fun k => impl_IsWhole.l0 k (h :: t) (pre.length : Int)) (wR h ((h :: t).length : Int) (pre.length : Int) rest)
  | [], pre, e => by
    have hl : pre.length = (h :: t).length := by rw [← e]; simp
    refine Ev.suc ?_
    simp only [impl_IsWhole.l0]
    exact Ev.ite_neg (by omega) (Ev.val (by simp [wR]))
  | x :: rest, pre, e => by
    have hl : pre.length + (rest.length + 1) = (h :: t).length := by rw [← e]; simp
    have hw : wrap64 ((pre.length : Int) + 1) = ((pre ++ [x]).length : Int) := by rw [w64 (by omega) (by omega), len_snoc]
    have hv : wrap64 (((h :: t).length : Int) - 1) = ((h :: t).length : Int) - 1 := w64 (by omega) (by omega)
    have hr : rd_T112 (h :: t) (pre.length : Int) = x := by
      rw [← e]
      exact rdI_Flit _ _ _
    have ih := IsWhole_i_l0 h t hn rest (pre ++ [x]) (by simpa using e)
    refine Ev.suc ?_
    simp only [impl_IsWhole.l0, hr, rd_head, hv, hw]
    refine Ev.ite_pos (by omega) (Ev.ite_pos (by omega) ?_)
    refine Ev.ite (fun hb => Ev.val ?_) (fun hb => Ev.eq ih ?_)
    · unfold wR
      rw [decide_eq_false, Bool.false_and]
      intro hg
      obtain ⟨g0, g1, g2, g3, g4⟩ := hg
      simp [g0, g1, g2, g3, g4] at hb
    · have hg : wOne h ((h :: t).length : Int) (pre.length : Int) x := by
        simp only [Bool.or_eq_true, Bool.not_eq_true', beq_eq_false_iff_ne, not_or, ne_eq, Decidable.not_not] at hb
        exact ⟨hb.1, hb.2.1, hb.2.2.1, hb.2.2.2.1, hb.2.2.2.2⟩
      rw [len_snoc]
      conv => rhs; unfold wR
      rw [decide_eq_true hg, Bool.true_and]
theorem IsWhole_i (l : List S112) (hl : l.length ≤ 1152921504606846976) : Ev (fun k => impl_IsWhole.f k l) (wholeB l) := by
  unfold impl_IsWhole.f
  cases l with
  | nil =>
    refine Ev.suc ?_
    simp only [impl_IsWhole.l0]
    exact Ev.ite_neg (by simp) (Ev.val (by simp [wholeB]))
  | cons h t => exact IsWhole_i_l0 h t hl (h :: t) [] rfl

/-! ### IsWhole_s -/
theorem IsWhole_s_l0 (h : S112) (t : List S112) (hn : (h :: t).length ≤ 1152921504606846976) : ∀ (rest pre : List S112), pre ++ rest = h :: t →
    Ev (fun k => spec_IsWhole.l0 k (h :: t) (pre.length : Int)) (wR h ((h :: t).length : Int) (pre.length : Int) rest)
  | [], pre, e => by
    have hl : pre.length = (h :: t).length := by rw [← e]; simp
    refine Ev.suc ?_
    simp only [spec_IsWhole.l0]
    exact Ev.ite_neg (by omega) (Ev.val (by simp [wR]))
  | x :: rest, pre, e => by
    have hl : pre.length + (rest.length + 1) = (h :: t).length := by rw [← e]; simp
    have hw : wrap64 ((pre.length : Int) + 1) = ((pre ++ [x]).length : Int) := by rw [w64 (by omega) (by omega), len_snoc]
    have hv : wrap64 (((h :: t).length : Int) - 1) = ((h :: t).length : Int) - 1 := w64 (by omega) (by omega)
    have hr : rd_T112 (h :: t) (pre.length : Int) = x := by
      rw [← e]
      exact rdI_Flit _ _ _
    have ih := IsWhole_s_l0 h t hn rest (pre ++ [x]) (by simpa using e)
    refine Ev.suc ?_
    simp only [spec_IsWhole.l0, hr, rd_head, hv, hw]
    refine Ev.ite_pos (by omega) (Ev.ite_pos (by omega) ?_)
    refine Ev.ite (fun hb => Ev.val ?_) (fun hb => Ev.eq ih ?_)
    · unfold wR
      rw [decide_eq_false, Bool.false_and]
      intro hg
      obtain ⟨g0, g1, g2, g3, g4⟩ := hg
      simp [g0, g1, g2, g3, g4] at hb
    · have hg : wOne h ((h :: t).length : Int) (pre.length : Int) x := by
        simp only [Bool.or_eq_true, Bool.not_eq_true', beq_eq_false_iff_ne, not_or, ne_eq, Decidable.not_not] at hb
        exact ⟨hb.1, hb.2.1, hb.2.2.1, hb.2.2.2.1, hb.2.2.2.2⟩
      rw [len_snoc]
      conv => rhs; unfold wR
      rw [decide_eq_true hg, Bool.true_and]
theorem IsWhole_s (l : List S112) (hl : l.length ≤ 1152921504606846976) : Ev (fun k => spec_IsWhole.f k l) (wholeB l) := by
  unfold spec_IsWhole.f
  cases l with
  | nil =>
    refine Ev.suc ?_
    simp only [spec_IsWhole.l0]
    exact Ev.ite_neg (by simp) (Ev.val (by simp [wholeB]))
  | cons h t => exact IsWhole_s_l0 h t hl (h :: t) [] rfl

/-! ### wholeP -/
/-- The ids of the whole packets that a list falls into, from place i on, the open one beginning at fr. -/
def wpGo (l : List S112) : Nat → Nat → Nat → List Int → List Int × Bool
  | 0, _, fr, out => if (fr : Int) < (l.length : Int) then ([], false) else (out, true)
  | d + 1, i, fr, out => if wholeB ((l.take (i + 1)).drop fr) = true then wpGo l d (i + 1) (i + 1) (out ++ [(rd_T112 l (fr : Int)).f0]) else wpGo l d (i + 1) fr out
theorem wpGo_zero (l : List S112) (i fr : Nat) (out : List Int) : wpGo l 0 i fr out = if (fr : Int) < (l.length : Int) then ([], false) else (out, true) := rfl
theorem wpGo_succ (l : List S112) (d i fr : Nat) (out : List Int) : wpGo l (d + 1) i fr out = if wholeB ((l.take (i + 1)).drop fr) = true then wpGo l d (i + 1) (i + 1) (out ++ [(rd_T112 l (fr : Int)).f0]) else wpGo l d (i + 1) fr out := rfl
theorem wpGo_len (l : List S112) : ∀ (d i fr : Nat) (out : List Int), (wpGo l d i fr out).1.length ≤ out.length + d
  | 0, i, fr, out => by
    rw [wpGo_zero]
    split <;> simp
  | d + 1, i, fr, out => by
    rw [wpGo_succ]
    split
    · have := wpGo_len l d (i + 1) (i + 1) (out ++ [(rd_T112 l (fr : Int)).f0])
      simp only [List.length_append, List.length_cons, List.length_nil] at this
      omega
    · have := wpGo_len l d (i + 1) fr out
      omega
theorem rdT_get (l : List S112) (i : Nat) (h : i < l.length) : rd_T112 l (i : Int) = l[i] := by
  unfold rd_T112
  rw [Int.toNat_natCast, List.getD_eq_getElem?_getD, List.getElem?_eq_getElem h]
  rfl
theorem whole_same (l : List S112) (i fr : Nat) (h : i < l.length) (hf : fr ≤ i) (hw : wholeB ((l.take (i + 1)).drop fr) = true) : (rd_T112 l (i : Int)).f0 = (rd_T112 l (fr : Int)).f0 := by
  rw [rdT_get l i h, rdT_get l fr (by omega)]
  have hs : ((l.take (i + 1)).drop fr).length = i + 1 - fr := by
    rw [List.length_drop, List.length_take]
    omega
  have m1 : l[i] ∈ (l.take (i + 1)).drop fr := by
    refine List.mem_iff_getElem.2 ⟨i - fr, by omega, ?_⟩
    rw [List.getElem_drop, List.getElem_take]
    congr 1
    omega
  have m2 : l[fr] ∈ (l.take (i + 1)).drop fr := by
    refine List.mem_iff_getElem.2 ⟨0, by omega, ?_⟩
    rw [List.getElem_drop, List.getElem_take]
    congr 1
  generalize (l.take (i + 1)).drop fr = s at *
  cases s with
  | nil => cases m1
  | cons a t =>
    have hw' : wR a ((a :: t).length : Int) 0 (a :: t) = true := hw
    rw [wR_id a _ (a :: t) 0 hw' _ m1, wR_id a _ (a :: t) 0 hw' _ m2]
theorem seg_len (l : List S112) (a b : Nat) : ((l.take a).drop b).length ≤ l.length := by
  rw [List.length_drop, List.length_take]
  omega
theorem WholePackets_i_l0 (l : List S112) (hl : l.length ≤ 1048576) : ∀ (d i fr : Nat) (out : List Int), i + d = l.length → fr ≤ i → out.length ≤ i →
    Ev (fun k => impl_WholePackets.l0 k l out (fr : Int) ((i + 1 : Nat) : Int)) (wpGo l d i fr out)
  | 0, i, fr, out, hd, hf, ho => by
    refine Ev.suc ?_
    simp only [impl_WholePackets.l0]
    rw [wpGo_zero]
    refine Ev.ite_neg (by omega) ?_
    exact Ev.ite (fun h => Ev.val (by rw [if_pos h])) (fun h => Ev.val (by rw [if_neg h]))
  | d + 1, i, fr, out, hd, hf, ho => by
    have hw : wrap64 (((i + 1 : Nat) : Int) + 1) = ((i + 1 + 1 : Nat) : Int) := by rw [w64 (by omega) (by omega)]; omega
    have e := IsWhole_i ((l.take (i + 1)).drop fr) (by have := seg_len l (i + 1) fr; omega)
    have p := WholePackets_i_l0 l hl d (i + 1) (i + 1) (out ++ [(rd_T112 l (fr : Int)).f0]) (by omega) (Nat.le_refl _) (by simp only [List.length_append, List.length_cons, List.length_nil]; omega)
    have q := WholePackets_i_l0 l hl d (i + 1) fr out (by omega) (by omega) (by omega)
    refine Ev.suc ?_
    simp only [impl_WholePackets.l0, Int.toNat_natCast, hw]
    rw [wpGo_succ]
    refine Ev.ite_pos (by omega) (Ev.ite_pos (by omega) (Ev.ite_pos (by omega) (Ev.bind e (Ev.ite (fun h => ?_) (fun h => ?_)))))
    · rw [if_pos h]
      exact Ev.ite_pos (by omega) (Ev.ite_pos (by omega) p)
    · rw [if_neg h]
      exact q
theorem WholePackets_i (l : List S112) (hl : l.length ≤ 1048576) : Ev (fun k => impl_WholePackets.f k l) (wpGo l l.length 0 0 []) := by
  unfold impl_WholePackets.f
  exact WholePackets_i_l0 l hl l.length 0 0 [] (by omega) (Nat.le_refl _) (by simp)
theorem WholePackets_s_l0 (l : List S112) (hl : l.length ≤ 1048576) : ∀ (d i fr : Nat) (out : List Int), i + d = l.length → fr ≤ i → out.length ≤ i →
    Ev (fun k => spec_WholePackets.l0 k l out (fr : Int) (i : Int)) (wpGo l d i fr out)
  | 0, i, fr, out, hd, hf, ho => by
    refine Ev.suc ?_
    simp only [spec_WholePackets.l0]
    rw [wpGo_zero]
    refine Ev.ite_neg (by omega) ?_
    exact Ev.ite (fun h => Ev.val (by rw [if_pos h])) (fun h => Ev.val (by rw [if_neg h]))
  | d + 1, i, fr, out, hd, hf, ho => by
    have hw : wrap64 ((i : Int) + 1) = ((i + 1 : Nat) : Int) := by rw [w64 (by omega) (by omega)]; omega
    have e := IsWhole_s ((l.take (i + 1)).drop fr) (by have := seg_len l (i + 1) fr; omega)
    have p := WholePackets_s_l0 l hl d (i + 1) (i + 1) (out ++ [(rd_T112 l (fr : Int)).f0]) (by omega) (Nat.le_refl _) (by simp only [List.length_append, List.length_cons, List.length_nil]; omega)
    have q := WholePackets_s_l0 l hl d (i + 1) fr out (by omega) (by omega) (by omega)
    refine Ev.suc ?_
    simp only [spec_WholePackets.l0, hw, Int.toNat_natCast]
    rw [wpGo_succ]
    refine Ev.ite_pos (by omega) (Ev.ite_pos (by omega) (Ev.ite_pos (by omega) (Ev.ite_pos (by omega) (Ev.bind e (Ev.ite (fun h => ?_) (fun h => ?_))))))
    · rw [if_pos h, whole_same l i fr (by omega) hf h]
      exact Ev.ite_pos (by omega) (Ev.ite_pos (by omega) p)
    · rw [if_neg h]
      exact q
theorem WholePackets_s (l : List S112) (hl : l.length ≤ 1048576) : Ev (fun k => spec_WholePackets.f k l) (wpGo l l.length 0 0 []) := by
  unfold spec_WholePackets.f
  exact WholePackets_s_l0 l hl l.length 0 0 [] (by omega) (Nat.le_refl _) (by simp)

/-! ### ClassOnly_s -/
theorem ClassOnly_s_l0 (c : Int) : ∀ (rest pre acc : List S112), acc.length ≤ pre.length → pre.length + rest.length ≤ 1048576 →
    Ev (fun k => spec_ClassOnly.l0 k (pre ++ rest) c acc (pre.length : Int)) (acc ++ clsL c rest)
  | [], pre, acc, ha, hl => by
    refine Ev.suc ?_
    simp only [spec_ClassOnly.l0]
    exact Ev.ite_neg (by simp) (Ev.val (by simp [clsL]))
  | x :: rest, pre, acc, ha, hl => by
    simp only [List.length_cons] at hl
    have h1 : (pre.length : Int) < ((pre ++ x :: rest).length : Int) := by simp only [List.length_append, List.length_cons]; omega
    have hw : wrap64 ((pre.length : Int) + 1) = ((pre ++ [x]).length : Int) := by rw [w64 (by omega) (by omega), len_snoc]
    have ih := fun acc' h' => ClassOnly_s_l0 c rest (pre ++ [x]) acc' h' (by simp only [List.length_append, List.length_cons, List.length_nil]; omega)
    rw [← snoc_app pre x rest] at ih
    refine Ev.suc ?_
    simp only [spec_ClassOnly.l0, rdI_Flit, hw]
    refine Ev.ite_pos h1 (Ev.ite_pos (by omega) (Ev.ite (fun h => Ev.ite_pos (by omega) ?_) (fun h => ?_)))
    · refine Ev.eq (ih (acc ++ [x]) (by simp; omega)) ?_
      simp [clsL, h]
    · refine Ev.eq (ih acc (by simp; omega)) ?_
      simp [clsL, h]
theorem ClassOnly_s (l : List S112) (c : Int) (h : l.length ≤ 1048576) : Ev (fun k => spec_ClassOnly.f k l c) (clsL c l) := by
  unfold spec_ClassOnly.f
  exact ClassOnly_s_l0 c l [] [] (Nat.le_refl _) (by simpa using h)

/-! ### arrive -/
def trimA : Nat → List S112 → List S112
  | 0, l => l
  | n + 1, l => if (l.length : Int) > 0 then (if (rd_T112 l ((l.length : Int) - 1)).f4 = true then l else trimA n (l.take (((l.length : Int) - 1) : Int).toNat)) else l
def wpR (l : List S112) : List Int × Bool := wpGo l l.length 0 0 []
theorem wpR_len (l : List S112) : (wpR l).1.length ≤ l.length := by
  have h := wpGo_len l l.length 0 0 []
  unfold wpR
  simpa using h
theorem trimA_len : ∀ (n : Nat) (l : List S112), (trimA n l).length ≤ l.length
  | 0, l => Nat.le_refl _
  | n + 1, l => by
    unfold trimA
    split
    · split
      · exact Nat.le_refl _
      · refine Nat.le_trans (trimA_len n _) ?_
        rw [List.length_take]
        exact Nat.min_le_right _ _
    · exact Nat.le_refl _
theorem arr_i_l0 (w h : Int) (br p q : List Int) (B : List (List S112)) (O T : List Int) (C A : List (List S112)) (t : Int) : ∀ (n : Nat) (l : List S112), l.length ≤ n → l.length ≤ 1048576 →
    Ev (fun k => impl_Net_arrived.l0 k l w h br p q B O T C A t) ((wpR (trimA n l)).1, (wpR (trimA n l)).2, w, h, t)
  | 0, l, hn, hl => by
    refine Ev.suc ?_
    simp only [impl_Net_arrived.l0]
    exact Ev.ite_neg (by omega) (Ev.bind (WholePackets_i l hl) (Ev.now _))
  | n + 1, l, hn, hl => by
    refine Ev.suc ?_
    simp only [impl_Net_arrived.l0]
    by_cases h1 : (l.length : Int) > 0
    · have e1 : wrap64 ((l.length : Int) - 1) = (l.length : Int) - 1 := w64 (by omega) (by omega)
      simp only [e1]
      refine Ev.ite_pos h1 (Ev.ite_pos (by omega) (Ev.ite_pos (by omega) ?_))
      by_cases h2 : (rd_T112 l ((l.length : Int) - 1)).f4 = true
      · simp only [trimA, if_pos h1, if_pos h2]
        exact Ev.bind (WholePackets_i l hl) (Ev.now _)
      · simp only [trimA, if_pos h1, if_neg h2]
        have hk : (l.take (((l.length : Int) - 1) : Int).toNat).length ≤ n := by rw [List.length_take]; omega
        exact Ev.ite_pos (by omega) (arr_i_l0 w h br p q B O T C A t n _ hk (by rw [List.length_take]; omega))
    · simp only [trimA, if_neg h1]
      exact Ev.bind (WholePackets_i l hl) (Ev.now _)
theorem arr_s_l0 : ∀ (n : Nat) (l : List S112), l.length ≤ n → l.length ≤ 1048576 → Ev (fun k => spec_l22At.l0 k l) (wpR (trimA n l))
  | 0, l, hn, hl => by
    refine Ev.suc ?_
    simp only [spec_l22At.l0]
    exact Ev.ite_neg (by omega) (Ev.bind (WholePackets_s l hl) (Ev.now _))
  | n + 1, l, hn, hl => by
    refine Ev.suc ?_
    simp only [spec_l22At.l0]
    by_cases h1 : (l.length : Int) > 0
    · have e1 : wrap64 ((l.length : Int) - 1) = (l.length : Int) - 1 := w64 (by omega) (by omega)
      simp only [e1]
      refine Ev.ite_pos h1 (Ev.ite_pos (by omega) (Ev.ite_pos (by omega) ?_))
      by_cases h2 : (rd_T112 l ((l.length : Int) - 1)).f4 = true
      · simp only [trimA, if_pos h1, if_pos h2]
        exact Ev.bind (WholePackets_s l hl) (Ev.now _)
      · simp only [trimA, if_pos h1, if_neg h2]
        have hk : (l.take (((l.length : Int) - 1) : Int).toNat).length ≤ n := by rw [List.length_take]; omega
        exact Ev.ite_pos (by omega) (arr_s_l0 n _ hk (by rw [List.length_take]; omega))
    · simp only [trimA, if_neg h1]
      exact Ev.bind (WholePackets_s l hl) (Ev.now _)

/-! ### rdSSlen -/
theorem rdSS_len (B : List (List S112)) (hB : slen B ≤ 1048576) (i : Int) : (rd_L3 B i).length ≤ 1048576 := by
  unfold rd_L3
  rw [List.getD_eq_getElem?_getD]
  cases hc : B[i.toNat]? with
  | none => simp
  | some x =>
    have hm := List.mem_of_getElem? hc
    have := slen_mem B x hm
    simp only [Option.getD_some]
    omega

theorem FnExactArrivedAt : FnExactArrivedAt_says := by
  intro w h br p q B O T C A t a c _ _ hbr hp hq hB hO hT hC hA _ ha hc
  refine Ev.rounds ?_
  unfold laws_FnExactArrivedAt.f
  obtain ⟨r, hr, hr2⟩ := szNet_f w h br p q B O T C A t 1048576 hbr hp hq ⟨hB.1, fun x hx => (hB.2 x hx).1⟩ hO hT ⟨hC.1, fun x hx => (hC.2 x hx).1⟩ ⟨hA.1, fun x hx => (hA.2 x hx).1⟩ (by omega) (Int.le_refl _)
  refine Ev.bind hr (Ev.ite (fun _ => Ev.now _) (fun hn => ?_))
  obtain ⟨_, _, hb⟩ : 0 ≤ r ∧ r ≤ 1048576 ∧ NB br p q B O T C A := by
    cases hr2 with
    | inl h => exact absurd h hn
    | inr h => exact h
  have ht := toNet_f w h br p q B O T C A t hb
  obtain ⟨b1, b2, b3, b4, b5, b6, b7, b8⟩ := hb
  rw [← cvSS_len B, ← cvSS_slen B] at b4
  rw [← cvSS_len C, ← cvSS_slen C] at b7
  rw [← cvSS_len A, ← cvSS_slen A] at b8
  have he := eqNet_f w h br p q (cvSS B) O T (cvSS C) (cvSS A) t b1 b2 b3 b4 b5 b6 b7 b8
  obtain ⟨m, z, hm0, hm⟩ := markNet_f w h br p q (cvSS B) O T (cvSS C) (cvSS A) t (by omega) (by omega) (by omega) ⟨by omega, b4.2⟩ (by omega) (by omega) ⟨by omega, b7.2⟩ ⟨by omega, b8.2⟩
  obtain ⟨x, hx, hx2⟩ := NetOk_s w h br p q (cvSS B) O T (cvSS C) (cvSS A) t b1 b4 b7
  obtain ⟨y, hy, hy2⟩ := NetOk_i w h br p q (cvSS B) O T (cvSS C) (cvSS A) t b1 b4 b5 b6 b7
  have e : y = x := by rw [Bool.eq_iff_iff, hx2, hy2]
  subst e
  generalize cvSS B = B' at *
  generalize cvSS C = C' at *
  generalize cvSS A = A' at *
  obtain ⟨v, hv, hs, hi⟩ : ∃ v : List Int × Bool, v.1.length ≤ 1099511627776 ∧ Ev (fun k => spec_ArrivedAt.f k w h br p q B' O T C' A' t a c) v ∧ Ev (fun k => impl_ArrivedAt.f k w h br p q B' O T C' A' t a c) v := by
    clear ht he hr hr2 hm
    have hlx := rdSS_len A' b8.2
    have hnb := ncR_b w h
    by_cases c0 : y = true
    · have hk := hx2.1 c0
      have hA := hk.2.1.2.2.2.2
      subst c0
      by_cases c1 : nodeOk w h a
      · have c1' := c1
        obtain ⟨n0, n1⟩ := c1'
        by_cases c2 : 0 ≤ c ∧ c ≤ 1
        · have hl0 := hlx a
          generalize hL : rd_L3 A' a = L at hl0
          have hcl := clsL_len c L
          have zi := arr_i_l0 w h br p q B' O T C' A' t (clsL c L).length (clsL c L) (Nat.le_refl _) (by omega)
          have zs := arr_s_l0 (clsL c L).length (clsL c L) (Nat.le_refl _) (by omega)
          have hw := wpR_len (trimA (clsL c L).length (clsL c L))
          have ht := trimA_len (clsL c L).length (clsL c L)
          generalize wpR (trimA (clsL c L).length (clsL c L)) = R at *
          refine ⟨R, by omega, ?_, ?_⟩
          · unfold spec_ArrivedAt.f spec_l17Ok.f spec_l22At.f
            simp only [l02Has_s, l01In_f, Option.bind_some, decide_eq_true_eq, hL]
            refine Ev.bind (Ev.bind hx (Ev.ite_pos rfl (Ev.ite_pos c1 (Ev.val (decide_eq_true (show (0 : Int) ≤ 0 ∧ (0 : Int) ≤ 4 by omega)))))) (Ev.ite_pos rfl (Ev.ite_pos c2 (Ev.bind (Ev.ite_pos n0 (Ev.ite_pos (by omega) (Ev.bind (ClassOnly_s L c (by omega)) zs))) (Ev.now _))))
          · unfold impl_ArrivedAt.f impl_isPlace.f impl_Net_arrived.f
            simp only [isNode_i, inside_f, Option.bind_some, decide_eq_true_eq, hL]
            refine Ev.bind (Ev.bind hy (Ev.ite_pos rfl (Ev.val (decide_eq_true c1)))) (Ev.ite_pos rfl (Ev.ite_pos c2 (Ev.bind (Ev.ite_pos n0 (Ev.ite_pos (by omega) (Ev.bind (ClassOnly_i L c (by omega)) zi))) (Ev.now _))))
        · refine ⟨([], false), by simp, ?_, ?_⟩
          · unfold spec_ArrivedAt.f spec_l17Ok.f
            simp only [l02Has_s, l01In_f, Option.bind_some, decide_eq_true_eq]
            exact Ev.bind (Ev.bind hx (Ev.ite_pos rfl (Ev.ite_pos c1 (Ev.val (decide_eq_true (show (0 : Int) ≤ 0 ∧ (0 : Int) ≤ 4 by omega)))))) (Ev.ite_pos rfl (Ev.ite_neg c2 (Ev.now _)))
          · unfold impl_ArrivedAt.f impl_isPlace.f
            simp only [isNode_i, inside_f, Option.bind_some, decide_eq_true_eq]
            exact Ev.bind (Ev.bind hy (Ev.ite_pos rfl (Ev.val (decide_eq_true c1)))) (Ev.ite_pos rfl (Ev.ite_neg c2 (Ev.now _)))
      · refine ⟨([], false), by simp, ?_, ?_⟩
        · unfold spec_ArrivedAt.f spec_l17Ok.f
          simp only [l02Has_s, l01In_f, Option.bind_some, decide_eq_true_eq]
          exact Ev.bind (Ev.bind hx (Ev.ite_pos rfl (Ev.ite_neg c1 (Ev.now _)))) (Ev.ite_neg (by simp) (Ev.now _))
        · unfold impl_ArrivedAt.f impl_isPlace.f
          simp only [isNode_i, inside_f, Option.bind_some, decide_eq_true_eq]
          exact Ev.bind (Ev.bind hy (Ev.ite_pos rfl (Ev.val (decide_eq_false c1)))) (Ev.ite_neg (by simp) (Ev.now _))
    · have c1 : y = false := by simpa using c0
      subst c1
      refine ⟨([], false), by simp, ?_, ?_⟩
      · unfold spec_ArrivedAt.f spec_l17Ok.f
        exact Ev.bind (Ev.bind hx (Ev.ite_neg (by simp) (Ev.now _))) (Ev.ite_neg (by simp) (Ev.now _))
      · unfold impl_ArrivedAt.f impl_isPlace.f
        exact Ev.bind (Ev.bind hy (Ev.ite_neg (by simp) (Ev.now _))) (Ev.ite_neg (by simp) (Ev.now _))
  obtain ⟨n, g', k1, _, _, k2, k3⟩ := markInt_f v.1 1 hv (by omega) (by omega)
  have hg := eqIntS_f v.1 (by omega)
  exact Ev.bind ht (Ev.bind hs (Ev.bind hi (Ev.bind hg (Ev.ite_pos rfl (Ev.ite_pos rfl (Ev.bind he (Ev.ite_pos rfl (Ev.bind hm (Ev.ite_neg (by omega) (Ev.bind k2 (Ev.bind k3 (Ev.ite_neg (by omega) (Ev.ite_pos rfl (Ev.now _))))))))))))))

end Go.Proofs.Ytaofkfooijfjbaa.Pure
