/- The plain statement of the law FnExactSameNet: the program's SameNet and the reference's give one answer. No condition. -/
import Derived.Test.YtogapggfegplkaaPFnExactSameNetx
import Derived.Test.YtogapggfegplkaaU
import Derived.Test.YtogapggfegplkaaSaysFnExactSameNet
namespace Go.Proofs.Ytogapggfegplkaa.Pure
open Go.RowKit Go.Proofs.Ytogapggfegplkaa.PFnExactSameNet Go.Proofs.YtogapggfegplkaaW.PrintWords Go.Proofs.YtogapggfegplkaaW.PrintLast Go.Proofs.YtogapggfegplkaaW.PrintMore Go.Proofs.Ytogapggfegplkaa.U
set_option linter.unusedVariables false
set_option linter.unusedSimpArgs false

/-! ### szFlitS -/
theorem szFlitS_f (l : List S183) (n : Int) (hl : l.length ≤ maxLen) (h0 : 0 ≤ n) (h1 : n ≤ 1048576) : laws_szFlitS.f l n = some (if n < (l.length : Int) then -1 else n - (l.length : Int)) := by
  have hm : maxLen = 9223372036854775807 := rfl
  unfold laws_szFlitS.f
  rw [w64 (by omega) (by omega)]
  by_cases h : n < (l.length : Int)
  · rw [if_pos h, if_pos (by omega)]
  · rw [if_neg h, if_neg (by omega)]

/-! ### szTab -/
theorem szIntS_f (l : List Int) (n : Int) (hl : l.length ≤ maxLen) (h0 : 0 ≤ n) (h1 : n ≤ 1048576) : laws_szIntS.f l n = some (if n < (l.length : Int) then -1 else n - (l.length : Int)) := by
  have hm : maxLen = 9223372036854775807 := rfl
  unfold laws_szIntS.f
  rw [w64 (by omega) (by omega)]
  by_cases h : n < (l.length : Int)
  · rw [if_pos h, if_pos (by omega)]
  · rw [if_neg h, if_neg (by omega)]
theorem szTable_f (l : List Int) (n : Int) (hl : l.length ≤ maxLen) (h0 : 0 ≤ n) (h1 : n ≤ 1048576) : laws_szTable.f l n = some (if n < (l.length : Int) then -1 else n - (l.length : Int)) := by
  unfold laws_szTable.f
  rw [szIntS_f l n hl h0 h1]
  simp only [Option.bind_some]
  by_cases h : n < (l.length : Int)
  · simp [h]
  · rw [if_neg h, if_neg (by omega)]

/-! ### szMesh -/
theorem szMesh_f (w h : Int) (l : List Int) (n : Int) (hl : l.length ≤ maxLen) (h0 : 0 ≤ n) (h1 : n ≤ 1048576) : laws_szMesh.f w h l n = some (if n < (l.length : Int) then -1 else n - (l.length : Int)) := by
  unfold laws_szMesh.f
  rw [szIntS_f l n hl h0 h1]
  simp only [Option.bind_some]
  by_cases h : n < (l.length : Int)
  · simp [h]
  · rw [if_neg h, if_neg (by omega)]

/-! ### szCls -/
theorem szClasses_f (a b : List Int) (n : Int) (ha : a.length ≤ maxLen) (hb : b.length ≤ maxLen) (h0 : 0 ≤ n) (h1 : n ≤ 1048576) :
    ∃ r, laws_szClasses.f a b n = some r ∧ (r < 0 ∨ (0 ≤ r ∧ r = n - (a.length : Int) - (b.length : Int) ∧ (a.length : Int) + (b.length : Int) ≤ n)) := by
  unfold laws_szClasses.f
  rw [szTable_f a n ha h0 h1]
  simp only [Option.bind_some]
  by_cases h : n < (a.length : Int)
  · rw [if_pos h]
    exact ⟨-1, by simp, .inl (by omega)⟩
  · rw [if_neg h, if_neg (by omega), szTable_f b _ hb (by omega) (by omega)]
    simp only [Option.bind_some]
    by_cases h' : n - (a.length : Int) < (b.length : Int)
    · rw [if_pos h']
      exact ⟨-1, by simp, .inl (by omega)⟩
    · rw [if_neg h', if_neg (by omega)]
      exact ⟨_, rfl, .inr ⟨by omega, rfl, by omega⟩⟩

/-! ### slen -/
/-- How many elements the lists hold together. -/
def slen {α : Type} : List (List α) → Int
  | [] => 0
  | x :: l => (x.length : Int) + slen l
theorem slen_nn {α : Type} : ∀ l : List (List α), 0 ≤ slen l
  | [] => Int.le_refl _
  | x :: l => by
    have := slen_nn l
    unfold slen
    omega
theorem slen_mem {α : Type} : ∀ (l : List (List α)) (x : List α), x ∈ l → (x.length : Int) ≤ slen l
  | [], x, h => by simp at h
  | y :: l, x, h => by
    have h0 := slen_nn l
    unfold slen
    cases List.mem_cons.1 h with
    | inl e => rw [e]; omega
    | inr e => have := slen_mem l x e; omega
theorem slen_map {α β : Type} (f : α → β) : ∀ l : List (List α), slen (l.map fun x => x.map f) = slen l
  | [] => rfl
  | x :: l => by
    have := slen_map f l
    simp only [List.map_cons, slen, List.length_map, this]

/-! ### szNet -/
theorem rdL_FlitSS (pre : List (List S183)) (x : List S183) (rest : List (List S183)) : rd_L3 (pre ++ x :: rest) (pre.length : Int) = x := getD_mid pre x rest _
theorem szFlitSS_l0 : ∀ (rest pre : List (List S183)) (n : Int), 0 ≤ n → n ≤ 1048576 → pre.length + rest.length ≤ 1048576 → (∀ x ∈ rest, x.length ≤ maxLen) →
    ∃ r, Ev (fun k => laws_szFlitSS.l0 k (pre ++ rest) n (pre.length : Int)) r ∧ (r < 0 ∨ (0 ≤ r ∧ r = n - slen rest))
  | [], pre, n, h0, h1, hl, hx => by
    refine ⟨n, Ev.suc ?_, .inr ⟨h0, by simp [slen]⟩⟩
    simp only [laws_szFlitSS.l0]
    exact Ev.ite_neg (by simp) (Ev.now _)
  | x :: rest, pre, n, h0, h1, hl, hx => by
    simp only [List.length_cons] at hl
    have hlt : (pre.length : Int) < ((pre ++ x :: rest).length : Int) := by simp only [List.length_append, List.length_cons]; omega
    have hw : wrap64 ((pre.length : Int) + 1) = ((pre ++ [x]).length : Int) := by rw [w64 (by omega) (by omega), len_snoc]
    have hz := szFlitS_f x n (hx x List.mem_cons_self) h0 h1
    by_cases hc : n < (x.length : Int)
    · rw [if_pos hc] at hz
      refine ⟨-1, Ev.suc ?_, .inl (by omega)⟩
      simp only [laws_szFlitSS.l0, rdL_FlitSS, hz, Option.bind_some]
      exact Ev.ite_pos hlt (Ev.ite_pos (by omega) (Ev.ite_pos (by omega) (Ev.now _)))
    · rw [if_neg hc] at hz
      obtain ⟨r, hr, hr2⟩ := szFlitSS_l0 rest (pre ++ [x]) (n - (x.length : Int)) (by omega) (by omega) (by simp only [List.length_append, List.length_cons, List.length_nil]; omega) (fun y hy => hx y (List.mem_cons_of_mem _ hy))
      rw [← snoc_app pre x rest] at hr
      refine ⟨r, Ev.suc ?_, ?_⟩
      · simp only [laws_szFlitSS.l0, rdL_FlitSS, hz, Option.bind_some, hw]
        exact Ev.ite_pos hlt (Ev.ite_pos (by omega) (Ev.ite_neg (by omega) hr))
      · unfold slen
        omega
theorem szFlitSS_f (l : List (List S183)) (n : Int) (hl : l.length ≤ maxLen) (hx : ∀ x ∈ l, x.length ≤ maxLen) (h0 : 0 ≤ n) (h1 : n ≤ 1048576) :
    ∃ r, Ev (fun k => laws_szFlitSS.f k l n) r ∧ (r < 0 ∨ (0 ≤ r ∧ r = n - (l.length : Int) - slen l)) := by
  have hm : maxLen = 9223372036854775807 := rfl
  have e : wrap64 (n - (l.length : Int)) = n - (l.length : Int) := w64 (by omega) (by omega)
  by_cases h : n - (l.length : Int) < 0
  · refine ⟨-1, ?_, .inl (by omega)⟩
    unfold laws_szFlitSS.f
    rw [e]
    exact Ev.ite_pos h (Ev.now _)
  · obtain ⟨r, hr, hr2⟩ := szFlitSS_l0 l [] (n - (l.length : Int)) (by omega) (by omega) (by simp; omega) hx
    refine ⟨r, ?_, hr2⟩
    unfold laws_szFlitSS.f
    rw [e]
    exact Ev.ite_neg h hr
/-- Behind szNet: how great the lists are. -/
abbrev NB (br p q : List Int) (B : List (List S183)) (O T : List Int) (C A : List (List S183)) : Prop :=
  br.length ≤ 1048576 ∧ p.length ≤ 1048576 ∧ q.length ≤ 1048576 ∧ (B.length ≤ 1048576 ∧ slen B ≤ 1048576) ∧ O.length ≤ 1048576 ∧ T.length ≤ 1048576 ∧ (C.length ≤ 1048576 ∧ slen C ≤ 1048576) ∧ (A.length ≤ 1048576 ∧ slen A ≤ 1048576)
theorem szNet_f (w h : Int) (br p q : List Int) (B : List (List S183)) (O T : List Int) (C A : List (List S183)) (t : Int) (n : Int) (hbr : br.length ≤ maxLen) (hp : p.length ≤ maxLen) (hq : q.length ≤ maxLen) (hB : B.length ≤ maxLen ∧ ∀ x ∈ B, x.length ≤ maxLen) (hO : O.length ≤ maxLen) (hT : T.length ≤ maxLen)
    (hC : C.length ≤ maxLen ∧ ∀ x ∈ C, x.length ≤ maxLen) (hA : A.length ≤ maxLen ∧ ∀ x ∈ A, x.length ≤ maxLen) (h0 : 0 ≤ n) (h1 : n ≤ 1048576) :
    ∃ r, Ev (fun k => laws_szNet.f k w h br p q B O T C A t n) r ∧ (r < 0 ∨ (0 ≤ r ∧ r ≤ n ∧ NB br p q B O T C A)) := by
  unfold laws_szNet.f
  have e1 := szMesh_f w h br n hbr h0 h1
  by_cases c1 : n < (br.length : Int)
  · rw [if_pos c1] at e1
    exact ⟨-1, Ev.bindS e1 (Ev.ite_pos (by omega) (Ev.now _)), .inl (by omega)⟩
  rw [if_neg c1] at e1
  obtain ⟨r2, e2, f2⟩ := szClasses_f p q (n - (br.length : Int)) hp hq (by omega) (by omega)
  by_cases c2 : r2 < 0
  · exact ⟨-1, Ev.bindS e1 (Ev.ite_neg (by omega) (Ev.bindS e2 (Ev.ite_pos c2 (Ev.now _)))), .inl (by omega)⟩
  obtain ⟨r3, e3, f3⟩ := szFlitSS_f B r2 hB.1 hB.2 (by omega) (by omega)
  by_cases c3 : r3 < 0
  · exact ⟨-1, Ev.bindS e1 (Ev.ite_neg (by omega) (Ev.bindS e2 (Ev.ite_neg c2 (Ev.bind e3 (Ev.ite_pos c3 (Ev.now _)))))), .inl (by omega)⟩
  have s3 := slen_nn B
  have e4 := szIntS_f O r3 hO (by omega) (by omega)
  by_cases c4 : r3 < (O.length : Int)
  · rw [if_pos c4] at e4
    exact ⟨-1, Ev.bindS e1 (Ev.ite_neg (by omega) (Ev.bindS e2 (Ev.ite_neg c2 (Ev.bind e3 (Ev.ite_neg c3 (Ev.bindS e4 (Ev.ite_pos (by omega) (Ev.now _)))))))), .inl (by omega)⟩
  rw [if_neg c4] at e4
  have e5 := szIntS_f T (r3 - (O.length : Int)) hT (by omega) (by omega)
  by_cases c5 : r3 - (O.length : Int) < (T.length : Int)
  · rw [if_pos c5] at e5
    exact ⟨-1, Ev.bindS e1 (Ev.ite_neg (by omega) (Ev.bindS e2 (Ev.ite_neg c2 (Ev.bind e3 (Ev.ite_neg c3 (Ev.bindS e4 (Ev.ite_neg (by omega) (Ev.bindS e5 (Ev.ite_pos (by omega) (Ev.now _)))))))))), .inl (by omega)⟩
  rw [if_neg c5] at e5
  obtain ⟨r6, e6, f6⟩ := szFlitSS_f C (r3 - (O.length : Int) - (T.length : Int)) hC.1 hC.2 (by omega) (by omega)
  by_cases c6 : r6 < 0
  · exact ⟨-1, Ev.bindS e1 (Ev.ite_neg (by omega) (Ev.bindS e2 (Ev.ite_neg c2 (Ev.bind e3 (Ev.ite_neg c3 (Ev.bindS e4 (Ev.ite_neg (by omega) (Ev.bindS e5 (Ev.ite_neg (by omega) (Ev.bind e6 (Ev.ite_pos c6 (Ev.now _)))))))))))), .inl (by omega)⟩
  have s6 := slen_nn C
  obtain ⟨r7, e7, f7⟩ := szFlitSS_f A r6 hA.1 hA.2 (by omega) (by omega)
  by_cases c7 : r7 < 0
  · exact ⟨-1, Ev.bindS e1 (Ev.ite_neg (by omega) (Ev.bindS e2 (Ev.ite_neg c2 (Ev.bind e3 (Ev.ite_neg c3 (Ev.bindS e4 (Ev.ite_neg (by omega) (Ev.bindS e5 (Ev.ite_neg (by omega) (Ev.bind e6 (Ev.ite_neg c6 (Ev.bind e7 (Ev.ite_pos c7 (Ev.now _)))))))))))))), .inl (by omega)⟩
  have s7 := slen_nn A
  refine ⟨r7, Ev.bindS e1 (Ev.ite_neg (by omega) (Ev.bindS e2 (Ev.ite_neg c2 (Ev.bind e3 (Ev.ite_neg c3 (Ev.bindS e4 (Ev.ite_neg (by omega) (Ev.bindS e5 (Ev.ite_neg (by omega) (Ev.bind e6 (Ev.ite_neg c6 (Ev.bind e7 (Ev.ite_neg c7 (Ev.now _)))))))))))))), .inr ?_⟩
  refine ⟨by omega, by omega, by omega, by omega, by omega, ⟨by omega, by omega⟩, by omega, by omega, ⟨by omega, by omega⟩, by omega, by omega⟩

/-! ### toFlitS -/
def cvFlit (x : S183) : S138 := ⟨x.f0, x.f1, x.f2, x.f3, x.f4⟩
theorem rdL_Flit (pre : List S183) (x : S183) (rest : List S183) : rd_T183 (pre ++ x :: rest) (pre.length : Int) = x := getD_mid pre x rest _
theorem toFlitS_l0 : ∀ (rest pre : List S183) (z : List S138), z.length = rest.length → pre.length + rest.length ≤ 1152921504606846976 →
    Ev (fun k => laws_toFlitS.l0 k (pre ++ rest) (pre.map cvFlit ++ z) (pre.length : Int)) ((pre ++ rest).map cvFlit)
  | [], pre, z, hz, _ => by
    have : z = [] := List.length_eq_zero_iff.1 hz
    subst this
    refine Ev.suc ?_
    simp only [laws_toFlitS.l0]
    refine Ev.ite_neg (by simp) (Ev.val (by simp))
  | x :: rest, pre, z, hz, hl => by
    obtain ⟨y, z, rfl⟩ : ∃ y z', z = y :: z' := by
      cases z with
      | nil => simp at hz
      | cons y z' => exact ⟨y, z', rfl⟩
    simp only [List.length_cons] at hz hl
    have hset : (pre.map cvFlit ++ y :: z).set ((pre.length : Int)).toNat (cvFlit x) = (pre ++ [x]).map cvFlit ++ z := by
      have h := set_mid (pre.map cvFlit) y (cvFlit x) z
      rw [List.length_map] at h
      rw [h]
      simp
    refine Ev.suc ?_
    simp only [laws_toFlitS.l0, rdL_Flit, laws_toFlit.f, Option.bind_some]
    refine Ev.ite_pos (by simp only [List.length_append, List.length_cons]; omega) ?_
    refine Ev.ite_pos (by omega) ?_
    refine Ev.ite_pos (by simp only [List.length_append, List.length_cons, List.length_map]; omega) ?_
    have hset' := hset
    unfold cvFlit at hset'
    simp only [cvFlit] at hset ⊢
    rw [hset, w64 (by omega) (by omega), ← len_snoc pre x, snoc_app pre x rest]
    exact toFlitS_l0 rest (pre ++ [x]) z (by omega) (by simp only [List.length_append, List.length_cons, List.length_nil]; omega)
theorem toFlitS_f (l : List S183) (h : l.length ≤ 1048576) : Ev (fun k => laws_toFlitS.f k l) (l.map cvFlit) := by
  unfold laws_toFlitS.f
  refine Ev.ite_pos (by omega) ?_
  refine Ev.ite_pos (by omega) ?_
  exact toFlitS_l0 l [] _ (by simp) (by simp; omega)

/-! ### toIntS -/
theorem toIntS_l0 : ∀ (rest pre z : List Int), z.length = rest.length → pre.length + rest.length ≤ 1152921504606846976 → Ev (fun k => laws_toIntS.l0 k (pre ++ rest) (pre ++ z) (pre.length : Int)) (pre ++ rest)
  | [], pre, z, hz, _ => by
    have : z = [] := List.length_eq_zero_iff.1 hz
    subst this
    refine Ev.suc ?_
    simp only [laws_toIntS.l0]
    refine Ev.ite_neg (by simp) (Ev.now _)
  | x :: rest, pre, z, hz, hl => by
    obtain ⟨y, z, rfl⟩ : ∃ y z', z = y :: z' := by
      cases z with
      | nil => simp at hz
      | cons y z' => exact ⟨y, z', rfl⟩
    simp only [List.length_cons] at hz hl
    refine Ev.suc ?_
    simp only [laws_toIntS.l0, rd_mid, set_mid]
    refine Ev.ite_pos (by simp only [List.length_append, List.length_cons]; omega) ?_
    refine Ev.ite_pos (by omega) ?_
    refine Ev.ite_pos (by simp only [List.length_append, List.length_cons]; omega) ?_
    rw [w64 (by omega) (by omega), ← len_snoc pre x, snoc_app pre x rest, snoc_app pre x z]
    exact toIntS_l0 rest (pre ++ [x]) z (by omega) (by simp only [List.length_append, List.length_cons, List.length_nil]; omega)
theorem toIntS_f (l : List Int) (h : l.length ≤ 35184372088832) : Ev (fun k => laws_toIntS.f k l) l := by
  unfold laws_toIntS.f
  refine Ev.ite_pos (by omega) ?_
  refine Ev.ite_pos (by omega) ?_
  exact toIntS_l0 l [] _ (by simp) (by simp; omega)

/-! ### toMesh -/
theorem toMesh_f (w h : Int) (l : List Int) (hl : l.length ≤ 35184372088832) : Ev (fun k => laws_toMesh.f k w h l) (w, h, l) := by
  unfold laws_toMesh.f laws_toGrid.f
  simp only [Option.bind_some]
  exact Ev.bind (toIntS_f l hl) (Ev.now _)

/-! ### toCls -/
theorem toTable_f (l : List Int) (h : l.length ≤ 35184372088832) : Ev (fun k => laws_toTable.f k l) l := by
  unfold laws_toTable.f
  exact Ev.bind (toIntS_f l h) (Ev.now _)
theorem toClasses_f (a b : List Int) (ha : a.length ≤ 35184372088832) (hb : b.length ≤ 35184372088832) : Ev (fun k => laws_toClasses.f k a b) (a, b) := by
  unfold laws_toClasses.f
  exact Ev.bind (toTable_f a ha) (Ev.bind (toTable_f b hb) (Ev.now _))

/-! ### toNet -/
def cvSS (l : List (List S183)) : List (List S138) := l.map fun x => x.map cvFlit
theorem cvSS_len (l : List (List S183)) : (cvSS l).length = l.length := by simp [cvSS]
theorem cvSS_slen (l : List (List S183)) : slen (cvSS l) = slen l := slen_map _ _
theorem toFlitSS_l0 : ∀ (rest pre : List (List S183)) (z : List (List S138)), z.length = rest.length → pre.length + rest.length ≤ 1152921504606846976 → (∀ x ∈ rest, x.length ≤ 1048576) →
    Ev (fun k => laws_toFlitSS.l0 k (pre ++ rest) (cvSS pre ++ z) (pre.length : Int)) (cvSS (pre ++ rest))
  | [], pre, z, hz, _, _ => by
    have : z = [] := List.length_eq_zero_iff.1 hz
    subst this
    refine Ev.suc ?_
    simp only [laws_toFlitSS.l0]
    refine Ev.ite_neg (by simp) (Ev.val (by simp))
  | x :: rest, pre, z, hz, hl, hx => by
    obtain ⟨y, z, rfl⟩ : ∃ y z', z = y :: z' := by
      cases z with
      | nil => simp at hz
      | cons y z' => exact ⟨y, z', rfl⟩
    simp only [List.length_cons] at hz hl
    have hset : (cvSS pre ++ y :: z).set ((pre.length : Int)).toNat (x.map cvFlit) = cvSS (pre ++ [x]) ++ z := by
      have h := set_mid (cvSS pre) y (x.map cvFlit) z
      rw [cvSS_len] at h
      rw [h]
      simp [cvSS]
    have ih := toFlitSS_l0 rest (pre ++ [x]) z (by omega) (by simp only [List.length_append, List.length_cons, List.length_nil]; omega) (fun y hy => hx y (List.mem_cons_of_mem _ hy))
    refine Ev.suc ?_
    simp only [laws_toFlitSS.l0, rdL_FlitSS]
    refine Ev.ite_pos (by simp only [List.length_append, List.length_cons]; omega) (Ev.ite_pos (by omega) (Ev.bind (toFlitS_f x (hx x List.mem_cons_self)) ?_))
    refine Ev.ite_pos (by simp only [List.length_append, List.length_cons, cvSS_len]; omega) ?_
    rw [hset, w64 (by omega) (by omega), ← len_snoc pre x, snoc_app pre x rest]
    exact ih
theorem toFlitSS_f (l : List (List S183)) (h : l.length ≤ 1048576) (hx : slen l ≤ 1048576) : Ev (fun k => laws_toFlitSS.f k l) (cvSS l) := by
  unfold laws_toFlitSS.f
  refine Ev.ite_pos (by omega) (Ev.ite_pos (by omega) ?_)
  exact toFlitSS_l0 l [] _ (by simp) (by simp; omega) (fun x hm => by have := slen_mem l x hm; omega)
theorem toNet_f (w h : Int) (br p q : List Int) (B : List (List S183)) (O T : List Int) (C A : List (List S183)) (t : Int) (hb : NB br p q B O T C A) :
    Ev (fun k => laws_toNet.f k w h br p q B O T C A t) (w, h, br, p, q, cvSS B, O, T, cvSS C, cvSS A, t) := by
  obtain ⟨h1, h2, h3, h4, h5, h6, h7, h8⟩ := hb
  unfold laws_toNet.f
  exact Ev.bind (toMesh_f w h br (by omega)) (Ev.bind (toClasses_f p q (by omega) (by omega)) (Ev.bind (toFlitSS_f B h4.1 h4.2) (Ev.bind (toIntS_f O (by omega)) (Ev.bind (toIntS_f T (by omega)) (Ev.bind (toFlitSS_f C h7.1 h7.2) (Ev.bind (toFlitSS_f A h8.1 h8.2) (Ev.now _)))))))

/-! ### rdSS -/
theorem rdI_FlitSS (pre : List (List S138)) (x : List S138) (rest : List (List S138)) : rd_L5 (pre ++ x :: rest) (pre.length : Int) = x := getD_mid pre x rest _

/-! ### rdFlit -/
theorem rdI_Flit (pre : List S138) (x : S138) (rest : List S138) : rd_T138 (pre ++ x :: rest) (pre.length : Int) = x := getD_mid pre x rest _

/-! ### eqFlit -/
theorem eqFlit_f (a0 a1 a2 : Int) (a3 a4 : Bool) : laws_eqFlit.f a0 a1 a2 a3 a4 a0 a1 a2 a3 a4 = some true := by
  unfold laws_eqFlit.f
  simp

/-! ### eqFlitS -/
theorem eqFlitS_l0 : ∀ (rest pre : List S138), pre.length + rest.length ≤ 1152921504606846976 → Ev (fun k => laws_eqFlitS.l0 k (pre ++ rest) (pre ++ rest) (pre.length : Int)) true
  | [], pre, _ => by
    refine Ev.suc ?_
    simp only [laws_eqFlitS.l0]
    refine Ev.ite_neg (by simp) (Ev.now _)
  | x :: rest, pre, hl => by
    simp only [List.length_cons] at hl
    refine Ev.suc ?_
    simp only [laws_eqFlitS.l0, rdI_Flit, eqFlit_f, Option.bind_some]
    refine Ev.ite_pos (by simp only [List.length_append, List.length_cons]; omega) ?_
    refine Ev.ite_pos (by omega) ?_
    refine Ev.ite_pos (by simp only [List.length_append, List.length_cons]; omega) ?_
    refine Ev.ite_pos trivial ?_
    rw [w64 (by omega) (by omega), ← len_snoc pre x, snoc_app pre x rest]
    exact eqFlitS_l0 rest (pre ++ [x]) (by simp only [List.length_append, List.length_cons, List.length_nil]; omega)
theorem eqFlitS_f (l : List S138) (h : l.length ≤ 1152921504606846976) : Ev (fun k => laws_eqFlitS.f k l l) true := by
  unfold laws_eqFlitS.f
  refine Ev.ite_pos rfl ?_
  exact eqFlitS_l0 l [] (by simpa using h)

/-! ### eqIntS -/
theorem eqIntS_l0 : ∀ (rest pre : List Int), pre.length + rest.length ≤ 1152921504606846976 → Ev (fun k => laws_eqIntS.l0 k (pre ++ rest) (pre ++ rest) (pre.length : Int)) true
  | [], pre, _ => by
    refine Ev.suc ?_
    simp only [laws_eqIntS.l0]
    refine Ev.ite_neg (by simp) (Ev.now _)
  | x :: rest, pre, hl => by
    simp only [List.length_cons] at hl
    refine Ev.suc ?_
    simp only [laws_eqIntS.l0, rd_mid]
    refine Ev.ite_pos (by simp only [List.length_append, List.length_cons]; omega) ?_
    refine Ev.ite_pos (by omega) ?_
    refine Ev.ite_pos (by simp only [List.length_append, List.length_cons]; omega) ?_
    refine Ev.ite_pos trivial ?_
    rw [w64 (by omega) (by omega), ← len_snoc pre x, snoc_app pre x rest]
    exact eqIntS_l0 rest (pre ++ [x]) (by simp only [List.length_append, List.length_cons, List.length_nil]; omega)
theorem eqIntS_f (l : List Int) (h : l.length ≤ 35184372088832) : Ev (fun k => laws_eqIntS.f k l l) true := by
  unfold laws_eqIntS.f
  refine Ev.ite_pos rfl ?_
  exact eqIntS_l0 l [] (by simp; omega)

/-! ### eqMesh -/
theorem eqMesh_f (w h : Int) (l : List Int) (hl : l.length ≤ 35184372088832) : Ev (fun k => laws_eqMesh.f k w h l w h l) true := by
  unfold laws_eqMesh.f laws_eqGrid.f
  simp only [if_true, Option.bind_some]
  exact Ev.bind (eqIntS_f l hl) (Ev.ite_pos rfl (Ev.now _))

/-! ### eqCls -/
theorem eqTable_f (l : List Int) (h : l.length ≤ 35184372088832) : Ev (fun k => laws_eqTable.f k l l) true := by
  unfold laws_eqTable.f
  exact Ev.bind (eqIntS_f l h) (Ev.ite_pos rfl (Ev.now _))
theorem eqClasses_f (a b : List Int) (ha : a.length ≤ 35184372088832) (hb : b.length ≤ 35184372088832) : Ev (fun k => laws_eqClasses.f k a b a b) true := by
  unfold laws_eqClasses.f
  exact Ev.bind (eqTable_f a ha) (Ev.ite_pos rfl (Ev.bind (eqTable_f b hb) (Ev.ite_pos rfl (Ev.now _))))

/-! ### eqNet -/
theorem eqFlitSS_l0 : ∀ (rest pre : List (List S138)), pre.length + rest.length ≤ 1152921504606846976 → (∀ x ∈ rest, x.length ≤ 1048576) → Ev (fun k => laws_eqFlitSS.l0 k (pre ++ rest) (pre ++ rest) (pre.length : Int)) true
  | [], pre, _, _ => by
    refine Ev.suc ?_
    simp only [laws_eqFlitSS.l0]
    refine Ev.ite_neg (by simp) (Ev.now _)
  | x :: rest, pre, hl, hx => by
    simp only [List.length_cons] at hl
    have h1 : (pre.length : Int) < ((pre ++ x :: rest).length : Int) := by simp only [List.length_append, List.length_cons]; omega
    have ih := eqFlitSS_l0 rest (pre ++ [x]) (by simp only [List.length_append, List.length_cons, List.length_nil]; omega) (fun y hy => hx y (List.mem_cons_of_mem _ hy))
    have hx0 := hx x List.mem_cons_self
    refine Ev.suc ?_
    simp only [laws_eqFlitSS.l0, rdI_FlitSS]
    refine Ev.ite_pos h1 (Ev.ite_pos (by omega) (Ev.ite_pos h1 (Ev.bind (eqFlitS_f x (by omega)) (Ev.ite_pos rfl ?_))))
    rw [w64 (by omega) (by omega), ← len_snoc pre x, snoc_app pre x rest]
    exact ih
theorem eqFlitSS_f (l : List (List S138)) (h : l.length ≤ 1048576) (hx : slen l ≤ 1048576) : Ev (fun k => laws_eqFlitSS.f k l l) true := by
  unfold laws_eqFlitSS.f
  refine Ev.ite_pos rfl ?_
  exact eqFlitSS_l0 l [] (by simp; omega) (fun x hm => by have := slen_mem l x hm; omega)
theorem eqNet_f (w h : Int) (br p q : List Int) (B : List (List S138)) (O T : List Int) (C A : List (List S138)) (t : Int) (hbr : br.length ≤ 1048576) (hp : p.length ≤ 1048576) (hq : q.length ≤ 1048576) (hB : B.length ≤ 1048576 ∧ slen B ≤ 1048576) (hO : O.length ≤ 1048576) (hT : T.length ≤ 1048576)
    (hC : C.length ≤ 1048576 ∧ slen C ≤ 1048576) (hA : A.length ≤ 1048576 ∧ slen A ≤ 1048576) : Ev (fun k => laws_eqNet.f k w h br p q B O T C A t w h br p q B O T C A t) true := by
  unfold laws_eqNet.f
  exact Ev.bind (eqMesh_f w h br (by omega)) (Ev.ite_pos rfl (Ev.bind (eqClasses_f p q (by omega) (by omega)) (Ev.ite_pos rfl (Ev.bind (eqFlitSS_f B hB.1 hB.2) (Ev.ite_pos rfl (Ev.bind (eqIntS_f O (by omega)) (Ev.ite_pos rfl (Ev.bind (eqIntS_f T (by omega)) (Ev.ite_pos rfl (Ev.bind (eqFlitSS_f C hC.1 hC.2) (Ev.ite_pos rfl (Ev.bind (eqFlitSS_f A hA.1 hA.2) (Ev.ite_pos rfl (Ev.ite_pos rfl (Ev.now _)))))))))))))))

/-! ### flNe -/
def flNe (x y : S138) : Bool := (!(x.f0 == y.f0)) || ((!(x.f1 == y.f1)) || ((!(x.f2 == y.f2)) || ((!(x.f3 == y.f3)) || (!(x.f4 == y.f4)))))
def sameR : List S138 → List S138 → Bool
  | [], [] => true
  | x :: a, y :: b => !flNe x y && sameR a b
  | _, _ => false
theorem sameR_len : ∀ a b : List S138, a.length ≠ b.length → sameR a b = false
  | [], [], h => absurd rfl h
  | [], _ :: _, _ => rfl
  | _ :: _, [], _ => rfl
  | x :: a, y :: b, h => by
    unfold sameR
    rw [sameR_len a b (fun e => h (by simp [e])), Bool.and_false]

/-! ### SameFlits_s -/
theorem SameFlits_s_l0 : ∀ (ra rb pa pb : List S138), pa.length = pb.length → ra.length = rb.length → pa.length + ra.length < 1152921504606846976 →
    Ev (fun k => spec_SameFlits.l0 k (pa ++ ra) (pb ++ rb) (pa.length : Int)) (sameR ra rb)
  | [], rb, pa, pb, hp, hr, hl => by
    have : rb = [] := List.length_eq_zero_iff.1 hr.symm
    subst this
    refine Ev.suc ?_
    simp only [spec_SameFlits.l0]
    exact Ev.ite_neg (by simp) (Ev.val (by simp [sameR]))
  | x :: ra, rb, pa, pb, hp, hr, hl => by
    obtain ⟨y, rb, rfl⟩ : ∃ y rb', rb = y :: rb' := by
      cases rb with
      | nil => simp at hr
      | cons y rb' => exact ⟨y, rb', rfl⟩
    simp only [List.length_cons] at hr hl
    have h1 : (pa.length : Int) < ((pa ++ x :: ra).length : Int) := by simp only [List.length_append, List.length_cons]; omega
    have h2 : (pa.length : Int) < ((pb ++ y :: rb).length : Int) := by simp only [List.length_append, List.length_cons]; omega
    have hw : wrap64 ((pa.length : Int) + 1) = ((pa ++ [x]).length : Int) := by rw [w64 (by omega) (by omega), len_snoc]
    have e2 : rd_T138 (pb ++ y :: rb) (pa.length : Int) = y := by
      rw [hp]
      exact rdI_Flit _ _ _
    have ih := SameFlits_s_l0 ra rb (pa ++ [x]) (pb ++ [y]) (by simp [hp]) (by omega) (by simp only [List.length_append, List.length_cons, List.length_nil]; omega)
    rw [← snoc_app pa x ra, ← snoc_app pb y rb] at ih
    refine Ev.suc ?_
    simp only [spec_SameFlits.l0, rdI_Flit, e2, hw]
    refine Ev.ite_pos h1 (Ev.ite_pos (by omega) ((Ev.ite_pos h2 ?_)))
    refine Ev.ite (fun h => Ev.val ?_) (fun h => ?_)
    · have h' : flNe x y = true := h
      simp [sameR, h']
    · have h' : flNe x y = false := by
        cases hb : flNe x y with
        | true => exact absurd hb h
        | false => rfl
      refine Ev.eq ih ?_
      simp [sameR, h']
theorem SameFlits_s (a b : List S138) (h : a.length ≤ 1048576) : Ev (fun k => spec_SameFlits.f k a b) (sameR a b) := by
  unfold spec_SameFlits.f
  skip
  refine Ev.ite (fun h2 => ?_) (fun h2 => Ev.val (sameR_len a b (by omega)).symm)
  exact SameFlits_s_l0 a b [] [] rfl (by omega) (by simp; omega)

/-! ### SameFlits_i -/
theorem SameFlits_i_l0 : ∀ (ra rb pa pb : List S138), pa.length = pb.length → ra.length = rb.length → pa.length + ra.length < 1152921504606846976 →
    Ev (fun k => impl_Flit.l0 k (pa ++ ra) (pb ++ rb) ((pa ++ ra).length : Int) (pa.length : Int)) (sameR ra rb)
  | [], rb, pa, pb, hp, hr, hl => by
    have : rb = [] := List.length_eq_zero_iff.1 hr.symm
    subst this
    refine Ev.suc ?_
    simp only [impl_Flit.l0]
    exact Ev.ite_neg (by simp) (Ev.val (by simp [sameR]))
  | x :: ra, rb, pa, pb, hp, hr, hl => by
    obtain ⟨y, rb, rfl⟩ : ∃ y rb', rb = y :: rb' := by
      cases rb with
      | nil => simp at hr
      | cons y rb' => exact ⟨y, rb', rfl⟩
    simp only [List.length_cons] at hr hl
    have h1 : (pa.length : Int) < ((pa ++ x :: ra).length : Int) := by simp only [List.length_append, List.length_cons]; omega
    have h2 : (pa.length : Int) < ((pb ++ y :: rb).length : Int) := by simp only [List.length_append, List.length_cons]; omega
    have hw : wrap64 ((pa.length : Int) + 1) = ((pa ++ [x]).length : Int) := by rw [w64 (by omega) (by omega), len_snoc]
    have e2 : rd_T138 (pb ++ y :: rb) (pa.length : Int) = y := by
      rw [hp]
      exact rdI_Flit _ _ _
    have ih := SameFlits_i_l0 ra rb (pa ++ [x]) (pb ++ [y]) (by simp [hp]) (by omega) (by simp only [List.length_append, List.length_cons, List.length_nil]; omega)
    rw [← snoc_app pa x ra, ← snoc_app pb y rb] at ih
    refine Ev.suc ?_
    simp only [impl_Flit.l0, rdI_Flit, e2, hw]
    refine Ev.ite_pos h1 (Ev.ite_pos (by omega) (Ev.ite_pos h1 (Ev.ite_pos h2 ?_)))
    refine Ev.ite (fun h => Ev.val ?_) (fun h => ?_)
    · have h' : flNe x y = true := h
      simp [sameR, h']
    · have h' : flNe x y = false := by
        cases hb : flNe x y with
        | true => exact absurd hb h
        | false => rfl
      refine Ev.eq ih ?_
      simp [sameR, h']
theorem SameFlits_i (a b : List S138) (h : a.length ≤ 1048576) : Ev (fun k => impl_SameFlits.f k a b) (sameR a b) := by
  unfold impl_SameFlits.f impl_Flit.f
  refine Ev.bind (f := fun _ t => some t) (?_ : Ev _ (sameR a b)) (Ev.now _)
  refine Ev.ite (fun h2 => ?_) (fun h2 => Ev.val (sameR_len a b (by omega)).symm)
  exact SameFlits_i_l0 a b [] [] rfl (by omega) (by simp; omega)

/-! ### sameNet -/
def sameLs : List (List S138) → List (List S138) → Bool
  | [], [] => true
  | x :: a, y :: b => sameR x y && sameLs a b
  | _, _ => false
theorem sameLs_len : ∀ a b : List (List S138), a.length ≠ b.length → sameLs a b = false
  | [], [], h => absurd rfl h
  | [], _ :: _, _ => rfl
  | _ :: _, [], _ => rfl
  | x :: a, y :: b, h => by
    have ih := sameLs_len a b (fun e => h (by simp [e]))
    simp [sameLs, ih]
theorem Ev.andb {g f : Nat → Option Bool} {a b : Bool} (H : Ev g a) (K : Ev f b) : Ev (fun k => (g k).bind fun t => if t = true then f k else some false) (a && b) := by
  refine Ev.bind H ?_
  cases a with
  | true => exact Ev.ite_pos rfl (Ev.eq K (by simp))
  | false => exact Ev.ite_neg (by simp) (Ev.val (by simp))
theorem Ev.lastb {g : Nat → Option Bool} {a : Bool} (H : Ev g a) : Ev (fun k => (g k).bind fun t => some t) a := Ev.bind H (Ev.now _)
theorem l19Lists_s_l0 : ∀ (ra rb pa pb : List (List S138)), pa.length = pb.length → ra.length = rb.length → pa.length + ra.length ≤ 1048576 → (∀ x ∈ ra, x.length ≤ 1048576) →
    Ev (fun k => spec_l19Lists.l0 k (pa ++ ra) (pb ++ rb) (pa.length : Int)) (sameLs ra rb)
  | [], rb, pa, pb, hp, hr, hl, hx => by
    have : rb = [] := List.length_eq_zero_iff.1 hr.symm
    subst this
    refine Ev.suc ?_
    simp only [spec_l19Lists.l0]
    exact Ev.ite_neg (by simp) (Ev.val (by simp [sameLs]))
  | x :: ra, rb, pa, pb, hp, hr, hl, hx => by
    obtain ⟨y, rb, rfl⟩ : ∃ y rb', rb = y :: rb' := by
      cases rb with
      | nil => simp at hr
      | cons y rb' => exact ⟨y, rb', rfl⟩
    simp only [List.length_cons] at hr hl
    have h1 : (pa.length : Int) < ((pa ++ x :: ra).length : Int) := by simp only [List.length_append, List.length_cons]; omega
    have h2 : (pa.length : Int) < ((pb ++ y :: rb).length : Int) := by simp only [List.length_append, List.length_cons]; omega
    have hw : wrap64 ((pa.length : Int) + 1) = ((pa ++ [x]).length : Int) := by rw [w64 (by omega) (by omega), len_snoc]
    have e2 : rd_L5 (pb ++ y :: rb) (pa.length : Int) = y := by
      rw [hp]
      exact rdI_FlitSS _ _ _
    have ih := l19Lists_s_l0 ra rb (pa ++ [x]) (pb ++ [y]) (by simp [hp]) (by omega) (by simp only [List.length_append, List.length_cons, List.length_nil]; omega) (fun z hz => hx z (List.mem_cons_of_mem _ hz))
    rw [← snoc_app pa x ra, ← snoc_app pb y rb] at ih
    have hs := SameFlits_s x y (hx x List.mem_cons_self)
    refine Ev.suc ?_
    simp only [spec_l19Lists.l0, rdI_FlitSS, e2, hw]
    exact Ev.ite_pos h1 (Ev.ite_pos (by omega) (Ev.ite_pos h2 (Ev.andb hs ih)))
theorem l19Lists_s (a b : List (List S138)) (h : a.length ≤ 1048576) (hx : ∀ x ∈ a, x.length ≤ 1048576) : Ev (fun k => spec_l19Lists.f k a b) (sameLs a b) := by
  unfold spec_l19Lists.f
  refine Ev.ite (fun h2 => ?_) (fun h2 => Ev.val (sameLs_len a b (by omega)).symm)
  exact l19Lists_s_l0 a b [] [] rfl (by omega) (by simp; omega) hx
theorem sameLists_i_l0 : ∀ (ra rb pa pb : List (List S138)), pa.length = pb.length → ra.length = rb.length → pa.length + ra.length ≤ 1048576 → (∀ x ∈ ra, x.length ≤ 1048576) →
    Ev (fun k => impl_sameLists.l0 k (pa ++ ra) (pb ++ rb) (pa.length : Int)) (sameLs ra rb)
  | [], rb, pa, pb, hp, hr, hl, hx => by
    have : rb = [] := List.length_eq_zero_iff.1 hr.symm
    subst this
    refine Ev.suc ?_
    simp only [impl_sameLists.l0]
    exact Ev.ite_neg (by simp) (Ev.val (by simp [sameLs]))
  | x :: ra, rb, pa, pb, hp, hr, hl, hx => by
    obtain ⟨y, rb, rfl⟩ : ∃ y rb', rb = y :: rb' := by
      cases rb with
      | nil => simp at hr
      | cons y rb' => exact ⟨y, rb', rfl⟩
    simp only [List.length_cons] at hr hl
    have h1 : (pa.length : Int) < ((pa ++ x :: ra).length : Int) := by simp only [List.length_append, List.length_cons]; omega
    have h2 : (pa.length : Int) < ((pb ++ y :: rb).length : Int) := by simp only [List.length_append, List.length_cons]; omega
    have hw : wrap64 ((pa.length : Int) + 1) = ((pa ++ [x]).length : Int) := by rw [w64 (by omega) (by omega), len_snoc]
    have e2 : rd_L5 (pb ++ y :: rb) (pa.length : Int) = y := by
      rw [hp]
      exact rdI_FlitSS _ _ _
    have ih := sameLists_i_l0 ra rb (pa ++ [x]) (pb ++ [y]) (by simp [hp]) (by omega) (by simp only [List.length_append, List.length_cons, List.length_nil]; omega) (fun z hz => hx z (List.mem_cons_of_mem _ hz))
    rw [← snoc_app pa x ra, ← snoc_app pb y rb] at ih
    have hs := SameFlits_i x y (hx x List.mem_cons_self)
    refine Ev.suc ?_
    simp only [impl_sameLists.l0, rdI_FlitSS, e2, hw]
    exact Ev.ite_pos h1 (Ev.ite_pos (by omega) (Ev.ite_pos h2 (Ev.andb hs ih)))
theorem sameLists_i (a b : List (List S138)) (h : a.length ≤ 1048576) (hx : ∀ x ∈ a, x.length ≤ 1048576) : Ev (fun k => impl_sameLists.f k a b) (sameLs a b) := by
  unfold impl_sameLists.f
  refine Ev.ite (fun h2 => ?_) (fun h2 => Ev.val (sameLs_len a b (by omega)).symm)
  exact sameLists_i_l0 a b [] [] rfl (by omega) (by simp; omega) hx
def sameI : List Int → List Int → Bool
  | [], [] => true
  | x :: a, y :: b => decide (x = y) && sameI a b
  | _, _ => false
theorem sameI_len : ∀ a b : List Int, a.length ≠ b.length → sameI a b = false
  | [], [], h => absurd rfl h
  | [], _ :: _, _ => rfl
  | _ :: _, [], _ => rfl
  | x :: a, y :: b, h => by
    have ih := sameI_len a b (fun e => h (by simp [e]))
    simp [sameI, ih]
theorem Ev.iteb {g : Nat → Option Bool} {c : Prop} [Decidable c] {b : Bool} (H : Ev g b) : Ev (fun k => if c then g k else some false) (decide c && b) := by
  refine Ev.ite (fun h => Ev.eq H (by simp [h])) (fun h => Ev.val (by simp [h]))
theorem l19Ints_s_l0 : ∀ (ra rb pa pb : List Int), pa.length = pb.length → ra.length = rb.length → pa.length + ra.length ≤ 1048576 →
    Ev (fun k => spec_l19Ints.l0 k (pa ++ ra) (pb ++ rb) (pa.length : Int)) (sameI ra rb)
  | [], rb, pa, pb, hp, hr, hl => by
    have : rb = [] := List.length_eq_zero_iff.1 hr.symm
    subst this
    refine Ev.suc ?_
    simp only [spec_l19Ints.l0]
    exact Ev.ite_neg (by simp) (Ev.val (by simp [sameI]))
  | x :: ra, rb, pa, pb, hp, hr, hl => by
    obtain ⟨y, rb, rfl⟩ : ∃ y rb', rb = y :: rb' := by
      cases rb with
      | nil => simp at hr
      | cons y rb' => exact ⟨y, rb', rfl⟩
    simp only [List.length_cons] at hr hl
    have h1 : (pa.length : Int) < ((pa ++ x :: ra).length : Int) := by simp only [List.length_append, List.length_cons]; omega
    have h2 : (pa.length : Int) < ((pb ++ y :: rb).length : Int) := by simp only [List.length_append, List.length_cons]; omega
    have hw : wrap64 ((pa.length : Int) + 1) = ((pa ++ [x]).length : Int) := by rw [w64 (by omega) (by omega), len_snoc]
    have e2 : rd (pb ++ y :: rb) (pa.length : Int) = y := by
      rw [hp]
      exact rd_mid _ _ _
    have ih := l19Ints_s_l0 ra rb (pa ++ [x]) (pb ++ [y]) (by simp [hp]) (by omega) (by simp only [List.length_append, List.length_cons, List.length_nil]; omega)
    rw [← snoc_app pa x ra, ← snoc_app pb y rb] at ih
    refine Ev.suc ?_
    simp only [spec_l19Ints.l0, rd_mid, e2, hw]
    exact Ev.ite_pos h1 (Ev.ite_pos (by omega) (Ev.ite_pos h2 (Ev.iteb ih)))
theorem l19Ints_s (a b : List Int) (h : a.length ≤ 1048576) : Ev (fun k => spec_l19Ints.f k a b) (sameI a b) := by
  unfold spec_l19Ints.f
  refine Ev.ite (fun h2 => ?_) (fun h2 => Ev.val (sameI_len a b (by omega)).symm)
  exact l19Ints_s_l0 a b [] [] rfl (by omega) (by simp; omega)
theorem Equal_i_l0 : ∀ (ra rb pa pb : List Int), pa.length = pb.length → ra.length = rb.length → pa.length + ra.length ≤ 1048576 →
    Ev (fun k => slices_Equal_int_int.l0 k (pa ++ ra) (pb ++ rb) ((pa ++ ra).length : Int) (pa.length : Int)) (sameI ra rb)
  | [], rb, pa, pb, hp, hr, hl => by
    have : rb = [] := List.length_eq_zero_iff.1 hr.symm
    subst this
    refine Ev.suc ?_
    simp only [slices_Equal_int_int.l0]
    exact Ev.ite_neg (by simp) (Ev.val (by simp [sameI]))
  | x :: ra, rb, pa, pb, hp, hr, hl => by
    obtain ⟨y, rb, rfl⟩ : ∃ y rb', rb = y :: rb' := by
      cases rb with
      | nil => simp at hr
      | cons y rb' => exact ⟨y, rb', rfl⟩
    simp only [List.length_cons] at hr hl
    have h1 : (pa.length : Int) < ((pa ++ x :: ra).length : Int) := by simp only [List.length_append, List.length_cons]; omega
    have h2 : (pa.length : Int) < ((pb ++ y :: rb).length : Int) := by simp only [List.length_append, List.length_cons]; omega
    have hw : wrap64 ((pa.length : Int) + 1) = ((pa ++ [x]).length : Int) := by rw [w64 (by omega) (by omega), len_snoc]
    have e2 : rd (pb ++ y :: rb) (pa.length : Int) = y := by
      rw [hp]
      exact rd_mid _ _ _
    have ih := Equal_i_l0 ra rb (pa ++ [x]) (pb ++ [y]) (by simp [hp]) (by omega) (by simp only [List.length_append, List.length_cons, List.length_nil]; omega)
    rw [← snoc_app pa x ra, ← snoc_app pb y rb] at ih
    refine Ev.suc ?_
    simp only [slices_Equal_int_int.l0, rd_mid, e2, hw]
    exact Ev.ite_pos h1 (Ev.ite_pos (by omega) (Ev.ite_pos h1 (Ev.ite_pos h2 (Ev.iteb ih))))
theorem Equal_i (a b : List Int) (h : a.length ≤ 1048576) : Ev (fun k => slices_Equal_int_int.f k a b) (sameI a b) := by
  unfold slices_Equal_int_int.f
  refine Ev.ite (fun h2 => ?_) (fun h2 => Ev.val (sameI_len a b (by omega)).symm)
  exact Equal_i_l0 a b [] [] rfl (by omega) (by simp; omega)

theorem bb1_ {a b : Bool} (h : (!a || !b) = true) : (a && b) = false := by
  cases a <;> cases b <;> simp at h ⊢
theorem bb2_ {a b : Bool} (h : ¬ (!a || !b) = true) : (a && b) = true := by
  cases a <;> cases b <;> simp at h ⊢
theorem FnExactSameNet : FnExactSameNet_says := by
  intro w h br p q B O T C A t w' h' br' p' q' B' O' T' C' A' t' _ _ hbr hp hq hB hO hT hC hA _ _ _ hbr' hp' hq' hB' hO' hT' hC' hA' _
  refine Ev.rounds ?_
  unfold laws_FnExactSameNet.f
  obtain ⟨r, hr, hr2⟩ := szNet_f w h br p q B O T C A t 1048576 hbr hp hq ⟨hB.1, fun x hx => (hB.2 x hx).1⟩ hO hT ⟨hC.1, fun x hx => (hC.2 x hx).1⟩ ⟨hA.1, fun x hx => (hA.2 x hx).1⟩ (by omega) (Int.le_refl _)
  refine Ev.bind hr (Ev.ite (fun _ => Ev.now _) (fun hn => ?_))
  obtain ⟨h0, h1, hb⟩ : 0 ≤ r ∧ r ≤ 1048576 ∧ NB br p q B O T C A := by
    cases hr2 with
    | inl h => exact absurd h hn
    | inr h => exact h
  obtain ⟨r', hr', hr2'⟩ := szNet_f w' h' br' p' q' B' O' T' C' A' t' r hbr' hp' hq' ⟨hB'.1, fun x hx => (hB'.2 x hx).1⟩ hO' hT' ⟨hC'.1, fun x hx => (hC'.2 x hx).1⟩ ⟨hA'.1, fun x hx => (hA'.2 x hx).1⟩ h0 h1
  refine Ev.bind hr' (Ev.ite (fun _ => Ev.now _) (fun hn' => ?_))
  obtain ⟨_, _, hb'⟩ : 0 ≤ r' ∧ r' ≤ r ∧ NB br' p' q' B' O' T' C' A' := by
    cases hr2' with
    | inl h => exact absurd h hn'
    | inr h => exact h
  have ht := toNet_f w h br p q B O T C A t hb
  have ht' := toNet_f w' h' br' p' q' B' O' T' C' A' t' hb'
  obtain ⟨b1, b2, b3, b4, b5, b6, b7, b8⟩ := hb
  rw [← cvSS_len B, ← cvSS_slen B] at b4
  rw [← cvSS_len C, ← cvSS_slen C] at b7
  rw [← cvSS_len A, ← cvSS_slen A] at b8
  have he := eqNet_f w h br p q (cvSS B) O T (cvSS C) (cvSS A) t b1 b2 b3 b4 b5 b6 b7 b8
  obtain ⟨d1, d2, d3, d4, d5, d6, d7, d8⟩ := hb'
  rw [← cvSS_len B', ← cvSS_slen B'] at d4
  rw [← cvSS_len C', ← cvSS_slen C'] at d7
  rw [← cvSS_len A', ← cvSS_slen A'] at d8
  have he' := eqNet_f w' h' br' p' q' (cvSS B') O' T' (cvSS C') (cvSS A') t' d1 d2 d3 d4 d5 d6 d7 d8
  generalize cvSS B = B1 at *
  generalize cvSS C = C1 at *
  generalize cvSS A = A1 at *
  generalize cvSS B' = B2 at *
  generalize cvSS C' = C2 at *
  generalize cvSS A' = A2 at *
  obtain ⟨v, hs, hi⟩ : ∃ v, Ev (fun k => spec_SameNet.f k w h br p q B1 O T C1 A1 t w' h' br' p' q' B2 O' T' C2 A2 t') v ∧ Ev (fun k => impl_SameNet.f k w h br p q B1 O T C1 A1 t w' h' br' p' q' B2 O' T' C2 A2 t') v := by
    have sbr := l19Ints_s br br' (by omega)
    have sO := l19Ints_s O O' (by omega)
    have sT := l19Ints_s T T' (by omega)
    have sp := l19Ints_s p p' (by omega)
    have sq := l19Ints_s q q' (by omega)
    have sB := l19Lists_s B1 B2 b4.1 (fun x hx => by have := slen_mem B1 x hx; omega)
    have sC := l19Lists_s C1 C2 b7.1 (fun x hx => by have := slen_mem C1 x hx; omega)
    have sA := l19Lists_s A1 A2 b8.1 (fun x hx => by have := slen_mem A1 x hx; omega)
    have ibr := Equal_i br br' (by omega)
    have iO := Equal_i O O' (by omega)
    have iT := Equal_i T T' (by omega)
    have ip := Equal_i p p' (by omega)
    have iq := Equal_i q q' (by omega)
    have iB := sameLists_i B1 B2 b4.1 (fun x hx => by have := slen_mem B1 x hx; omega)
    have iC := sameLists_i C1 C2 b7.1 (fun x hx => by have := slen_mem C1 x hx; omega)
    have iA := sameLists_i A1 A2 b8.1 (fun x hx => by have := slen_mem A1 x hx; omega)
    clear ht ht' he he' hr hr' hr2 hr2'
    generalize sameI br br' = vbr at *
    generalize sameI O O' = vO at *
    generalize sameI T T' = vT at *
    generalize sameI p p' = vp at *
    generalize sameI q q' = vq at *
    generalize sameLs B1 B2 = vB at *
    generalize sameLs C1 C2 = vC at *
    generalize sameLs A1 A2 = vA at *
    have j1 : ∀ x : Bool, Ev (fun k => spec_SameNet.j1 k x w h br p q B1 O T C1 A1 t w' h' br' p' q' B2 O' T' C2 A2 t') (!x && (vB && (vC && vA))) := by
      intro x
      refine Ev.suc ?_
      simp only [spec_SameNet.j1]
      cases x with
      | true => exact Ev.ite_pos rfl (Ev.val (by simp))
      | false => exact Ev.ite_neg (by simp) (Ev.eq (Ev.andb sB (Ev.andb sC (Ev.lastb sA))) (by simp))
    have j0 : ∀ x : Bool, Ev (fun k => spec_SameNet.j0 k x w h br p q B1 O T C1 A1 t w' h' br' p' q' B2 O' T' C2 A2 t') (!x && ((vp && vq) && (vB && (vC && vA)))) := by
      intro x
      refine Ev.suc ?_
      simp only [spec_SameNet.j0]
      cases x with
      | true => exact Ev.ite_pos rfl (Ev.val (by simp))
      | false =>
        refine Ev.ite_neg (by simp) (Ev.bind sp (Ev.ite (fun c => Ev.bind sq (Ev.eq (j1 (!vq)) (by simp [c]))) (fun c => Ev.eq (j1 true) (by simp [c]))))
    refine ⟨((((w == w') && (h == h')) && (t == t')) && (vbr && (vO && vT))) && ((vp && vq) && (vB && (vC && vA))), ?_, ?_⟩
    · unfold spec_SameNet.f
      refine Ev.ite (fun c => Ev.eq (j0 true) ?_) (fun c => Ev.ite (fun d => Ev.bind sbr (Ev.ite (fun e => Ev.bind sO (Ev.ite (fun f => Ev.bind sT (Ev.eq (j0 (!vT)) ?_)) (fun f => Ev.eq (j0 true) ?_))) (fun e => Ev.eq (j0 true) ?_))) (fun d => Ev.eq (j0 true) ?_))
      · simp [bb1_ c]
      all_goals have c2 := bb2_ c
      · simp only [c2, e, f, d, beq_self_eq_true, Bool.not_not, Bool.true_and]
      · simp [f]
      · simp [e]
      · have d2 : (t == t') = false := beq_eq_false_iff_ne.mpr d
        simp [d2]
    · unfold impl_SameNet.f impl_sameMesh.f impl_sameClasses.f
      have m1 : Ev (fun k => if ((w == w') && (h == h')) = true then ((slices_Equal_int_int.f k br br').bind fun t220 => some t220) else some false) (((w == w') && (h == h')) && vbr) := by
        refine Ev.ite (fun c => Ev.eq (Ev.lastb ibr) (by simp [c])) (fun c => Ev.val ?_)
        rw [Bool.not_eq_true] at c
        rw [c, Bool.false_and]
      refine Ev.eq (Ev.andb m1 (Ev.andb (Ev.andb ip (Ev.lastb iq)) (Ev.andb iB (Ev.andb iO (Ev.andb iT (Ev.andb iC (Ev.andb iA (Ev.now _)))))))) ?_
      ac_rfl
  refine Ev.bind ht (Ev.bind ht' (Ev.bind hs (Ev.bind ht (Ev.bind ht' (Ev.bind hi (Ev.ite_neg (by simp) ?_))))))
  exact Ev.bind ht (Ev.bind he (Ev.ite_pos rfl (Ev.bind ht' (Ev.bind he' (Ev.ite_pos rfl (Ev.now _))))))

end Go.Proofs.Ytogapggfegplkaa.Pure
