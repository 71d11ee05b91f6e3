/- The plain statement of the law FnExactRingDepends: the program's RingDepends and the reference's give one list, and nothing is shared. No condition. -/
import Derived.Test.YtimdefbpoddoaaaPFnExactRingDependsx
import Derived.Test.YtimdefbpoddoaaaU
import Derived.Test.YtimdefbpoddoaaaSaysFnExactRingDepends
namespace Go.Proofs.Ytimdefbpoddoaaa.Pure
open Go.RowKit Go.Proofs.Ytimdefbpoddoaaa.PFnExactRingDepends Go.Proofs.YtimdefbpoddoaaaW.PrintWords Go.Proofs.YtimdefbpoddoaaaW.PrintLast Go.Proofs.YtimdefbpoddoaaaW.PrintMore Go.Proofs.Ytimdefbpoddoaaa.U
set_option linter.unusedVariables false
set_option linter.unusedSimpArgs false

/-! ### ringR -/
abbrev ringOk (n a b : Int) : Prop := 2 ≤ n ∧ n ≤ 12 ∧ 0 ≤ a ∧ a ≤ wrap64 (n - 1) ∧ 0 ≤ b ∧ b ≤ wrap64 (n - 1)

/-! ### inside -/
theorem inside_f (a b c : Int) : impl_inside.f a b c = some (decide (b ≤ a ∧ a ≤ c)) := by
  unfold impl_inside.f
  by_cases h : b ≤ a
  · rw [if_pos h]
    simp [h]
  · rw [if_neg h]
    simp [h]

/-! ### isRing -/
theorem isRing_f (n a b : Int) : Ev (fun k => impl_isRing.f k n [a, b]) (decide (2 ≤ n ∧ n ≤ 12 ∧ 0 ≤ a ∧ a ≤ wrap64 (n - 1) ∧ 0 ≤ b ∧ b ≤ wrap64 (n - 1))) := by
  unfold impl_isRing.f
  refine Ev.suc ?_
  simp only [impl_isRing.l0, rd, inside_f, Option.bind_some]
  refine Ev.ite_pos (by simp) ?_
  refine Ev.ite_pos (by simp) ?_
  refine Ev.ite_pos (by simp) ?_
  simp only [show ([a, b] : List Int).getD (0 : Int).toNat 0 = a from rfl, decide_eq_true_eq]
  refine Ev.ite (fun ha => ?_) (fun ha => Ev.val ?_)
  · rw [show wrap64 (0 + 1) = 1 from w64 (x := 0 + 1) (by decide) (by decide)]
    refine Ev.suc ?_
    simp only [impl_isRing.l0, rd, inside_f, Option.bind_some]
    refine Ev.ite_pos (by simp) ?_
    refine Ev.ite_pos (by simp) ?_
    refine Ev.ite_pos (by simp) ?_
    simp only [show ([a, b] : List Int).getD (1 : Int).toNat 0 = b from rfl, decide_eq_true_eq]
    refine Ev.ite (fun hb => ?_) (fun hb => Ev.val ?_)
    · rw [show wrap64 (1 + 1) = 2 from w64 (x := 1 + 1) (by decide) (by decide)]
      refine Ev.suc ?_
      simp only [impl_isRing.l0, inside_f, Option.bind_some]
      refine Ev.ite_neg (by simp) ?_
      refine Ev.val ?_
      rw [decide_eq_decide]
      constructor
      · intro h
        exact ⟨h.1, h.2, ha.1, ha.2, hb.1, hb.2⟩
      · intro h
        exact ⟨h.1, h.2.1⟩
    · symm
      rw [decide_eq_false_iff_not]
      intro h
      exact hb ⟨h.2.2.2.2.1, h.2.2.2.2.2⟩
  · symm
    rw [decide_eq_false_iff_not]
    intro h
    exact ha ⟨h.2.2.1, h.2.2.2.1⟩

/-! ### RingHops_i -/
def hopAt (n a : Int) (dl : Bool) (i : Nat) : S92 := ⟨(a + i) % n, if dl = true ∧ n ≤ a + i then 1 else 0⟩
def hopsL (n a b : Int) (dl : Bool) : List S92 := if ringOk n a b then (List.range ((b - a + n) % n).toNat).map (hopAt n a dl) else []
theorem hops_arith (n a b : Int) (hn : 2 ≤ n) (ha : 0 ≤ a ∧ a < n) (hb : 0 ≤ b ∧ b < n) : (b - a + n) % n = if a ≤ b then b - a else b - a + n := by
  split
  · rw [Int.add_emod_right]
    exact Int.emod_eq_of_lt (by omega) (by omega)
  · exact Int.emod_eq_of_lt (by omega) (by omega)
theorem mod_wrap (n x : Int) (hn : 0 < n) (h0 : 0 ≤ x) (h1 : x < 2 * n) : x % n = if x < n then x else x - n := by
  split
  · exact Int.emod_eq_of_lt h0 (by omega)
  · rw [← Int.sub_emod_right]
    exact Int.emod_eq_of_lt (by omega) (by omega)
theorem ringOk_b {n a b : Int} (h : ringOk n a b) : 2 ≤ n ∧ n ≤ 12 ∧ 0 ≤ a ∧ a < n ∧ 0 ≤ b ∧ b < n := by
  obtain ⟨h1, h2, h3, h4, h5, h6⟩ := h
  rw [w64 (by omega) (by omega)] at h4 h6
  omega
theorem hop_step (n x : Int) (hn : 2 ≤ n ∧ n ≤ 12) (hx : 0 ≤ x ∧ x < n) : Int.tmod (wrap64 (x + 1)) n = (x + 1) % n := by
  rw [w64 (by omega) (by omega), Int.tmod_eq_emod_of_nonneg (by omega)]
theorem RingHops_i_l0 (n a b : Int) (dl : Bool) (hn : 2 ≤ n ∧ n ≤ 12) (ha : 0 ≤ a ∧ a < n) (hb : 0 ≤ b ∧ b < n) : ∀ (d i : Nat), i + d = ((b - a + n) % n).toNat →
    Ev (fun k => impl_RingHops.l0 k n b dl ((List.range i).map (hopAt n a dl)) (if dl = true ∧ n ≤ a + i then 1 else 0) ((a + i) % n)) ((List.range ((b - a + n) % n).toNat).map (hopAt n a dl))
  | 0, i, h => by
    refine Ev.suc ?_
    simp only [impl_RingHops.l0]
    rw [hops_arith n a b hn.1 ha hb] at h ⊢
    refine Ev.ite_pos ?_ (Ev.val ?_)
    · rw [mod_wrap n (a + i) (by omega) (by omega) (by split at h <;> omega)]
      split at h <;> split <;> omega
    · rw [← h]
      rfl
  | d + 1, i, h => by
    have hd := hops_arith n a b hn.1 ha hb
    have hlt : ((b - a + n) % n).toNat < 12 := by rw [hd]; split <;> omega
    have hm := mod_wrap n (a + i) (by omega) (by omega) (by omega)
    have ih := RingHops_i_l0 n a b dl hn ha hb d (i + 1) (by omega)
    have hs : (List.range i).map (hopAt n a dl) ++ [(⟨(a + i) % n, if dl = true ∧ n ≤ a + i then 1 else 0⟩ : S92)] = (List.range (i + 1)).map (hopAt n a dl) := by
      rw [List.range_succ, List.map_append]
      rfl
    have hst := hop_step n ((a + i) % n) hn (by rw [hm]; split <;> omega)
    have hnext : ((a + i) % n + 1) % n = (a + ((i + 1 : Nat) : Int)) % n := by
      rw [Int.emod_add_emod]
      congr 1
      omega
    have hne : ¬ (a + i) % n = b := by
      rw [hm]
      rw [hd] at h
      split at h <;> split <;> omega
    refine Ev.suc ?_
    simp only [impl_RingHops.l0]
    refine Ev.ite_neg hne (Ev.ite_pos (by simp; omega) (Ev.bindS rfl ?_))
    rw [hs, hst, hnext, w64 (x := n - 1) (by omega) (by omega)]
    cases dl with
    | false =>
      refine Ev.ite_neg (by simp) (Ev.ite_neg (by omega) ?_)
      simpa using ih
    | true =>
      refine Ev.ite_pos rfl ?_
      refine Ev.ite (fun h9 => Ev.ite_neg (by omega) ?_) (fun h9 => Ev.ite_neg (by omega) ?_)
      · rw [if_pos ⟨rfl, by rw [hm] at h9; split at h9 <;> omega⟩] at ih
        exact ih
      · have e : (if true = true ∧ n ≤ a + ((i + 1 : Nat) : Int) then (1 : Int) else 0) = (if true = true ∧ n ≤ a + (i : Int) then 1 else 0) := by
          rw [hm] at h9
          simp only [true_and]
          split at h9 <;> split <;> split <;> omega
        rw [e] at ih
        exact ih
theorem RingHops_i (n a b : Int) (dl : Bool) : Ev (fun k => impl_RingHops.f k n a b dl) (hopsL n a b dl) := by
  unfold impl_RingHops.f hopsL
  refine Ev.bindS rfl (Ev.bind (isRing_f n a b) ?_)
  simp only [decide_eq_true_eq]
  refine Ev.ite (fun h => ?_) (fun h => Ev.val ?_)
  · have hb := ringOk_b (n := n) (a := a) (b := b) h
    rw [if_pos (show ringOk n a b from h)]
    have z := RingHops_i_l0 n a b dl ⟨hb.1, hb.2.1⟩ ⟨hb.2.2.1, hb.2.2.2.1⟩ ⟨hb.2.2.2.2.1, hb.2.2.2.2.2⟩ ((b - a + n) % n).toNat 0 (by omega)
    have e1 : (a + ((0 : Nat) : Int)) % n = a := by
      rw [Int.emod_eq_of_lt] <;> omega
    have e2 : (if dl = true ∧ n ≤ a + ((0 : Nat) : Int) then (1 : Int) else 0) = 0 := by
      rw [if_neg]
      omega
    rw [e1, e2] at z
    exact z
  · rw [if_neg (show ¬ ringOk n a b from h)]
theorem hopsL_len (n a b : Int) (dl : Bool) : (hopsL n a b dl).length ≤ 12 := by
  unfold hopsL
  split
  · rename_i h
    have hb := ringOk_b h
    rw [List.length_map, List.length_range, hops_arith n a b hb.1 ⟨hb.2.2.1, hb.2.2.2.1⟩ ⟨hb.2.2.2.2.1, hb.2.2.2.2.2⟩]
    split <;> omega
  · simp

/-! ### rdDepend -/
theorem rdI_Depend (pre : List S94) (x : S94) (rest : List S94) : rd_T94 (pre ++ x :: rest) (pre.length : Int) = x := getD_mid pre x rest _

/-! ### dependD -/
abbrev dIn (x : S94) : Prop := (0 ≤ x.f0 ∧ x.f0 ≤ 127) ∧ (0 ≤ x.f1 ∧ x.f1 ≤ 127)
abbrev dLt (a b : S94) : Prop := a.f0 < b.f0 ∨ (a.f0 = b.f0 ∧ a.f1 < b.f1)
def dGo : S94 → List S94 → Bool
  | _, [] => true
  | y, x :: r => decide (dIn x) && (decide (dLt y x) && dGo x r)
/-- The list of depends is valid. -/
def dAll : List S94 → Bool
  | [] => true
  | x :: r => decide (dIn x) && dGo x r
theorem dGo_cons (y x : S94) (r : List S94) : dGo y (x :: r) = (decide (dIn x) && (decide (dLt y x) && dGo x r)) := rfl
theorem dAll_cons (x : S94) (r : List S94) : dAll (x :: r) = (decide (dIn x) && dGo x r) := rfl
theorem prev_rd (p : List S94) (y x : S94) (rest : List S94) (hl : (p ++ [y]).length + rest.length < 1152921504606846976) : wrap64 (((p ++ [y]).length : Int) - 1) = (p.length : Int) ∧ rd_T94 (p ++ [y] ++ x :: rest) (p.length : Int) = y := by
  refine ⟨?_, ?_⟩
  · simp only [List.length_append, List.length_cons, List.length_nil] at hl ⊢
    rw [w64 (by omega) (by omega)]
    omega
  · rw [List.append_assoc]
    exact rdI_Depend p y (x :: rest)

/-! ### dOrd -/
theorem dLt_trans {a b c : S94} (h : dLt a b) (k : dLt b c) : dLt a c := by
  unfold dLt at *
  omega
theorem dGo_iff : ∀ (r : List S94) (y : S94), dGo y r = true ↔ (∀ x ∈ r, dIn x) ∧ (y :: r).Pairwise dLt
  | [], y => by simp [dGo]
  | z :: r, y => by
    rw [dGo_cons, Bool.and_eq_true, Bool.and_eq_true, decide_eq_true_eq, decide_eq_true_eq, dGo_iff r z]
    constructor
    · rintro ⟨h1, h2, h3, h4⟩
      refine ⟨fun x hx => ?_, List.pairwise_cons.2 ⟨fun x hx => ?_, h4⟩⟩
      · rcases List.mem_cons.1 hx with rfl | hx
        · exact h1
        · exact h3 x hx
      · rcases List.mem_cons.1 hx with rfl | hx
        · exact h2
        · exact dLt_trans h2 ((List.pairwise_cons.1 h4).1 x hx)
    · rintro ⟨h1, h2⟩
      rw [List.pairwise_cons] at h2
      exact ⟨h1 z List.mem_cons_self, h2.1 z List.mem_cons_self, fun x hx => h1 x (List.mem_cons_of_mem _ hx), h2.2⟩
theorem dAll_iff : ∀ (l : List S94), dAll l = true ↔ (∀ x ∈ l, dIn x) ∧ l.Pairwise dLt
  | [] => by simp [dAll]
  | z :: r => by
    rw [dAll_cons, Bool.and_eq_true, decide_eq_true_eq, dGo_iff]
    constructor
    · rintro ⟨h1, h2, h3⟩
      refine ⟨fun x hx => ?_, h3⟩
      rcases List.mem_cons.1 hx with rfl | hx
      · exact h1
      · exact h2 x hx
    · rintro ⟨h1, h2⟩
      exact ⟨h1 z List.mem_cons_self, fun x hx => h1 x (List.mem_cons_of_mem _ hx), h2⟩
theorem rdD_at (l : List S94) (i : Nat) (h : i < l.length) : rd_T94 l (i : Int) = l[i] := by
  show l.getD (i : Int).toNat _ = _
  rw [Int.toNat_natCast, List.getD_eq_getElem?_getD, List.getElem?_eq_getElem h]
  rfl

/-! ### arr -/
theorem sdLe_trans (a b c : SD) (h : sdLe a b = true) (k : sdLe b c = true) : sdLe a c = true := by
  unfold sdLe at *
  rw [decide_eq_true_eq] at *
  omega
theorem sdLe_total (a b : SD) : (sdLe a b || sdLe b a) = true := by
  unfold sdLe
  rw [Bool.or_eq_true, decide_eq_true_eq, decide_eq_true_eq]
  omega
abbrev sdL (a b : SD) : Prop := a.1.val < b.1.val ∨ (a.1.val = b.1.val ∧ a.2.val < b.2.val)
theorem sdL_of {a b : SD} (h : sdLe a b = true) (hne : a ≠ b) : sdL a b := by
  unfold sdLe at h
  rw [decide_eq_true_eq] at h
  have : ¬ (a.1.val = b.1.val ∧ a.2.val = b.2.val) := fun e => hne (Prod.ext (Fin.ext e.1) (Fin.ext e.2))
  unfold sdL
  omega
theorem sdDd_mem : ∀ (l : List SD) (x : SD), x ∈ sdDd l ↔ x ∈ l
  | [], x => Iff.rfl
  | [a], x => Iff.rfl
  | a :: b :: r, x => by
    have ih := sdDd_mem (b :: r) x
    show (x ∈ if a = b then sdDd (b :: r) else a :: sdDd (b :: r)) ↔ x ∈ a :: b :: r
    by_cases h : a = b
    · rw [if_pos h, ih, h]
      simp
    · rw [if_neg h, List.mem_cons, ih, List.mem_cons (a := x) (b := a)]
theorem sdDd_len : ∀ (l : List SD), (sdDd l).length ≤ l.length
  | [] => Nat.le_refl _
  | [a] => Nat.le_refl _
  | a :: b :: r => by
    have ih := sdDd_len (b :: r)
    show (if a = b then sdDd (b :: r) else a :: sdDd (b :: r)).length ≤ (a :: b :: r).length
    split
    · simp only [List.length_cons] at *
      omega
    · simp only [List.length_cons] at *
      omega
theorem sdDd_sorted : ∀ (l : List SD), l.Pairwise (fun a b => sdLe a b = true) → (sdDd l).Pairwise sdL
  | [], _ => .nil
  | [a], _ => List.pairwise_singleton _ _
  | a :: b :: r, h => by
    have h1 := List.pairwise_cons.1 h
    have ih := sdDd_sorted (b :: r) h1.2
    show (if a = b then sdDd (b :: r) else a :: sdDd (b :: r)).Pairwise sdL
    by_cases e : a = b
    · rw [if_pos e]
      exact ih
    · rw [if_neg e]
      refine List.pairwise_cons.2 ⟨fun x hx => ?_, ih⟩
      have hx := (sdDd_mem (b :: r) x).1 hx
      have hab := sdL_of (h1.1 b List.mem_cons_self) e
      rcases List.mem_cons.1 hx with rfl | hx
      · exact hab
      · have hbx := (List.pairwise_cons.1 h1.2).1 x hx
        unfold sdLe at hbx
        rw [decide_eq_true_eq] at hbx
        unfold sdL at *
        omega
theorem sdIn_of {x : S94} (h : dIn x) : sdIn x = true := decide_eq_true h
theorem sdTo_in (x : SD) : dIn (sdTo x) := by
  have h0 := x.1.isLt
  have h1 := x.2.isLt
  show (0 ≤ (x.1.val : Int) ∧ (x.1.val : Int) ≤ 127) ∧ (0 ≤ (x.2.val : Int) ∧ (x.2.val : Int) ≤ 127)
  omega
theorem sdTo_of' {x : S94} (h : dIn x) : sdTo (sdOf x) = x := by
  have h : (0 ≤ x.f0 ∧ x.f0 ≤ 127) ∧ (0 ≤ x.f1 ∧ x.f1 ≤ 127) := h
  show (⟨((x.f0.toNat % 128 : Nat) : Int), ((x.f1.toNat % 128 : Nat) : Int)⟩ : S94) = x
  have e0 : ((x.f0.toNat % 128 : Nat) : Int) = x.f0 := by omega
  have e1 : ((x.f1.toNat % 128 : Nat) : Int) = x.f1 := by omega
  rw [e0, e1]
/-- What 'arranged' gives: the same dependencies, in order, each once. -/
theorem arr_i (l : List S94) (hd : ∀ x ∈ l, dIn x) (hl : l.length ≤ 1048576) : ∃ r, impl_arranged.f l = some r ∧ dAll r = true ∧ (∀ x, x ∈ r ↔ x ∈ l) ∧ r.length ≤ l.length := by
  have hp := List.mergeSort_perm (l.map sdOf) sdLe
  have hs := List.pairwise_mergeSort sdLe_trans sdLe_total (l.map sdOf)
  refine ⟨(sdDd ((l.map sdOf).mergeSort sdLe)).map sdTo, ?_, ?_, fun x => ?_, ?_⟩
  · unfold impl_arranged.f
    rw [if_pos ⟨List.all_eq_true.2 (fun x hx => sdIn_of (hd x hx)), by omega⟩]
  · refine (dAll_iff _).2 ⟨fun x hx => ?_, ?_⟩
    · obtain ⟨y, _, rfl⟩ := List.mem_map.1 hx
      exact sdTo_in y
    · rw [List.pairwise_map]
      refine (sdDd_sorted _ hs).imp fun {a b} h => ?_
      show (a.1.val : Int) < (b.1.val : Int) ∨ ((a.1.val : Int) = (b.1.val : Int) ∧ (a.2.val : Int) < (b.2.val : Int))
      unfold sdL at h
      omega
  · rw [List.mem_map]
    constructor
    · rintro ⟨y, hy, rfl⟩
      rw [sdDd_mem, hp.mem_iff, List.mem_map] at hy
      obtain ⟨z, hz, rfl⟩ := hy
      rw [sdTo_of' (hd z hz)]
      exact hz
    · intro hx
      exact ⟨sdOf x, by rw [sdDd_mem, hp.mem_iff]; exact List.mem_map.2 ⟨x, hx, rfl⟩, sdTo_of' (hd x hx)⟩
  · rw [List.length_map]
    have := sdDd_len ((l.map sdOf).mergeSort sdLe)
    rw [hp.length_eq, List.length_map] at this
    exact this
/-- Valid dependencies are told by their members. -/
theorem dAll_ext : ∀ (l m : List S94), dAll l = true → dAll m = true → (∀ x, x ∈ l ↔ x ∈ m) → l = m := by
  have irr : ∀ a : S94, ¬ dLt a a := fun a => by unfold dLt; omega
  have asy : ∀ a b : S94, dLt a b → dLt b a → False := fun a b h k => by unfold dLt at *; omega
  have key : ∀ (l m : List S94), l.Pairwise dLt → m.Pairwise dLt → (∀ x, x ∈ l ↔ x ∈ m) → l = m := by
    intro l
    induction l with
    | nil =>
      intro m _ _ h
      cases m with
      | nil => rfl
      | cons b m => exact absurd ((h b).2 List.mem_cons_self) List.not_mem_nil
    | cons a l ih =>
      intro m hl hm h
      cases m with
      | nil => exact absurd ((h a).1 List.mem_cons_self) List.not_mem_nil
      | cons b m =>
        have hl' := List.pairwise_cons.1 hl
        have hm' := List.pairwise_cons.1 hm
        have e : a = b := by
          rcases List.mem_cons.1 ((h a).1 List.mem_cons_self) with e | h1
          · exact e
          · rcases List.mem_cons.1 ((h b).2 List.mem_cons_self) with e | h2
            · exact e.symm
            · exact (asy a b (hl'.1 b h2) (hm'.1 a h1)).elim
        subst e
        rw [ih m hl'.2 hm'.2 (fun x => ?_)]
        have hx := h x
        rw [List.mem_cons, List.mem_cons] at hx
        constructor
        · intro h1
          rcases hx.1 (Or.inr h1) with rfl | h2
          · exact absurd (hl'.1 x h1) (irr x)
          · exact h2
        · intro h1
          rcases hx.2 (Or.inr h1) with rfl | h2
          · exact absurd (hm'.1 x h1) (irr x)
          · exact h2
  exact fun l m hl hm h => key l m ((dAll_iff l).1 hl).2 ((dAll_iff m).1 hm).2 h

/-! ### ringDep_i -/
def chH (h : S92) : Int := wrap64 ((wrap64 (h.f1 * 64)) + h.f0)
def ringAD (hs : List S92) (t : Nat) : S94 := ⟨chH (rd_T92 hs (t : Int)), chH (rd_T92 hs ((t + 1 : Nat) : Int))⟩
def ringA (hs : List S92) : List S94 := (List.range (hs.length - 1)).map (ringAD hs)
theorem ringA_len (hs : List S92) : (ringA hs).length = hs.length - 1 := by
  unfold ringA
  rw [List.length_map, List.length_range]
theorem hop_in (n a b : Int) (dl : Bool) : ∀ x ∈ hopsL n a b dl, (0 ≤ x.f0 ∧ x.f0 < 12) ∧ (0 ≤ x.f1 ∧ x.f1 ≤ 1) := by
  intro x hx
  unfold hopsL at hx
  split at hx
  · rename_i h
    have hb := ringOk_b h
    obtain ⟨i, _, rfl⟩ := List.mem_map.1 hx
    have h1 := Int.emod_nonneg (a + (i : Int)) (show n ≠ 0 by omega)
    have h2 := Int.emod_lt_of_pos (a + (i : Int)) (show 0 < n by omega)
    refine ⟨?_, ?_⟩
    · show 0 ≤ (a + (i : Int)) % n ∧ (a + (i : Int)) % n < 12
      omega
    · show 0 ≤ (if dl = true ∧ n ≤ a + (i : Int) then (1 : Int) else 0) ∧ (if dl = true ∧ n ≤ a + (i : Int) then (1 : Int) else 0) ≤ 1
      split <;> omega
  · cases hx
theorem chH_in {x : S92} (h : (0 ≤ x.f0 ∧ x.f0 < 12) ∧ (0 ≤ x.f1 ∧ x.f1 ≤ 1)) : 0 ≤ chH x ∧ chH x ≤ 127 := by
  unfold chH
  rw [w64 (x := x.f1 * 64) (by omega) (by omega), w64 (by omega) (by omega)]
  omega
theorem rdH_mem {hs : List S92} {i : Nat} (h : i < hs.length) : rd_T92 hs (i : Int) ∈ hs := by
  have e : rd_T92 hs (i : Int) = hs[i] := by
    show hs.getD (i : Int).toNat _ = _
    rw [Int.toNat_natCast, List.getD_eq_getElem?_getD, List.getElem?_eq_getElem h]
    rfl
  rw [e]
  exact List.getElem_mem h
theorem ringA_in (n a b : Int) (dl : Bool) : ∀ x ∈ ringA (hopsL n a b dl), dIn x := by
  intro x hx
  unfold ringA at hx
  obtain ⟨t, ht, rfl⟩ := List.mem_map.1 hx
  rw [List.mem_range] at ht
  exact ⟨chH_in (hop_in n a b dl _ (rdH_mem (by omega))), chH_in (hop_in n a b dl _ (rdH_mem (by omega)))⟩
def rawTo (nn : Nat) (dl : Bool) (m : Nat) : List S94 := (List.range m).flatMap fun i => ringA (hopsL (nn : Int) ((i / nn : Nat) : Int) ((i % nn : Nat) : Int) dl)
theorem rawTo_succ (nn : Nat) (dl : Bool) (m : Nat) : rawTo nn dl (m + 1) = rawTo nn dl m ++ ringA (hopsL (nn : Int) ((m / nn : Nat) : Int) ((m % nn : Nat) : Int) dl) := by
  unfold rawTo
  rw [List.range_succ, List.flatMap_append]
  simp
theorem rawTo_len (nn : Nat) (dl : Bool) : ∀ m : Nat, (rawTo nn dl m).length ≤ 12 * m
  | 0 => by simp [rawTo]
  | m + 1 => by
    have ih := rawTo_len nn dl m
    have h := hopsL_len (nn : Int) ((m / nn : Nat) : Int) ((m % nn : Nat) : Int) dl
    have h2 := ringA_len (hopsL (nn : Int) ((m / nn : Nat) : Int) ((m % nn : Nat) : Int) dl)
    rw [rawTo_succ, List.length_append]
    omega
theorem rawTo_in (nn : Nat) (dl : Bool) (m : Nat) : ∀ x ∈ rawTo nn dl m, dIn x := by
  intro x hx
  unfold rawTo at hx
  obtain ⟨i, _, hi⟩ := List.mem_flatMap.1 hx
  exact ringA_in _ _ _ _ x hi
theorem rdi_l2 (n : Int) (dl : Bool) (hs : List S92) (hl : hs.length ≤ 12) (raw : List S94) (hr : raw.length ≤ 4000) (x6 x15 x16 x19 x20 : Int) (r : List S94)
    (H : Ev (fun k => impl_RingDepends.l1 k n dl (raw ++ ringA hs) x6 x15 x16 x19 (wrap64 (x20 + 1))) r) : ∀ d t : Nat, t + d = hs.length - 1 → Ev (fun k => impl_RingDepends.l2 k n dl (raw ++ (List.range t).map (ringAD hs)) x6 hs ((t + 1 : Nat) : Int) x15 x16 x19 x20) r
  | 0, t, h => by
    have e : t = hs.length - 1 := by omega
    refine Ev.suc ?_
    simp only [impl_RingDepends.l2]
    refine Ev.ite_neg (by omega) ?_
    rw [e]
    exact H
  | d + 1, t, h => by
    have hw : wrap64 (((t + 1 : Nat) : Int) - 1) = (t : Int) := by rw [w64 (by omega) (by omega)]; omega
    have hn : wrap64 (((t + 1 : Nat) : Int) + 1) = ((t + 1 + 1 : Nat) : Int) := by rw [w64 (by omega) (by omega)]; omega
    have ih := rdi_l2 n dl hs hl raw hr x6 x15 x16 x19 x20 r H d (t + 1) (by omega)
    have hlen : (raw ++ (List.range t).map (ringAD hs)).length < 8796093022208 := by
      rw [List.length_append, List.length_map, List.length_range]
      omega
    refine Ev.suc ?_
    simp only [impl_RingDepends.l2, hw, hn]
    refine Ev.ite_pos (by omega) (Ev.ite_pos (by omega) (Ev.ite_pos (by omega) (Ev.ite_pos (by omega) (Ev.ite_pos hlen ?_))))
    rw [List.range_succ, List.map_append, ← List.append_assoc] at ih
    exact ih
theorem rdi_l1 (nn : Nat) (dl : Bool) (hn : 2 ≤ nn ∧ nn ≤ 12) (a : Nat) (ha : a < nn) (r : List S94)
    (H : Ev (fun k => impl_RingDepends.l0 k (nn : Int) dl (rawTo nn dl (a * nn + nn)) (nn : Int) ((a + 1 : Nat) : Int)) r) : ∀ d b : Nat, b + d = nn → Ev (fun k => impl_RingDepends.l1 k (nn : Int) dl (rawTo nn dl (a * nn + b)) (a : Int) (nn : Int) (a : Int) (nn : Int) (b : Int)) r
  | 0, b, h => by
    have e : b = nn := by omega
    have hw : wrap64 ((a : Int) + 1) = ((a + 1 : Nat) : Int) := by rw [w64 (by omega) (by omega)]; omega
    refine Ev.suc ?_
    simp only [impl_RingDepends.l1, hw]
    refine Ev.ite_neg (by omega) ?_
    rw [e]
    exact H
  | d + 1, b, h => by
    have ih := rdi_l1 nn dl hn a ha r H d (b + 1) (by omega)
    have hw : wrap64 ((b : Int) + 1) = ((b + 1 : Nat) : Int) := by rw [w64 (by omega) (by omega)]; omega
    have e1 : (a * nn + b) / nn = a := by rw [Nat.add_comm, Nat.add_mul_div_right b a (by omega), Nat.div_eq_of_lt (by omega), Nat.zero_add]
    have e2 : (a * nn + b) % nn = b := by rw [Nat.add_comm, Nat.add_mul_mod_self_right, Nat.mod_eq_of_lt (by omega)]
    have es : rawTo nn dl (a * nn + (b + 1)) = rawTo nn dl (a * nn + b) ++ ringA (hopsL (nn : Int) (a : Int) (b : Int) dl) := by
      rw [← Nat.add_assoc, rawTo_succ, e1, e2]
    have hq : a * nn ≤ 11 * 12 := Nat.mul_le_mul (by omega) hn.2
    have hlen := rawTo_len nn dl (a * nn + b)
    have hh := hopsL_len (nn : Int) (a : Int) (b : Int) dl
    rw [es, ← hw] at ih
    have h2 := rdi_l2 (nn : Int) dl (hopsL (nn : Int) (a : Int) (b : Int) dl) hh (rawTo nn dl (a * nn + b)) (by omega) (a : Int) (nn : Int) (a : Int) (nn : Int) (b : Int) r ih _ 0 (Nat.zero_add _)
    rw [List.range_zero, List.map_nil, List.append_nil] at h2
    refine Ev.suc ?_
    simp only [impl_RingDepends.l1]
    exact Ev.ite_pos (by omega) (Ev.bind (RingHops_i (nn : Int) (a : Int) (b : Int) dl) h2)
theorem rdi_l0 (nn : Nat) (dl : Bool) (hn : 2 ≤ nn ∧ nn ≤ 12) (r : List S94) (H : impl_arranged.f (rawTo nn dl (nn * nn)) = some r) :
    ∀ d a : Nat, a + d = nn → Ev (fun k => impl_RingDepends.l0 k (nn : Int) dl (rawTo nn dl (a * nn)) (nn : Int) (a : Int)) r
  | 0, a, h => by
    have e : a = nn := by omega
    subst e
    refine Ev.suc ?_
    simp only [impl_RingDepends.l0]
    exact Ev.ite_neg (by omega) (Ev.bindS H (Ev.now _))
  | d + 1, a, h => by
    have ih := rdi_l0 nn dl hn r H d (a + 1) (by omega)
    rw [Nat.add_mul, Nat.one_mul] at ih
    have h1 := rdi_l1 nn dl hn a (by omega) r ih nn 0 (Nat.zero_add _)
    refine Ev.suc ?_
    simp only [impl_RingDepends.l0]
    exact Ev.ite_pos (by omega) h1
theorem isRing_nil (n : Int) : Ev (fun k => impl_isRing.f k n []) (decide (2 ≤ n ∧ n ≤ 12)) := by
  unfold impl_isRing.f
  refine Ev.suc ?_
  simp only [impl_isRing.l0, inside_f, Option.bind_some]
  exact Ev.ite_neg (by simp) (Ev.now _)
/-- The dependencies of a ring, for the program. -/
theorem ringDep_i (n : Int) (dl : Bool) : ∃ r, dAll r = true ∧ r.length ≤ 1728 ∧ Ev (fun k => impl_RingDepends.f k n dl) r ∧ (¬ (2 ≤ n ∧ n ≤ 12) → r = []) ∧ ∀ nn : Nat, n = (nn : Int) → 2 ≤ nn ∧ nn ≤ 12 → ∀ y, y ∈ r ↔ y ∈ rawTo nn dl (nn * nn) := by
  unfold impl_RingDepends.f
  by_cases h : 2 ≤ n ∧ n ≤ 12
  · obtain ⟨nn, rfl⟩ : ∃ nn : Nat, n = (nn : Int) := ⟨n.toNat, by omega⟩
    have hn : 2 ≤ nn ∧ nn ≤ 12 := by omega
    have hq : nn * nn ≤ 12 * 12 := Nat.mul_le_mul hn.2 hn.2
    have hlen := rawTo_len nn dl (nn * nn)
    generalize hN : nn * nn = N at hq hlen
    subst hN
    obtain ⟨r, hr, h1, h2, h3⟩ := arr_i (rawTo nn dl (nn * nn)) (rawTo_in nn dl _) (by omega)
    refine ⟨r, h1, by omega, ?_, fun q => absurd h q, fun m e _ y => by rw [← show nn = m by omega, h2 y]⟩
    refine Ev.bindS rfl (Ev.bind (isRing_nil _) (Ev.ite_pos (decide_eq_true h) ?_))
    have h6 := rdi_l0 nn dl hn r hr nn 0 (Nat.zero_add _)
    rw [Nat.zero_mul] at h6
    exact h6
  · refine ⟨[], rfl, by simp, ?_, fun _ => rfl, fun m e hm => absurd (show 2 ≤ n ∧ n ≤ 12 by omega) h⟩
    exact Ev.bindS rfl (Ev.bind (isRing_nil _) (Ev.ite_neg (by rw [decide_eq_true_eq]; exact h) (Ev.now _)))

/-! ### in -/
theorem l01In_f (a b c : Int) : spec_l01In.f a b c = some (decide (b ≤ a ∧ a ≤ c)) := by
  unfold spec_l01In.f
  by_cases h : a ≥ b
  · rw [if_pos h]
    simp [show b ≤ a from h]
  · rw [if_neg h]
    simp [show ¬ b ≤ a from h]

/-! ### l13Ok -/
theorem l13Ok_f (n a b : Int) : spec_l13Ok.f n a b = some (decide (2 ≤ n ∧ n ≤ 12 ∧ 0 ≤ a ∧ a ≤ wrap64 (n - 1) ∧ 0 ≤ b ∧ b ≤ wrap64 (n - 1))) := by
  unfold spec_l13Ok.f
  simp only [l01In_f, Option.bind_some, decide_eq_true_eq]
  split
  · split
    · rename_i h1 h2
      simp only [Option.bind_some, Option.some.injEq, decide_eq_decide]
      exact ⟨fun h => ⟨h1.1, h1.2, h2.1, h2.2, h.1, h.2⟩, fun h => ⟨h.2.2.2.2.1, h.2.2.2.2.2⟩⟩
    · rename_i h1 h2
      simp only [Option.some.injEq]
      symm
      rw [decide_eq_false_iff_not]
      exact fun h => h2 ⟨h.2.2.1, h.2.2.2.1⟩
  · rename_i h1
    simp only [Option.some.injEq]
    symm
    rw [decide_eq_false_iff_not]
    exact fun h => h1 ⟨h.1, h.2.1⟩

/-! ### RingHops_s -/
theorem RingHops_s_l0 (n a b : Int) (dl : Bool) (hn : 2 ≤ n ∧ n ≤ 12) (ha : 0 ≤ a ∧ a < n) (hb : 0 ≤ b ∧ b < n) : ∀ (d i : Nat), i + d = ((b - a + n) % n).toNat →
    Ev (fun k => spec_RingHops.l0 k n b dl ((List.range i).map (hopAt n a dl)) (if dl = true ∧ n ≤ a + i then 1 else 0) ((a + i) % n)) ((List.range ((b - a + n) % n).toNat).map (hopAt n a dl))
  | 0, i, h => by
    refine Ev.suc ?_
    simp only [spec_RingHops.l0]
    rw [hops_arith n a b hn.1 ha hb] at h ⊢
    refine Ev.ite_pos ?_ (Ev.val ?_)
    · rw [mod_wrap n (a + i) (by omega) (by omega) (by split at h <;> omega)]
      split at h <;> split <;> omega
    · rw [← h]
      rfl
  | d + 1, i, h => by
    have hd := hops_arith n a b hn.1 ha hb
    have hlt : ((b - a + n) % n).toNat < 12 := by rw [hd]; split <;> omega
    have hm := mod_wrap n (a + i) (by omega) (by omega) (by omega)
    have ih := RingHops_s_l0 n a b dl hn ha hb d (i + 1) (by omega)
    have hs : (List.range i).map (hopAt n a dl) ++ [(⟨(a + i) % n, if dl = true ∧ n ≤ a + i then 1 else 0⟩ : S92)] = (List.range (i + 1)).map (hopAt n a dl) := by
      rw [List.range_succ, List.map_append]
      rfl
    have hst := hop_step n ((a + i) % n) hn (by rw [hm]; split <;> omega)
    have hnext : ((a + i) % n + 1) % n = (a + ((i + 1 : Nat) : Int)) % n := by
      rw [Int.emod_add_emod]
      congr 1
      omega
    have hne : ¬ (a + i) % n = b := by
      rw [hm]
      rw [hd] at h
      split at h <;> split <;> omega
    refine Ev.suc ?_
    simp only [spec_RingHops.l0]
    refine Ev.ite_neg hne (Ev.ite_pos (by simp; omega) (Ev.bindS rfl ?_))
    rw [hs, hst, hnext, w64 (x := n - 1) (by omega) (by omega)]
    cases dl with
    | false =>
      refine Ev.ite (fun h9 => Ev.ite_neg (by simp) (Ev.ite_neg (by omega) ?_)) (fun h9 => Ev.ite_neg (by omega) ?_)
      · simpa using ih
      · simpa using ih
    | true =>
      refine Ev.ite (fun h9 => Ev.ite_pos rfl (Ev.ite_neg (by omega) ?_)) (fun h9 => Ev.ite_neg (by omega) ?_)
      · rw [if_pos ⟨rfl, by rw [hm] at h9; split at h9 <;> omega⟩] at ih
        exact ih
      · have e : (if true = true ∧ n ≤ a + ((i + 1 : Nat) : Int) then (1 : Int) else 0) = (if true = true ∧ n ≤ a + (i : Int) then 1 else 0) := by
          rw [hm] at h9
          simp only [true_and]
          split at h9 <;> split <;> split <;> omega
        rw [e] at ih
        exact ih
theorem RingHops_s (n a b : Int) (dl : Bool) : Ev (fun k => spec_RingHops.f k n a b dl) (hopsL n a b dl) := by
  unfold spec_RingHops.f hopsL
  refine Ev.bindS rfl (Ev.bindS (l13Ok_f n a b) ?_)
  simp only [decide_eq_true_eq]
  refine Ev.ite (fun h => ?_) (fun h => Ev.val ?_)
  · have hb := ringOk_b (n := n) (a := a) (b := b) h
    rw [if_pos (show ringOk n a b from h)]
    have z := RingHops_s_l0 n a b dl ⟨hb.1, hb.2.1⟩ ⟨hb.2.2.1, hb.2.2.2.1⟩ ⟨hb.2.2.2.2.1, hb.2.2.2.2.2⟩ ((b - a + n) % n).toNat 0 (by omega)
    have e1 : (a + ((0 : Nat) : Int)) % n = a := by
      rw [Int.emod_eq_of_lt] <;> omega
    have e2 : (if dl = true ∧ n ≤ a + ((0 : Nat) : Int) then (1 : Int) else 0) = 0 := by
      rw [if_neg]
      omega
    rw [e1, e2] at z
    exact z
  · rw [if_neg (show ¬ ringOk n a b from h)]

/-! ### lessD -/
theorem less_f (a b c d : Int) : spec_l08Less.f a b c d = some (decide (a < c ∨ (a = c ∧ b < d))) := by
  unfold spec_l08Less.f
  by_cases h1 : a < c
  · rw [if_pos h1, decide_eq_true (Or.inl h1)]
  · rw [if_neg h1]
    by_cases h2 : a = c
    · rw [if_pos h2]
      congr 1
      rw [decide_eq_decide]
      omega
    · rw [if_neg h2, decide_eq_false (by omega)]

/-! ### putD -/
/-- What 'l08Put' makes: the list with one element more, in its place. -/
def PutOf (l : List S94) (d : S94) (r : List S94) : Prop := dAll r = true ∧ (∀ x, x ∈ r ↔ x = d ∨ x ∈ l) ∧ r.length ≤ l.length + 1
theorem put_l0 (l : List S94) (hl : l.length ≤ 1048576) (ha : dAll l = true) (d : S94) (hd : dIn d) : ∀ (i : Nat), i ≤ l.length → (∀ x ∈ l.drop i, dLt d x) → ∃ r, PutOf l d r ∧ Ev (fun k => spec_l08Put.l0 k l (i : Int) d.f0 d.f1) r := by
  have hs := (dAll_iff l).1 ha
  have fin : ∀ i, i ≤ l.length → (∀ x ∈ l.drop i, dLt d x) → (∀ x ∈ l.take i, dLt x d) → PutOf l d ((([] ++ l.take i) ++ [d]) ++ l.drop i) := fun i hi h1 h2 => by
    have e : (([] ++ l.take i) ++ [d]) ++ l.drop i = l.take i ++ d :: l.drop i := by simp
    rw [e]
    refine ⟨(dAll_iff _).2 ⟨fun x hx => ?_, ?_⟩, fun x => ?_, ?_⟩
    · rcases List.mem_append.1 hx with hx | hx
      · exact hs.1 x (List.mem_of_mem_take hx)
      · rcases List.mem_cons.1 hx with rfl | hx
        · exact hd
        · exact hs.1 x (List.mem_of_mem_drop hx)
    · have h3 := hs.2
      rw [← List.take_append_drop i l, List.pairwise_append] at h3
      rw [List.pairwise_append, List.pairwise_cons]
      refine ⟨h3.1, ⟨h1, h3.2.1⟩, fun x hx y hy => ?_⟩
      rcases List.mem_cons.1 hy with rfl | hy
      · exact h2 x hx
      · exact h3.2.2 x hx y hy
    · rw [List.mem_append, List.mem_cons]
      constructor
      · rintro (hx | rfl | hx)
        · exact Or.inr (List.mem_of_mem_take hx)
        · exact Or.inl rfl
        · exact Or.inr (List.mem_of_mem_drop hx)
      · rintro (rfl | hx)
        · exact Or.inr (Or.inl rfl)
        · rw [← List.take_append_drop i l, List.mem_append] at hx
          rcases hx with hx | hx
          · exact Or.inl hx
          · exact Or.inr (Or.inr hx)
    · simp
      omega
  have hlt : ∀ i : Nat, (l.take i).length ≤ l.length := fun i => by rw [List.length_take]; omega
  have hdr : ∀ i : Nat, (l.drop i).length ≤ l.length := fun i => by rw [List.length_drop]; omega
  intro i
  induction i with
  | zero =>
    intro hi h1
    refine ⟨_, fin 0 hi h1 (fun x hx => by simp at hx), Ev.suc ?_⟩
    simp only [spec_l08Put.l0, Option.bind_some]
    have := hlt 0
    have := hdr 0
    refine Ev.ite_neg (by omega) (Ev.ite_pos (by omega) (Ev.ite_pos (by omega) ?_))
    refine Ev.ite_pos ?_ (Ev.ite_pos ?_ (Ev.ite_pos ?_ (Ev.now _)))
    · simp
    · simp
    · simp; omega
  | succ i ih =>
    intro hi h1
    have hi' : i < l.length := by omega
    have hw : wrap64 (((i + 1 : Nat) : Int) - 1) = (i : Int) := by rw [w64 (by omega) (by omega)]; omega
    have hx := rdD_at l i hi'
    have hdrop : l.drop i = l[i] :: l.drop (i + 1) := List.drop_eq_getElem_cons hi'
    have hmem : l[i] ∈ l := List.getElem_mem hi'
    by_cases q1 : dLt d l[i]
    · obtain ⟨r, hr, h⟩ := ih (by omega) (fun x hx => by
        rw [hdrop] at hx
        rcases List.mem_cons.1 hx with rfl | hx
        · exact q1
        · exact h1 x hx)
      refine ⟨r, hr, Ev.suc ?_⟩
      simp only [spec_l08Put.l0, hw, hx, less_f, Option.bind_some, decide_eq_true_eq]
      exact Ev.ite_pos (by omega) (Ev.ite_pos (by omega) (Ev.ite_pos (by omega) (Ev.ite_pos q1 h)))
    · by_cases q2 : l[i] = d
      · refine ⟨l, ⟨ha, fun x => ⟨fun h => Or.inr h, fun h => h.elim (fun e => e ▸ q2 ▸ hmem) id⟩, by omega⟩, Ev.suc ?_⟩
        simp only [spec_l08Put.l0, hw, hx, less_f, Option.bind_some, decide_eq_true_eq]
        refine Ev.ite_pos (by omega) (Ev.ite_pos (by omega) (Ev.ite_pos (by omega) (Ev.ite_neg q1 (Ev.ite_pos ?_ (Ev.now _)))))
        rw [q2]
        simp
      · have q3 : dLt l[i] d := by
          have : ¬ (l[i].f0 = d.f0 ∧ l[i].f1 = d.f1) := fun e => q2 (by
            have e1 : l[i] = ⟨l[i].f0, l[i].f1⟩ := rfl
            rw [e1, e.1, e.2])
          unfold dLt at *
          omega
        have h2 : ∀ x ∈ l.take (i + 1), dLt x d := fun x hx => by
          rw [← List.take_append_getElem hi', List.mem_append, List.mem_singleton] at hx
          rcases hx with hx | rfl
          · have h3 := hs.2
            rw [← List.take_append_drop i l, List.pairwise_append] at h3
            exact dLt_trans (h3.2.2 x hx l[i] (by rw [hdrop]; exact List.mem_cons_self)) q3
          · exact q3
        refine ⟨_, fin (i + 1) hi h1 h2, Ev.suc ?_⟩
        have := hlt (i + 1)
        have := hdr (i + 1)
        simp only [spec_l08Put.l0, hw, hx, less_f, Option.bind_some, decide_eq_true_eq]
        refine Ev.ite_pos (by omega) (Ev.ite_pos (by omega) (Ev.ite_pos (by omega) (Ev.ite_neg q1 (Ev.ite_neg ?_ (Ev.ite_pos (by omega) (Ev.ite_pos (by omega) ?_))))))
        · intro z
          rw [Bool.and_eq_true, beq_iff_eq, beq_iff_eq] at z
          exact q2 (by
            have e1 : l[i] = ⟨l[i].f0, l[i].f1⟩ := rfl
            rw [e1, z.1, z.2])
        · refine Ev.ite_pos ?_ (Ev.ite_pos ?_ (Ev.ite_pos ?_ (Ev.now _)))
          · simp; omega
          · simp; omega
          · simp; omega
theorem put_s (l : List S94) (hl : l.length ≤ 1048576) (ha : dAll l = true) (d : S94) (hd : dIn d) : ∃ r, PutOf l d r ∧ Ev (fun k => spec_l08Put.f k l d.f0 d.f1) r := by
  unfold spec_l08Put.f
  exact put_l0 l hl ha d hd l.length (Nat.le_refl _) (fun x hx => by rw [List.drop_length] at hx; cases hx)

/-! ### ringDep -/
def Built (x S : List S94) : Prop := dAll x = true ∧ (∀ y, y ∈ x ↔ y ∈ S) ∧ x.length ≤ S.length
theorem Built.put {x S x' : List S94} {e : S94} (h : Built x S) (hp : PutOf x e x') : Built x' (S ++ [e]) := by
  refine ⟨hp.1, fun y => ?_, ?_⟩
  · rw [hp.2.1 y, h.2.1 y, List.mem_append, List.mem_singleton, or_comm]
  · have := h.2.2
    have := hp.2.2
    rw [List.length_append, List.length_singleton]
    omega
theorem rds_l1 (n : Int) (dl : Bool) (hs : List S92) (hl : hs.length ≤ 12) (hin : ∀ x ∈ ringA hs, dIn x) (S : List S94) (hS : S.length ≤ 4000) (x6 : Int) (G : List S94 → Prop)
    (H : ∀ x', Built x' (S ++ ringA hs) → ∃ r, G r ∧ Ev (fun k => spec_RingDepends.l0 k n dl x' (wrap64 (x6 + 1))) r) : ∀ (d t : Nat) (x : List S94), t + d = hs.length - 1 → Built x (S ++ (List.range t).map (ringAD hs)) → ∃ r, G r ∧ Ev (fun k => spec_RingDepends.l1 k n dl x x6 hs ((t + 1 : Nat) : Int)) r
  | 0, t, x, h, hb => by
    have e : t = hs.length - 1 := by omega
    rw [e] at hb
    obtain ⟨r, hG, hr⟩ := H x hb
    refine ⟨r, hG, Ev.suc ?_⟩
    simp only [spec_RingDepends.l1]
    exact Ev.ite_neg (by omega) hr
  | d + 1, t, x, h, hb => by
    have hw : wrap64 (((t + 1 : Nat) : Int) - 1) = (t : Int) := by rw [w64 (by omega) (by omega)]; omega
    have hn : wrap64 (((t + 1 : Nat) : Int) + 1) = ((t + 1 + 1 : Nat) : Int) := by rw [w64 (by omega) (by omega)]; omega
    have hm : ringAD hs t ∈ ringA hs := List.mem_map.2 ⟨t, List.mem_range.2 (by omega), rfl⟩
    have hxl := hb.2.2
    rw [List.length_append, List.length_map, List.length_range] at hxl
    obtain ⟨x', hp, hput⟩ := put_s x (by omega) hb.1 (ringAD hs t) (hin _ hm)
    have hb' := hb.put hp
    rw [List.append_assoc, show (List.range t).map (ringAD hs) ++ [ringAD hs t] = (List.range (t + 1)).map (ringAD hs) by rw [List.range_succ, List.map_append]; rfl] at hb'
    obtain ⟨r, hG, hr⟩ := rds_l1 n dl hs hl hin S hS x6 G H d (t + 1) x' (by omega) hb'
    refine ⟨r, hG, Ev.suc ?_⟩
    simp only [spec_RingDepends.l1, hw, hn]
    exact Ev.ite_pos (by omega) (Ev.ite_pos (by omega) (Ev.ite_pos (by omega) (Ev.ite_pos (by omega) (Ev.bind hput hr))))
theorem rds_l0 (nn : Nat) (dl : Bool) (hn : 2 ≤ nn ∧ nn ≤ 12) : ∀ (d i : Nat) (x : List S94), i + d = nn * nn → Built x (rawTo nn dl i) → ∃ r, Built r (rawTo nn dl (nn * nn)) ∧ Ev (fun k => spec_RingDepends.l0 k (nn : Int) dl x (i : Int)) r := by
  have hq : nn * nn ≤ 12 * 12 := Nat.mul_le_mul hn.2 hn.2
  have hm : wrap64 ((nn : Int) * (nn : Int)) = ((nn * nn : Nat) : Int) := by
    rw [← Int.natCast_mul, w64 (by omega) (by omega)]
  generalize hN : nn * nn = N at hm hq
  intro d
  induction d with
  | zero =>
    intro i x h hb
    have e : i = N := by omega
    subst e
    refine ⟨x, hb, Ev.suc ?_⟩
    simp only [spec_RingDepends.l0, hm]
    refine Ev.ite_neg (by omega) (Ev.suc ?_)
    simp only [spec_RingDepends.j1]
    exact Ev.ite_neg (by decide) (Ev.now _)
  | succ d ih =>
    intro i x h hb
    have hw : wrap64 ((i : Int) + 1) = ((i + 1 : Nat) : Int) := by rw [w64 (by omega) (by omega)]; omega
    have hlen := rawTo_len nn dl i
    have hh := hopsL_len (nn : Int) ((i / nn : Nat) : Int) ((i % nn : Nat) : Int) dl
    have hiq : i / nn ≤ i := Nat.div_le_self i nn
    have e1 : wrap64 (Int.tdiv (i : Int) (nn : Int)) = ((i / nn : Nat) : Int) := by
      rw [show Int.tdiv (i : Int) (nn : Int) = ((i / nn : Nat) : Int) from rfl]
      generalize i / nn = q at hiq
      exact w64 (by omega) (by omega)
    have e2 : Int.tmod (i : Int) (nn : Int) = ((i % nn : Nat) : Int) := rfl
    obtain ⟨r, hG, hr⟩ := rds_l1 (nn : Int) dl (hopsL (nn : Int) ((i / nn : Nat) : Int) ((i % nn : Nat) : Int) dl) hh (ringA_in _ _ _ _) (rawTo nn dl i) (by omega) (i : Int) (fun r => Built r (rawTo nn dl N)) (fun x' hx' => by
      rw [hw]
      rw [← rawTo_succ] at hx'
      exact ih (i + 1) x' (by omega) hx') _ 0 x (Nat.zero_add _) (by rw [List.range_zero, List.map_nil, List.append_nil]; exact hb)
    refine ⟨r, hG, Ev.suc ?_⟩
    simp only [spec_RingDepends.l0, hm, l01In_f, Option.bind_some]
    refine Ev.ite_pos (by omega) (Ev.suc ?_)
    simp only [spec_RingDepends.j1, e1, e2]
    refine Ev.ite_pos (decide_eq_true (by omega)) (Ev.ite_neg (by omega) (Ev.bind (RingHops_s _ _ _ _) hr))
/-- The dependencies of a ring: one valid list, for the program and for the reference. -/
theorem ringDep (n : Int) (dl : Bool) : ∃ r, dAll r = true ∧ r.length ≤ 1728 ∧ Ev (fun k => spec_RingDepends.f k n dl) r ∧ Ev (fun k => impl_RingDepends.f k n dl) r := by
  obtain ⟨r, ha, hl, hi, h0, hm⟩ := ringDep_i n dl
  refine ⟨r, ha, hl, ?_, hi⟩
  unfold spec_RingDepends.f
  by_cases h : 2 ≤ n ∧ n ≤ 12
  · obtain ⟨nn, rfl⟩ : ∃ nn : Nat, n = (nn : Int) := ⟨n.toNat, by omega⟩
    have hn : 2 ≤ nn ∧ nn ≤ 12 := by omega
    obtain ⟨r', h4, h5⟩ := rds_l0 nn dl hn (nn * nn) 0 [] (Nat.zero_add _) ⟨rfl, fun y => Iff.rfl, Nat.le_refl _⟩
    have e : r' = r := dAll_ext _ _ h4.1 ha (fun y => by rw [h4.2.1 y, hm nn rfl hn y])
    subst e
    exact h5
  · rw [h0 h]
    refine Ev.suc ?_
    simp only [spec_RingDepends.l0, l01In_f, Option.bind_some]
    refine Ev.ite (fun _ => Ev.suc ?_) (fun _ => Ev.suc ?_)
    · simp only [spec_RingDepends.j1]
      exact Ev.ite_neg (by rw [decide_eq_true_eq]; exact h) (Ev.now _)
    · simp only [spec_RingDepends.j1]
      exact Ev.ite_neg (by decide) (Ev.now _)

/-! ### eqDepend -/
theorem eqDepend_f (a0 a1 : Int)  : laws_eqDepend.f a0 a1 a0 a1 = some true := by
  unfold laws_eqDepend.f
  simp

/-! ### eqDependS -/
theorem eqDependS_l0 : ∀ (rest pre : List S94), pre.length + rest.length ≤ 1152921504606846976 → Ev (fun k => laws_eqDependS.l0 k (pre ++ rest) (pre ++ rest) (pre.length : Int)) true
  | [], pre, _ => by
    refine Ev.suc ?_
    simp only [laws_eqDependS.l0]
    refine Ev.ite_neg (by simp) (Ev.now _)
  | x :: rest, pre, hl => by
    simp only [List.length_cons] at hl
    refine Ev.suc ?_
    simp only [laws_eqDependS.l0, rdI_Depend, eqDepend_f, Option.bind_some]
    refine Ev.ite_pos (by simp only [List.length_append, List.length_cons]; omega) ?_
    refine Ev.ite_pos (by omega) ?_
    refine Ev.ite_pos (by simp only [List.length_append, List.length_cons]; omega) ?_
    refine Ev.ite_pos trivial ?_
    rw [w64 (by omega) (by omega), ← len_snoc pre x, snoc_app pre x rest]
    exact eqDependS_l0 rest (pre ++ [x]) (by simp only [List.length_append, List.length_cons, List.length_nil]; omega)
theorem eqDependS_f (l : List S94) (h : l.length ≤ 1152921504606846976) : Ev (fun k => laws_eqDependS.f k l l) true := by
  unfold laws_eqDependS.f
  refine Ev.ite_pos rfl ?_
  exact eqDependS_l0 l [] (by simpa using h)

/-! ### markDependS -/
def mkDepend : Int → List S94 → List S94
  | _, [] => []
  | m, _ :: l => (⟨m, m + 1⟩ : S94) :: mkDepend (m + 1 + 1) l
theorem markDepend_l0 : ∀ (rest pre : List S94) (m : Int), pre.length + rest.length ≤ 1099511627776 → 0 ≤ m → m + 2 * (rest.length : Int) ≤ 1152921504606846976 →
    Ev (fun k => laws_markDependS.l0 k (pre ++ rest) m (pre.length : Int)) (m + 2 * (rest.length : Int), pre ++ mkDepend m rest) ∧
    Ev (fun k => laws_heldDependS.l0 k (pre ++ mkDepend m rest) m (pre.length : Int)) (m + 2 * (rest.length : Int))
  | [], pre, m, _, _, _ => by
    constructor
    · refine Ev.suc ?_
      simp only [laws_markDependS.l0]
      exact Ev.ite_neg (by simp) (Ev.val (by simp [mkDepend]))
    · refine Ev.suc ?_
      simp only [laws_heldDependS.l0]
      exact Ev.ite_neg (by simp [mkDepend]) (Ev.val (by simp))
  | x :: rest, pre, m, hl, h0, hm => by
    simp only [List.length_cons] at hl hm
    have hp : (pre.length : Int) < ((pre ++ x :: rest).length : Int) := by simp only [List.length_append, List.length_cons]; omega
    have hw : wrap64 ((pre.length : Int) + 1) = ((pre ++ [(⟨m, m + 1⟩ : S94)]).length : Int) := by rw [w64 (by omega) (by omega), len_snoc]
    have h1 : wrap64 (m + 1) = m + 1 := w64 (by omega) (by omega)
    have h2 : wrap64 (m + 1 + 1) = m + 1 + 1 := w64 (by omega) (by omega)
    have ih := markDepend_l0 rest (pre ++ [(⟨m, m + 1⟩ : S94)]) (m + 1 + 1) (by simp only [List.length_append, List.length_cons, List.length_nil]; omega) (by omega) (by omega)
    have e : m + 1 + 1 + 2 * (rest.length : Int) = m + 2 * ((x :: rest).length : Int) := by
      simp only [List.length_cons]
      omega
    rw [e] at ih
    have el : pre ++ mkDepend m (x :: rest) = pre ++ (⟨m, m + 1⟩ : S94) :: mkDepend (m + 1 + 1) rest := rfl
    constructor
    · refine Ev.suc ?_
      simp only [laws_markDependS.l0, set_mid, rdI_Depend, Option.bind_some, h1, h2, hw]
      refine Ev.ite_pos hp (Ev.ite_pos (by omega) ?_)
      rw [el, snoc_app pre _ rest, snoc_app pre _ (mkDepend _ rest)]
      exact ih.1
    · rw [el]
      have hq : (pre.length : Int) < ((pre ++ (⟨m, m + 1⟩ : S94) :: mkDepend (m + 1 + 1) rest).length : Int) := by simp only [List.length_append, List.length_cons]; omega
      refine Ev.suc ?_
      simp only [laws_heldDependS.l0, rdI_Depend, h1, h2, hw]
      refine Ev.ite_pos hq (Ev.ite_pos (by omega) (Ev.ite_pos (by trivial) (Ev.ite_pos (by trivial) (?_))))
      rw [snoc_app pre _ (mkDepend _ rest)]
      exact ih.2
/-- What is marked is held. -/
theorem markDepend_f (l : List S94) (m : Int) (hl : l.length ≤ 1099511627776) (h0 : 0 ≤ m) (h1 : m ≤ 1099511627776) :
    ∃ m' l', m ≤ m' ∧ m' ≤ m + 2 * (l.length : Int) ∧ l'.length = l.length ∧ Ev (fun k => laws_markDependS.f k l m) (m', l') ∧ Ev (fun k => laws_heldDependS.f k l' m) m' := by
  have h := markDepend_l0 l [] m (by simpa using hl) h0 (by omega)
  have hlen : ∀ (l : List S94) (m : Int), (mkDepend m l).length = l.length := by
    intro l
    induction l with
    | nil => exact fun _ => rfl
    | cons x l ih => exact fun m => by simp only [mkDepend, List.length_cons, ih]
  refine ⟨m + 2 * (l.length : Int), mkDepend m l, by omega, by omega, hlen l m, ?_, ?_⟩
  · unfold laws_markDependS.f
    exact h.1
  · unfold laws_heldDependS.f
    exact h.2

theorem FnExactRingDepends : FnExactRingDepends_says := by
  intro n dl _
  refine Ev.rounds ?_
  obtain ⟨r, _, hl, hs, hi⟩ := ringDep n dl
  obtain ⟨m, l', hm, _, _, h1, h2⟩ := markDepend_f r 1 (by omega) (by omega) (by omega)
  unfold laws_FnExactRingDepends.f
  refine Ev.bind hs (Ev.bind hi (Ev.bind (eqDependS_f _ (by omega)) (Ev.ite_pos rfl ?_)))
  refine Ev.bind h1 (Ev.bind h2 (Ev.ite_neg (by omega) (Ev.ite_pos rfl ?_)))
  refine Ev.bind hi (Ev.bind (eqDependS_f _ (by omega)) (Ev.ite_pos rfl ?_))
  exact Ev.bind h2 (Ev.ite_neg (by omega) (Ev.ite_pos rfl (Ev.now _)))

end Go.Proofs.Ytimdefbpoddoaaa.Pure
