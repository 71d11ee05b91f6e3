/- The plain statement of the law FnExactSplitClasses: the program's SplitClasses and the reference's give the same two tables, and nothing is shared. No condition. -/
import Derived.Test.YtlfmckdhmklgpaaPFnExactSplitClassesx
import Derived.Test.YtlfmckdhmklgpaaU
import Derived.Test.YtlfmckdhmklgpaaSaysFnExactSplitClasses
namespace Go.Proofs.Ytlfmckdhmklgpaa.Pure
open Go.RowKit Go.Proofs.Ytlfmckdhmklgpaa.PFnExactSplitClasses Go.Proofs.YtlfmckdhmklgpaaW.PrintWords Go.Proofs.YtlfmckdhmklgpaaW.PrintLast Go.Proofs.YtlfmckdhmklgpaaW.PrintMore Go.Proofs.Ytlfmckdhmklgpaa.U
set_option linter.unusedVariables false
set_option linter.unusedSimpArgs false

/-! ### grid -/
abbrev gOk (w h : Int) : Prop := 1 ≤ w ∧ w ≤ 4 ∧ 1 ≤ h ∧ h ≤ 4
def ncR (w h : Int) : Int := if gOk w h then w * h else 0
theorem mul_b {w h : Int} (hw : 1 ≤ w ∧ w ≤ 4) (hh : 1 ≤ h ∧ h ≤ 4) : 1 ≤ w * h ∧ w * h ≤ 16 := by
  obtain h1 | h1 | h1 | h1 : w = 1 ∨ w = 2 ∨ w = 3 ∨ w = 4 := by omega
  all_goals
    subst h1
    omega
theorem ncR_b (w h : Int) : 0 ≤ ncR w h ∧ ncR w h ≤ 16 := by
  unfold ncR
  split
  · rename_i hg
    have := mul_b ⟨hg.1, hg.2.1⟩ hg.2.2
    omega
  · omega
abbrev nodeOk (w h n : Int) : Prop := 0 ≤ n ∧ n ≤ ncR w h - 1

/-! ### std -/
def portR (w rule node dst : Int) : Int :=
  if node = dst then 4 else
  if (if (if rule = 4 then 1 + dst % 2 else rule) = 2 then node / w = dst / w else if (if rule = 4 then 1 + dst % 2 else rule) = 3 then dst % w < node % w ∨ node / w = dst / w else node % w ≠ dst % w)
  then (if dst % w < node % w then 3 else 1) else (if dst / w < node / w then 0 else 2)
def stdL (w h rule : Int) (i : Nat) : List Int := (List.range i).map fun j => portR w rule ((j / (ncR w h).toNat : Nat) : Int) ((j % (ncR w h).toNat : Nat) : Int)
def stdT (w h rule : Int) : List Int := stdL w h rule ((ncR w h).toNat * (ncR w h).toNat)
theorem stdL_len (w h rule : Int) (i : Nat) : (stdL w h rule i).length = i := by
  unfold stdL
  simp
theorem stdL_snoc (w h rule : Int) (i : Nat) : stdL w h rule i ++ [portR w rule ((i / (ncR w h).toNat : Nat) : Int) ((i % (ncR w h).toNat : Nat) : Int)] = stdL w h rule (i + 1) := by
  unfold stdL
  rw [List.range_succ, List.map_append]
  rfl
theorem nn_b (w h : Int) : (ncR w h).toNat ≤ 16 := by
  have := ncR_b w h
  omega
theorem sq_b {n : Nat} (h : n ≤ 16) : n * n ≤ 256 := by
  have := Nat.mul_le_mul h h
  omega
theorem stdL_lim (w h rule : Int) {i : Nat} (h2 : i ≤ 256) : (stdL w h rule i).length < 17592186044416 := by
  have e := stdL_len w h rule i
  omega
theorem stdT_len (w h rule : Int) : (stdT w h rule).length ≤ 256 := by
  unfold stdT
  rw [stdL_len]
  exact sq_b (nn_b w h)
theorem node_b {w x : Int} (hw : 1 ≤ w ∧ w ≤ 4) (hx : 0 ≤ x ∧ x ≤ 15) : Int.tmod x w = x % w ∧ Int.tdiv x w = x / w ∧ 0 ≤ x % w ∧ x % w < w ∧ 0 ≤ x / w ∧ x / w ≤ 15 := by
  rw [Int.tmod_eq_emod_of_nonneg hx.1, Int.tdiv_eq_ediv_of_nonneg hx.1]
  refine ⟨rfl, rfl, Int.emod_nonneg _ (by omega), Int.emod_lt_of_pos _ (by omega), Int.ediv_nonneg hx.1 (by omega), ?_⟩
  obtain h1 | h1 | h1 | h1 : w = 1 ∨ w = 2 ∨ w = 3 ∨ w = 4 := by omega
  all_goals
    subst h1
    omega
theorem node_eq {w x y : Int} (h1 : x % w = y % w) (h2 : x / w = y / w) : x = y := by
  have := Int.mul_ediv_add_emod x w
  have := Int.mul_ediv_add_emod y w
  rw [h1, h2] at *
  omega

/-! ### in -/
theorem l01In_f (a b c : Int) : spec_l01In.f a b c = some (decide (b ≤ a ∧ a ≤ c)) := by
  unfold spec_l01In.f
  by_cases h : a ≥ b
  · rw [if_pos h]
    simp [show b ≤ a from h]
  · rw [if_neg h]
    simp [show ¬ b ≤ a from h]

/-! ### grid_s -/
theorem GridOk_s (w h : Int) : spec_GridOk.f w h = some (decide (gOk w h)) := by
  unfold spec_GridOk.f gOk
  simp only [l01In_f, Option.bind_some, decide_eq_true_eq]
  split
  · rename_i h1
    simp [h1]
  · rename_i h1
    simp only [Option.some.injEq]
    symm
    rw [decide_eq_false_iff_not]
    exact fun h2 => h1 ⟨h2.1, h2.2.1⟩
theorem NodeCount_s (w h : Int) : spec_NodeCount.f w h = some (ncR w h) := by
  unfold spec_NodeCount.f ncR
  simp only [GridOk_s, Option.bind_some, decide_eq_true_eq]
  split
  · rename_i hg
    have := mul_b ⟨hg.1, hg.2.1⟩ hg.2.2
    rw [w64 (by omega) (by omega)]
  · rfl

/-! ### std_s -/
theorem l05Column_s (a b : Int) : spec_l05Column.f a b = some (if b < a then 3 else 1) := by
  unfold spec_l05Column.f
  split <;> rfl
theorem l05Row_s (a b : Int) : spec_l05Row.f a b = some (if b < a then 0 else 2) := by
  unfold spec_l05Row.f
  split <;> rfl
theorem l05Port_j1 (x y u v : Int) (b : Bool) : Ev (fun k => spec_l05Port.j1 k x y u v b) (if b = true then (if u < x then 3 else 1) else (if v < y then 0 else 2)) := by
  refine Ev.suc ?_
  simp only [spec_l05Port.j1, l05Column_s, l05Row_s, Option.bind_some]
  refine Ev.ite (fun h => Ev.val ?_) (fun h => Ev.val ?_)
  · rw [if_pos h]
  · rw [if_neg h]
theorem l05Port_j0 (r x y u v : Int) : Ev (fun k => spec_l05Port.j0 k r x y u v) (if (if r = 2 then y = v else if r = 3 then u < x ∨ y = v else x ≠ u) then (if u < x then 3 else 1) else (if v < y then 0 else 2)) := by
  refine Ev.suc ?_
  simp only [spec_l05Port.j0]
  refine Ev.ite (fun h => ?_) (fun h => Ev.ite (fun h3 => Ev.ite (fun h4 => ?_) (fun h4 => ?_)) (fun h3 => ?_))
  · refine Ev.eq (l05Port_j1 x y u v _) ?_
    simp [h]
  · refine Ev.eq (l05Port_j1 x y u v _) ?_
    simp [h3, h4]
  · refine Ev.eq (l05Port_j1 x y u v _) ?_
    simp [h3, h4]
  · refine Ev.eq (l05Port_j1 x y u v _) ?_
    simp [h, h3]
theorem l05Port_s (w h rule node dst : Int) (hw : 1 ≤ w ∧ w ≤ 4) (hn : 0 ≤ node ∧ node ≤ 15) (ht : 0 ≤ dst ∧ dst ≤ 15) : Ev (fun k => spec_l05Port.f k w h rule node dst) (portR w rule node dst) := by
  unfold spec_l05Port.f portR
  obtain ⟨a1, a2, a3, a4, a5, a6⟩ := node_b hw hn
  obtain ⟨b1, b2, b3, b4, b5, b6⟩ := node_b hw ht
  have c2 : Int.tmod dst 2 = dst % 2 := Int.tmod_eq_emod_of_nonneg ht.1
  have e1 : wrap64 (node / w) = node / w := w64 (by omega) (by omega)
  have e2 : wrap64 (dst / w) = dst / w := w64 (by omega) (by omega)
  have e3 : wrap64 (1 + dst % 2) = 1 + dst % 2 := w64 (by omega) (by omega)
  simp only [a1, a2, b1, b2, c2, e1, e2, e3]
  refine Ev.ite_neg (by omega) (Ev.ite (fun h1 => Ev.val ?_) (fun h1 => ?_))
  · rw [if_pos h1]
  · rw [if_neg h1]
    refine Ev.ite (fun h4 => ?_) (fun h4 => ?_)
    · refine Ev.eq (l05Port_j0 _ _ _ _ _) ?_
      simp [h4]
    · refine Ev.eq (l05Port_j0 _ _ _ _ _) ?_
      simp [h4]
theorem l05Make_l0 (w h rule : Int) (hg : gOk w h) : ∀ (d i : Nat), i + d = (ncR w h).toNat * (ncR w h).toNat →
    Ev (fun k => spec_l05Make.l0 k rule (ncR w h) (i : Int) w h (stdL w h rule i)) (stdT w h rule)
  | d, i, hd => by
    have hb := ncR_b w h
    have hq := sq_b (nn_b w h)
    have hn1 : 1 ≤ ncR w h := by
      unfold ncR
      rw [if_pos hg]
      exact (mul_b ⟨hg.1, hg.2.1⟩ hg.2.2).1
    have hsq : wrap64 (ncR w h * ncR w h) = (((ncR w h).toNat * (ncR w h).toNat : Nat) : Int) := by
      have e : (((ncR w h).toNat * (ncR w h).toNat : Nat) : Int) = ncR w h * ncR w h := by
        rw [Int.natCast_mul, Int.toNat_of_nonneg hb.1]
      rw [← e]
      exact w64 (by omega) (by omega)
    refine Ev.suc ?_
    simp only [spec_l05Make.l0, hsq]
    cases d with
    | zero =>
      refine Ev.ite_neg (by omega) (Ev.val ?_)
      unfold stdT
      rw [← hd]
      rfl
    | succ d =>
      have ih := l05Make_l0 w h rule hg d (i + 1) (by omega)
      have hi : i < (ncR w h).toNat * (ncR w h).toNat := by omega
      have e1 : wrap64 (Int.tdiv (i : Int) (ncR w h)) = ((i / (ncR w h).toNat : Nat) : Int) := by
        have e : ((i / (ncR w h).toNat : Nat) : Int) = (i : Int) / ncR w h := by
          rw [Int.natCast_ediv, Int.toNat_of_nonneg hb.1]
        have hlt : i / (ncR w h).toNat < (ncR w h).toNat := Nat.div_lt_of_lt_mul hi
        rw [Int.tdiv_eq_ediv_of_nonneg (by omega), ← e]
        generalize i / (ncR w h).toNat = q at hlt ⊢
        exact w64 (by omega) (by omega)
      have e2 : Int.tmod (i : Int) (ncR w h) = ((i % (ncR w h).toNat : Nat) : Int) := by
        rw [Int.tmod_eq_emod_of_nonneg (by omega), Int.natCast_emod, Int.toNat_of_nonneg hb.1]
      have l1 : i / (ncR w h).toNat < (ncR w h).toNat := Nat.div_lt_of_lt_mul hi
      have l2 : i % (ncR w h).toNat < (ncR w h).toNat := Nat.mod_lt _ (by omega)
      have hw : wrap64 ((i : Int) + 1) = ((i + 1 : Nat) : Int) := by rw [w64 (by omega) (by omega)]; omega
      rw [← stdL_snoc] at ih
      rw [e1, e2, hw]
      generalize i / (ncR w h).toNat = q at l1 ih ⊢
      generalize i % (ncR w h).toNat = r at l2 ih ⊢
      refine Ev.ite_pos (by omega) ?_
      refine Ev.ite_neg (by omega) ?_
      refine Ev.bind (l05Port_s w h rule _ _ ⟨hg.1, hg.2.1⟩ ⟨by omega, by omega⟩ ⟨by omega, by omega⟩) ?_
      refine Ev.ite_pos (stdL_lim w h rule (Nat.le_of_lt (Nat.lt_of_lt_of_le hi hq))) ?_
      exact ih
theorem l05Make_s (w h rule : Int) (hg : gOk w h) : Ev (fun k => spec_l05Make.f k w h rule) (stdT w h rule) := by
  unfold spec_l05Make.f
  exact Ev.bindS (NodeCount_s w h) (l05Make_l0 w h rule hg _ 0 (Nat.zero_add _))

/-! ### inside -/
theorem inside_f (a b c : Int) : impl_inside.f a b c = some (decide (b ≤ a ∧ a ≤ c)) := by
  unfold impl_inside.f
  by_cases h : b ≤ a
  · rw [if_pos h]
    simp [h]
  · rw [if_neg h]
    simp [h]

/-! ### grid_i -/
theorem GridOk_i (w h : Int) : impl_GridOk.f w h = some (decide (gOk w h)) := by
  unfold impl_GridOk.f gOk
  simp only [inside_f, Option.bind_some, decide_eq_true_eq]
  split
  · rename_i h1
    simp [h1]
  · rename_i h1
    simp only [Option.some.injEq]
    symm
    rw [decide_eq_false_iff_not]
    exact fun h2 => h1 ⟨h2.1, h2.2.1⟩
theorem NodeCount_i (w h : Int) : impl_NodeCount.f w h = some (ncR w h) := by
  unfold impl_NodeCount.f ncR
  simp only [GridOk_i, Option.bind_some, decide_eq_true_eq]
  split
  · rename_i hg
    have := mul_b ⟨hg.1, hg.2.1⟩ hg.2.2
    rw [w64 (by omega) (by omega)]
  · rfl

/-! ### isNode -/
theorem isNode_i (w h n : Int) : impl_isNode.f w h n = some (decide (nodeOk w h n)) := by
  unfold impl_isNode.f nodeOk
  have := ncR_b w h
  simp only [NodeCount_i, inside_f, Option.bind_some]
  rw [w64 (by omega) (by omega)]

/-! ### std_i -/
theorem along_i (a b : Int) : impl_along.f a b = some (if a < b then 1 else if a > b then 3 else -1) := by
  unfold impl_along.f
  split
  · rfl
  · split <;> rfl
theorem across_i (a b : Int) : impl_across.f a b = some (if a < b then 2 else if a > b then 0 else -1) := by
  unfold impl_across.f
  split
  · rfl
  · split <;> rfl
theorem port_choice (r node dst w : Int) (hr : 1 ≤ r ∧ r ≤ 3) (hne : ¬ node = dst) :
    (if (if node / w < dst / w then (2 : Int) else if node / w > dst / w then 0 else -1) < 0 then (some (if node % w < dst % w then (1 : Int) else if node % w > dst % w then 3 else -1)) else (if (if node % w < dst % w then (1 : Int) else if node % w > dst % w then 3 else -1) ≥ 0 then (if r = 1 then (some (if node % w < dst % w then (1 : Int) else if node % w > dst % w then 3 else -1)) else (if r = 3 then (if (if node % w < dst % w then (1 : Int) else if node % w > dst % w then 3 else -1) = 3 then (some (if node % w < dst % w then (1 : Int) else if node % w > dst % w then 3 else -1)) else (some (if node / w < dst / w then (2 : Int) else if node / w > dst / w then 0 else -1))) else (some (if node / w < dst / w then (2 : Int) else if node / w > dst / w then 0 else -1)))) else (some (if node / w < dst / w then (2 : Int) else if node / w > dst / w then 0 else -1)))) =
    some (if (if r = 2 then node / w = dst / w else if r = 3 then dst % w < node % w ∨ node / w = dst / w else node % w ≠ dst % w) then (if dst % w < node % w then 3 else 1) else (if dst / w < node / w then 0 else 2)) := by
  have key : ¬ (node % w = dst % w ∧ node / w = dst / w) := fun h => hne (node_eq h.1 h.2)
  generalize node % w = x at *
  generalize dst % w = u at *
  generalize node / w = y at *
  generalize dst / w = v at *
  obtain rfl | rfl | rfl : r = 1 ∨ r = 2 ∨ r = 3 := by omega
  all_goals
    rcases Int.lt_trichotomy x u with h1 | h1 | h1
    · have a1 : ¬ u < x := by omega
      have a2 : ¬ x = u := by omega
      rcases Int.lt_trichotomy y v with h2 | h2 | h2
      · have b1 : ¬ v < y := by omega
        have b2 : ¬ y = v := by omega
        simp [h1, a1, a2, h2, b1, b2]
      · subst h2
        simp [h1, a1, a2]
      · have b1 : ¬ y < v := by omega
        have b2 : ¬ y = v := by omega
        simp [h1, a1, a2, h2, b1, b2]
    · rcases Int.lt_trichotomy y v with h2 | h2 | h2
      · have b1 : ¬ v < y := by omega
        have b2 : ¬ y = v := by omega
        subst h1
        simp [h2, b1, b2]
      · exact absurd ⟨h1, h2⟩ key
      · have b1 : ¬ y < v := by omega
        have b2 : ¬ y = v := by omega
        subst h1
        simp [h2, b1, b2]
    · have a1 : ¬ x < u := by omega
      have a2 : ¬ x = u := by omega
      rcases Int.lt_trichotomy y v with h2 | h2 | h2
      · have b1 : ¬ v < y := by omega
        have b2 : ¬ y = v := by omega
        simp [h1, a1, a2, h2, b1, b2]
      · subst h2
        simp [h1, a1, a2]
      · have b1 : ¬ y < v := by omega
        have b2 : ¬ y = v := by omega
        simp [h1, a1, a2, h2, b1, b2]
theorem StandardPort_j1 (w h r node dst : Int) (hw : 1 ≤ w ∧ w ≤ 4) (hr : 1 ≤ r ∧ r ≤ 3) (hn : 0 ≤ node ∧ node ≤ 15) (ht : 0 ≤ dst ∧ dst ≤ 15) : Ev (fun k => impl_StandardPort.j1 k r node dst w h)
    (if node = dst then 4 else if (if r = 2 then node / w = dst / w else if r = 3 then dst % w < node % w ∨ node / w = dst / w else node % w ≠ dst % w) then (if dst % w < node % w then 3 else 1) else (if dst / w < node / w then 0 else 2)) := by
  obtain ⟨a1, a2, a3, a4, a5, a6⟩ := node_b hw hn
  obtain ⟨b1, b2, b3, b4, b5, b6⟩ := node_b hw ht
  have e1 : wrap64 (node / w) = node / w := w64 (by omega) (by omega)
  have e2 : wrap64 (dst / w) = dst / w := w64 (by omega) (by omega)
  refine Ev.suc ?_
  simp only [impl_StandardPort.j1, a1, a2, b1, b2, e1, e2, along_i, across_i, Option.bind_some]
  refine Ev.ite_neg (by omega) (Ev.ite (fun h1 => Ev.val ?_) (fun h1 => ?_))
  · rw [if_pos h1]
  · rw [if_neg h1]
    have z := port_choice r node dst w hr h1
    exact Ev.congr (fun _ => z) (Ev.now _)
theorem StandardPort_i (w h rule node dst : Int) (hg : gOk w h) (hr : 1 ≤ rule ∧ rule ≤ 4) (hn : nodeOk w h node) (ht : nodeOk w h dst) : Ev (fun k => impl_StandardPort.f k w h rule node dst) (portR w rule node dst) := by
  have hb := ncR_b w h
  have hn' : 0 ≤ node ∧ node ≤ 15 := ⟨hn.1, by have := hn.2; omega⟩
  have ht' : 0 ≤ dst ∧ dst ≤ 15 := ⟨ht.1, by have := ht.2; omega⟩
  unfold impl_StandardPort.f
  simp only [isNode_i, inside_f, Option.bind_some]
  refine Ev.ite_pos (decide_eq_true hn) ?_
  refine Ev.ite_pos (decide_eq_true ht) ?_
  refine Ev.suc ?_
  have c2 : Int.tmod dst 2 = dst % 2 := Int.tmod_eq_emod_of_nonneg ht.1
  have e3 : wrap64 (1 + dst % 2) = 1 + dst % 2 := w64 (by omega) (by omega)
  simp only [impl_StandardPort.j0, c2, e3]
  refine Ev.ite_neg (by simp [hr]) ?_
  unfold portR
  refine Ev.ite (fun h4 => ?_) (fun h4 => ?_)
  · rw [if_pos h4]
    exact StandardPort_j1 w h _ node dst ⟨hg.1, hg.2.1⟩ ⟨by omega, by omega⟩ hn' ht'
  · rw [if_neg h4]
    exact StandardPort_j1 w h _ node dst ⟨hg.1, hg.2.1⟩ ⟨by omega, by omega⟩ hn' ht'
theorem StdTable_l1 (w h rule : Int) (hg : gOk w h) (hr : 1 ≤ rule ∧ rule ≤ 4) (R : List Int × Bool) (n : Nat) (hn : (n : Int) = ncR w h) (node : Nat) (hnode : node < n)
    (hR : Ev (fun k => impl_StandardTable.l0 k rule (n : Int) ((node + 1 : Nat) : Int) w h (stdL w h rule ((node + 1) * n))) R) : ∀ (d j : Nat), j + d = n →
    Ev (fun k => impl_StandardTable.l1 k rule (node : Int) (n : Int) (node : Int) (n : Int) (j : Int) w h (stdL w h rule (node * n + j))) R
  | d, j, hd => by
    have hb := ncR_b w h
    have hnt : (ncR w h).toNat = n := by omega
    have hq : node * n + n ≤ 256 := by
      have h1 : (node + 1) * n ≤ n * n := Nat.mul_le_mul_right _ hnode
      have h2 := sq_b (n := n) (by omega)
      rw [Nat.add_mul] at h1
      omega
    refine Ev.suc ?_
    simp only [impl_StandardTable.l1]
    cases d with
    | zero =>
      have hj : j = n := by omega
      subst hj
      refine Ev.ite_neg (by omega) ?_
      have e : wrap64 ((node : Int) + 1) = ((node + 1 : Nat) : Int) := by rw [w64 (by omega) (by omega)]; omega
      have e2 : node * j + j = (node + 1) * j := by rw [Nat.add_mul, Nat.one_mul]
      rw [e, e2]
      exact hR
    | succ d =>
      have hjn : j < n := by omega
      have hlim : node * n + j ≤ 256 := Nat.le_trans (Nat.add_le_add_left (Nat.le_of_lt hjn) _) hq
      have p1 : 0 ≤ (node : Int) ∧ (node : Int) ≤ ncR w h - 1 := by omega
      have p2 : 0 ≤ (j : Int) ∧ (j : Int) ≤ ncR w h - 1 := by omega
      have p3 : (j : Int) < (n : Int) := by omega
      have ih := StdTable_l1 w h rule hg hr R n hn node hnode hR d (j + 1) (by omega)
      have hw : wrap64 ((j : Int) + 1) = ((j + 1 : Nat) : Int) := by rw [w64 (by omega) (by omega)]; omega
      have hs := stdL_snoc w h rule (node * n + j)
      have e1 : (node * n + j) / n = node := by
        have hj : j < n := by omega
        rw [Nat.mul_comm node n, Nat.mul_add_div (Nat.zero_lt_of_lt hj) node j, Nat.div_eq_of_lt hj, Nat.add_zero]
      have e2 : (node * n + j) % n = j := by
        have hj : j < n := by omega
        rw [Nat.mul_comm node n, Nat.mul_add_mod n node j, Nat.mod_eq_of_lt hj]
      rw [hnt, e1, e2] at hs
      clear e1 e2
      rw [hw]
      refine Ev.ite_pos p3 ?_
      refine Ev.bind (StandardPort_i w h rule node j hg hr p1 p2) ?_
      refine Ev.ite_pos (stdL_lim w h rule hlim) ?_
      rw [hs]
      exact ih
theorem StdTable_l0 (w h rule : Int) (hg : gOk w h) (hr : 1 ≤ rule ∧ rule ≤ 4) (n : Nat) (hn : (n : Int) = ncR w h) : ∀ (d node : Nat), node + d = n →
    Ev (fun k => impl_StandardTable.l0 k rule (n : Int) (node : Int) w h (stdL w h rule (node * n))) (stdT w h rule, true)
  | 0, node, hd => by
    have hnt : (ncR w h).toNat = n := by omega
    refine Ev.suc ?_
    simp only [impl_StandardTable.l0]
    refine Ev.ite_neg (by omega) (Ev.val ?_)
    unfold stdT
    rw [hnt, show node = n by omega]
  | d + 1, node, hd => by
    have ih := StdTable_l0 w h rule hg hr n hn d (node + 1) (by omega)
    refine Ev.suc ?_
    simp only [impl_StandardTable.l0]
    refine Ev.ite_pos (by omega) (Ev.bindS (NodeCount_i w h) ?_)
    rw [← hn]
    exact StdTable_l1 w h rule hg hr _ n hn node (by omega) ih n 0 (by omega)
theorem StandardTable_i (w h rule : Int) (hr : 1 ≤ rule ∧ rule ≤ 4) : Ev (fun k => impl_StandardTable.f k w h rule) (if gOk w h then (stdT w h rule, true) else ([], false)) := by
  unfold impl_StandardTable.f
  simp only [GridOk_i, inside_f, Option.bind_some]
  refine Ev.ite (fun hg => ?_) (fun hg => ?_)
  · have hg' := of_decide_eq_true hg
    rw [if_pos hg']
    refine Ev.suc ?_
    simp only [impl_StandardTable.j0]
    refine Ev.ite_neg (by simp [hr]) (Ev.bindS (NodeCount_i w h) ?_)
    have hb := ncR_b w h
    obtain ⟨n, hn⟩ : ∃ n : Nat, (n : Int) = ncR w h := ⟨(ncR w h).toNat, by omega⟩
    have z := StdTable_l0 w h rule hg' hr n hn n 0 (by omega)
    rw [Nat.zero_mul] at z
    rw [← hn]
    exact z
  · have hg' : ¬ gOk w h := fun h => hg (decide_eq_true h)
    rw [if_neg hg']
    refine Ev.suc ?_
    simp only [impl_StandardTable.j0]
    exact Ev.ite_pos trivial (Ev.now _)

/-! ### eqIntS -/
theorem eqIntS_l0 : ∀ (rest pre : List Int), pre.length + rest.length ≤ 1152921504606846976 → Ev (fun k => laws_eqIntS.l0 k (pre ++ rest) (pre ++ rest) (pre.length : Int)) true
  | [], pre, _ => by
    refine Ev.suc ?_
    simp only [laws_eqIntS.l0]
    refine Ev.ite_neg (by simp) (Ev.now _)
  | x :: rest, pre, hl => by
    simp only [List.length_cons] at hl
    refine Ev.suc ?_
    simp only [laws_eqIntS.l0, rd_mid]
    refine Ev.ite_pos (by simp only [List.length_append, List.length_cons]; omega) ?_
    refine Ev.ite_pos (by omega) ?_
    refine Ev.ite_pos (by simp only [List.length_append, List.length_cons]; omega) ?_
    refine Ev.ite_pos trivial ?_
    rw [w64 (by omega) (by omega), ← len_snoc pre x, snoc_app pre x rest]
    exact eqIntS_l0 rest (pre ++ [x]) (by simp only [List.length_append, List.length_cons, List.length_nil]; omega)
theorem eqIntS_f (l : List Int) (h : l.length ≤ 35184372088832) : Ev (fun k => laws_eqIntS.f k l l) true := by
  unfold laws_eqIntS.f
  refine Ev.ite_pos rfl ?_
  exact eqIntS_l0 l [] (by simp; omega)

/-! ### eqCls -/
theorem eqTable_f (l : List Int) (h : l.length ≤ 35184372088832) : Ev (fun k => laws_eqTable.f k l l) true := by
  unfold laws_eqTable.f
  exact Ev.bind (eqIntS_f l h) (Ev.ite_pos rfl (Ev.now _))
theorem eqClasses_f (a b : List Int) (ha : a.length ≤ 35184372088832) (hb : b.length ≤ 35184372088832) : Ev (fun k => laws_eqClasses.f k a b a b) true := by
  unfold laws_eqClasses.f
  exact Ev.bind (eqTable_f a ha) (Ev.ite_pos rfl (Ev.bind (eqTable_f b hb) (Ev.ite_pos rfl (Ev.now _))))

/-! ### markIntS -/

def mkInt : Int → List Int → List Int
  | _, [] => []
  | m, _ :: l => m :: mkInt (m + 1) l
theorem markInt_l0 : ∀ (rest pre : List Int) (m : Int), pre.length + rest.length ≤ 1099511627776 → 0 ≤ m → m + 1 * (rest.length : Int) ≤ 1152921504606846976 →
    Ev (fun k => laws_markIntS.l0 k (pre ++ rest) m (pre.length : Int)) (m + 1 * (rest.length : Int), pre ++ mkInt m rest) ∧
    Ev (fun k => laws_heldIntS.l0 k (pre ++ mkInt m rest) m (pre.length : Int)) (m + 1 * (rest.length : Int))
  | [], pre, m, _, _, _ => by
    constructor
    · refine Ev.suc ?_
      simp only [laws_markIntS.l0]
      exact Ev.ite_neg (by simp) (Ev.val (by simp [mkInt]))
    · refine Ev.suc ?_
      simp only [laws_heldIntS.l0]
      exact Ev.ite_neg (by simp [mkInt]) (Ev.val (by simp))
  | x :: rest, pre, m, hl, h0, hm => by
    simp only [List.length_cons] at hl hm
    have hp : (pre.length : Int) < ((pre ++ x :: rest).length : Int) := by simp only [List.length_append, List.length_cons]; omega
    have hw : wrap64 ((pre.length : Int) + 1) = ((pre ++ [m]).length : Int) := by rw [w64 (by omega) (by omega), len_snoc]
    have h1 : wrap64 (m + 1) = m + 1 := w64 (by omega) (by omega)
    have ih := markInt_l0 rest (pre ++ [m]) (m + 1) (by simp only [List.length_append, List.length_cons, List.length_nil]; omega) (by omega) (by omega)
    have e : m + 1 + 1 * (rest.length : Int) = m + 1 * ((x :: rest).length : Int) := by
      simp only [List.length_cons]
      omega
    rw [e] at ih
    have el : pre ++ mkInt m (x :: rest) = pre ++ m :: mkInt (m + 1) rest := rfl
    constructor
    · refine Ev.suc ?_
      simp only [laws_markIntS.l0, set_mid, rd_mid, Option.bind_some, h1, hw]
      refine Ev.ite_pos hp (Ev.ite_pos (by omega) ?_)
      rw [el, snoc_app pre _ rest, snoc_app pre _ (mkInt _ rest)]
      exact ih.1
    · rw [el]
      have hq : (pre.length : Int) < ((pre ++ m :: mkInt (m + 1) rest).length : Int) := by simp only [List.length_append, List.length_cons]; omega
      refine Ev.suc ?_
      simp only [laws_heldIntS.l0, rd_mid, h1, hw]
      refine Ev.ite_pos hq (Ev.ite_pos (by omega) (Ev.ite_pos (by trivial) (?_)))
      rw [snoc_app pre _ (mkInt _ rest)]
      exact ih.2
/-- What is marked is held. -/
theorem markInt_f (l : List Int) (m : Int) (hl : l.length ≤ 1099511627776) (h0 : 0 ≤ m) (h1 : m ≤ 1099511627776) :
    ∃ m' l', m ≤ m' ∧ m' ≤ m + 1 * (l.length : Int) ∧ l'.length = l.length ∧ Ev (fun k => laws_markIntS.f k l m) (m', l') ∧ Ev (fun k => laws_heldIntS.f k l' m) m' := by
  have h := markInt_l0 l [] m (by simpa using hl) h0 (by omega)
  have hlen : ∀ (l : List Int) (m : Int), (mkInt m l).length = l.length := by
    intro l
    induction l with
    | nil => exact fun _ => rfl
    | cons x l ih => exact fun m => by simp only [mkInt, List.length_cons, ih]
  refine ⟨m + 1 * (l.length : Int), mkInt m l, by omega, by omega, hlen l m, ?_, ?_⟩
  · unfold laws_markIntS.f
    exact h.1
  · unfold laws_heldIntS.f
    exact h.2

/-! ### markTable -/
theorem markTable_f (l : List Int) (m : Int) (hl : l.length ≤ 1099511627776) (h0 : 0 ≤ m) (h1 : m ≤ 1099511627776) :
    ∃ m' l', m ≤ m' ∧ m' ≤ m + (l.length : Int) ∧ l'.length = l.length ∧ Ev (fun k => laws_markTable.f k l m) (m', l') ∧ Ev (fun k => laws_heldTable.f k l' m) m' := by
  obtain ⟨m', l', a, b, c, d, e⟩ := markInt_f l m hl h0 h1
  refine ⟨m', l', a, by omega, c, ?_, ?_⟩
  · unfold laws_markTable.f
    exact Ev.bind d (Ev.now _)
  · unfold laws_heldTable.f
    exact Ev.bind e (Ev.ite_neg (by omega) (Ev.now _))

/-! ### markClassesM -/
theorem markClasses_f (a b : List Int) (m : Int) (ha : a.length ≤ 1048576) (hb : b.length ≤ 1048576) (h0 : 0 ≤ m) (h1 : m ≤ 1073741824) :
    ∃ m' a' b', m ≤ m' ∧ m' ≤ m + (a.length : Int) + (b.length : Int) ∧ Ev (fun k => laws_markClasses.f k a b m) (m', a', b') ∧ ∃ n, Ev (fun k => laws_heldTable.f k a' m) n ∧ 0 ≤ n ∧ Ev (fun k => laws_heldTable.f k b' n) m' := by
  obtain ⟨n, a', p1, p2, _, p4, p5⟩ := markTable_f a m (by omega) h0 (by omega)
  obtain ⟨m', b', q1, q2, _, q4, q5⟩ := markTable_f b n (by omega) (by omega) (by omega)
  refine ⟨m', a', b', by omega, by omega, ?_, n, p5, by omega, q5⟩
  unfold laws_markClasses.f
  exact Ev.bind p4 (Ev.bind q4 (Ev.now _))

/-! ### heldClasses -/
theorem heldClasses_f {a b : List Int} {m n m' : Int} (h1 : Ev (fun k => laws_heldTable.f k a m) n) (h0 : 0 ≤ n) (h2 : Ev (fun k => laws_heldTable.f k b n) m') (h3 : 0 ≤ m') : Ev (fun k => laws_heldClasses.f k a b m) m' := by
  unfold laws_heldClasses.f
  exact Ev.bind h1 (Ev.ite_neg (by omega) (Ev.bind h2 (Ev.ite_neg (by omega) (Ev.now _))))

def splitR (w h : Int) : List Int × List Int × Bool := if gOk w h then (stdT w h 1, stdT w h 2, true) else ([], [], false)
theorem SplitClasses_s (w h : Int) : Ev (fun k => spec_SplitClasses.f k w h) (splitR w h) := by
  unfold spec_SplitClasses.f splitR
  refine Ev.bindS (GridOk_s w h) ?_
  refine Ev.ite (fun hg => ?_) (fun hg => Ev.val ?_)
  · have hg' := of_decide_eq_true hg
    rw [if_pos hg']
    exact Ev.bind (l05Make_s w h 1 hg') (Ev.bind (l05Make_s w h 2 hg') (Ev.now _))
  · rw [if_neg (fun h => hg (decide_eq_true h))]
theorem SplitClasses_i (w h : Int) : Ev (fun k => impl_SplitClasses.f k w h) (splitR w h) := by
  unfold impl_SplitClasses.f splitR
  refine Ev.bind (StandardTable_i w h 1 (by omega)) (Ev.bind (StandardTable_i w h 2 (by omega)) (Ev.val ?_))
  split <;> rfl
theorem splitR_len (w h : Int) : (splitR w h).1.length ≤ 256 ∧ (splitR w h).2.1.length ≤ 256 := by
  unfold splitR
  split
  · exact ⟨stdT_len w h 1, stdT_len w h 2⟩
  · exact ⟨by simp, by simp⟩
theorem FnExactSplitClasses : FnExactSplitClasses_says := by
  intro w h _ _
  refine Ev.rounds ?_
  have hl := splitR_len w h
  obtain ⟨m, a2, b2, m1, m2, m3, n, m4, n0, m5⟩ := markClasses_f (splitR w h).1 (splitR w h).2.1 1 (by omega) (by omega) (by omega) (by omega)
  have hh := heldClasses_f m4 n0 m5 (by omega)
  unfold laws_FnExactSplitClasses.f laws_toGrid.f
  simp only [Option.bind_some]
  refine Ev.bind (SplitClasses_s w h) (Ev.bind (SplitClasses_i w h) (Ev.bind (eqClasses_f _ _ (by omega) (by omega)) (Ev.ite_pos rfl ?_)))
  refine Ev.suc ?_
  simp only [laws_FnExactSplitClasses.j0, laws_toGrid.f, Option.bind_some]
  refine Ev.ite_neg (by simp) (Ev.bind m3 (Ev.bind hh (Ev.ite_neg (by omega) (Ev.ite_pos rfl ?_))))
  refine Ev.bind (SplitClasses_i w h) (Ev.bind (eqClasses_f _ _ (by omega) (by omega)) (Ev.ite_pos rfl ?_))
  refine Ev.suc ?_
  simp only [laws_FnExactSplitClasses.j1]
  exact Ev.ite_neg (by simp) (Ev.bind hh (Ev.ite_neg (by omega) (Ev.ite_pos rfl (Ev.now _))))

end Go.Proofs.Ytlfmckdhmklgpaa.Pure
