/- The plain statement of the law FnExactNetNew: the program and the reference build the same network, and nothing is shared. No condition. -/
import Derived.Test.YtmdfcdhblflaaaaPFnExactNetNewx
import Derived.Test.YtmdfcdhblflaaaaU
import Derived.Test.YtmdfcdhblflaaaaSaysFnExactNetNew
namespace Go.Proofs.Ytmdfcdhblflaaaa.Pure
open Go.RowKit Go.Proofs.Ytmdfcdhblflaaaa.PFnExactNetNew Go.Proofs.YtmdfcdhblflaaaaW.PrintWords Go.Proofs.YtmdfcdhblflaaaaW.PrintLast Go.Proofs.YtmdfcdhblflaaaaW.PrintMore Go.Proofs.Ytmdfcdhblflaaaa.U
set_option linter.unusedVariables false
set_option linter.unusedSimpArgs false

/-! ### in -/
theorem l01In_f (a b c : Int) : spec_l01In.f a b c = some (decide (b ≤ a ∧ a ≤ c)) := by
  unfold spec_l01In.f
  by_cases h : a ≥ b
  · rw [if_pos h]
    simp [show b ≤ a from h]
  · rw [if_neg h]
    simp [show ¬ b ≤ a from h]

/-! ### grid -/
abbrev gOk (w h : Int) : Prop := 1 ≤ w ∧ w ≤ 4 ∧ 1 ≤ h ∧ h ≤ 4
def ncR (w h : Int) : Int := if gOk w h then w * h else 0
theorem mul_b {w h : Int} (hw : 1 ≤ w ∧ w ≤ 4) (hh : 1 ≤ h ∧ h ≤ 4) : 1 ≤ w * h ∧ w * h ≤ 16 := by
  obtain h1 | h1 | h1 | h1 : w = 1 ∨ w = 2 ∨ w = 3 ∨ w = 4 := by omega
  all_goals
    subst h1
    omega
theorem ncR_b (w h : Int) : 0 ≤ ncR w h ∧ ncR w h ≤ 16 := by
  unfold ncR
  split
  · rename_i hg
    have := mul_b ⟨hg.1, hg.2.1⟩ hg.2.2
    omega
  · omega
abbrev nodeOk (w h n : Int) : Prop := 0 ≤ n ∧ n ≤ ncR w h - 1

/-! ### grid_s -/
theorem GridOk_s (w h : Int) : spec_GridOk.f w h = some (decide (gOk w h)) := by
  unfold spec_GridOk.f gOk
  simp only [l01In_f, Option.bind_some, decide_eq_true_eq]
  split
  · rename_i h1
    simp [h1]
  · rename_i h1
    simp only [Option.some.injEq]
    symm
    rw [decide_eq_false_iff_not]
    exact fun h2 => h1 ⟨h2.1, h2.2.1⟩
theorem NodeCount_s (w h : Int) : spec_NodeCount.f w h = some (ncR w h) := by
  unfold spec_NodeCount.f ncR
  simp only [GridOk_s, Option.bind_some, decide_eq_true_eq]
  split
  · rename_i hg
    have := mul_b ⟨hg.1, hg.2.1⟩ hg.2.2
    rw [w64 (by omega) (by omega)]
  · rfl

/-! ### l02Has -/
theorem l02Has_s (w h n : Int) : spec_l02Has.f w h n = some (decide (nodeOk w h n)) := by
  unfold spec_l02Has.f nodeOk
  have := ncR_b w h
  simp only [NodeCount_s, l01In_f, Option.bind_some]
  rw [w64 (by omega) (by omega)]

/-! ### inside -/
theorem inside_f (a b c : Int) : impl_inside.f a b c = some (decide (b ≤ a ∧ a ≤ c)) := by
  unfold impl_inside.f
  by_cases h : b ≤ a
  · rw [if_pos h]
    simp [h]
  · rw [if_neg h]
    simp [h]

/-! ### grid_i -/
theorem GridOk_i (w h : Int) : impl_GridOk.f w h = some (decide (gOk w h)) := by
  unfold impl_GridOk.f gOk
  simp only [inside_f, Option.bind_some, decide_eq_true_eq]
  split
  · rename_i h1
    simp [h1]
  · rename_i h1
    simp only [Option.some.injEq]
    symm
    rw [decide_eq_false_iff_not]
    exact fun h2 => h1 ⟨h2.1, h2.2.1⟩
theorem NodeCount_i (w h : Int) : impl_NodeCount.f w h = some (ncR w h) := by
  unfold impl_NodeCount.f ncR
  simp only [GridOk_i, Option.bind_some, decide_eq_true_eq]
  split
  · rename_i hg
    have := mul_b ⟨hg.1, hg.2.1⟩ hg.2.2
    rw [w64 (by omega) (by omega)]
  · rfl

/-! ### isNode -/
theorem isNode_i (w h n : Int) : impl_isNode.f w h n = some (decide (nodeOk w h n)) := by
  unfold impl_isNode.f nodeOk
  have := ncR_b w h
  simp only [NodeCount_i, inside_f, Option.bind_some]
  rw [w64 (by omega) (by omega)]

/-! ### node -/
def nodeAtR (w h x y : Int) : Int := if gOk w h ∧ (0 ≤ x ∧ x ≤ w - 1) ∧ (0 ≤ y ∧ y ≤ h - 1) then y * w + x else -1
theorem nodeAt_b (w h x y : Int) : nodeAtR w h x y = -1 ∨ nodeOk w h (nodeAtR w h x y) := by
  unfold nodeAtR
  split
  · rename_i hc
    obtain ⟨hg, hx, hy⟩ := hc
    right
    have hn : ncR w h = w * h := if_pos hg
    rw [nodeOk, hn]
    obtain ⟨g1, g2, g3, g4⟩ := hg
    obtain h1 | h1 | h1 | h1 : w = 1 ∨ w = 2 ∨ w = 3 ∨ w = 4 := by omega
    all_goals
      subst h1
      omega
  · exact .inl rfl
theorem NodeAt_s (w h x y : Int) : spec_NodeAt.f w h x y = some (nodeAtR w h x y) := by
  unfold spec_NodeAt.f nodeAtR
  simp only [GridOk_s, l01In_f, Option.bind_some, decide_eq_true_eq]
  by_cases hg : gOk w h
  · have e1 : wrap64 (w - 1) = w - 1 := w64 (by have := hg.1; omega) (by have := hg.2.1; omega)
    have e2 : wrap64 (h - 1) = h - 1 := w64 (by have := hg.2.2.1; omega) (by have := hg.2.2.2; omega)
    rw [if_pos hg, e1, e2]
    by_cases hx : 0 ≤ x ∧ x ≤ w - 1
    · by_cases hy : 0 ≤ y ∧ y ≤ h - 1
      · rw [if_pos hx, if_pos hy, if_pos ⟨hg, hx, hy⟩]
        obtain ⟨g1, g2, g3, g4⟩ := hg
        have hm : 0 ≤ y * w ∧ y * w ≤ 12 := by
          obtain h1 | h1 | h1 | h1 : w = 1 ∨ w = 2 ∨ w = 3 ∨ w = 4 := by omega
          all_goals
            subst h1
            omega
        rw [w64 (x := y * w) (by omega) (by omega), w64 (by omega) (by omega)]
      · rw [if_pos hx, if_neg hy, if_neg (fun hh => hy hh.2.2)]
    · rw [if_neg hx, if_neg (fun hh => hx hh.2.1)]
  · rw [if_neg hg, if_neg (fun hh => hg hh.1)]
theorem NodeAt_i (w h x y : Int) : impl_NodeAt.f w h x y = some (nodeAtR w h x y) := by
  have e : impl_NodeAt.f w h x y = spec_NodeAt.f w h x y := by
    unfold impl_NodeAt.f spec_NodeAt.f
    simp only [GridOk_i, GridOk_s, inside_f, l01In_f]
  rw [e, NodeAt_s]
def nextR (w h n p : Int) : Int :=
  if nodeOk w h n then
    (if p = 0 then nodeAtR w h (n % w) (n / w - 1) else if p = 1 then nodeAtR w h (n % w + 1) (n / w) else if p = 2 then nodeAtR w h (n % w) (n / w + 1) else if p = 3 then nodeAtR w h (n % w - 1) (n / w) else if p = 4 then n else -1)
  else -1
theorem nextR_b (w h n p : Int) : nextR w h n p = -1 ∨ nodeOk w h (nextR w h n p) := by
  unfold nextR
  by_cases hn : nodeOk w h n
  · rw [if_pos hn]
    by_cases h0 : p = 0
    · rw [if_pos h0]
      exact nodeAt_b _ _ _ _
    rw [if_neg h0]
    by_cases h1 : p = 1
    · rw [if_pos h1]
      exact nodeAt_b _ _ _ _
    rw [if_neg h1]
    by_cases h2 : p = 2
    · rw [if_pos h2]
      exact nodeAt_b _ _ _ _
    rw [if_neg h2]
    by_cases h3 : p = 3
    · rw [if_pos h3]
      exact nodeAt_b _ _ _ _
    rw [if_neg h3]
    by_cases h4 : p = 4
    · rw [if_pos h4]
      exact .inr hn
    · rw [if_neg h4]
      exact .inl rfl
  · rw [if_neg hn]
    exact .inl rfl
theorem nodeOk_g {w h n : Int} (hn : nodeOk w h n) : gOk w h ∧ 0 ≤ n ∧ n ≤ 15 := by
  obtain ⟨h0, h1⟩ := hn
  have hb := ncR_b w h
  by_cases hg : gOk w h
  · exact ⟨hg, h0, by omega⟩
  · have e : ncR w h = 0 := if_neg hg
    omega
theorem div_b {w x : Int} (hw : 1 ≤ w ∧ w ≤ 4) (hx : 0 ≤ x ∧ x ≤ 15) : Int.tmod x w = x % w ∧ Int.tdiv x w = x / w ∧ 0 ≤ x % w ∧ x % w < w ∧ 0 ≤ x / w ∧ x / w ≤ 15 := by
  rw [Int.tmod_eq_emod_of_nonneg hx.1, Int.tdiv_eq_ediv_of_nonneg hx.1]
  refine ⟨rfl, rfl, Int.emod_nonneg _ (by omega), Int.emod_lt_of_pos _ (by omega), Int.ediv_nonneg hx.1 (by omega), ?_⟩
  obtain h1 | h1 | h1 | h1 : w = 1 ∨ w = 2 ∨ w = 3 ∨ w = 4 := by omega
  all_goals
    subst h1
    omega
theorem NextNode_s (w h n p : Int) : spec_NextNode.f w h n p = some (nextR w h n p) := by
  unfold spec_NextNode.f nextR
  simp only [l02Has_s, Option.bind_some, decide_eq_true_eq]
  by_cases hn : nodeOk w h n
  · obtain ⟨hg, h0, h15⟩ := nodeOk_g hn
    obtain ⟨a1, a2, a3, a4, a5, a6⟩ := div_b ⟨hg.1, hg.2.1⟩ ⟨h0, h15⟩
    rw [if_pos hn, if_pos hn, if_neg (by have := hg.1; omega), a1, a2]
    have hw4 := hg.2.1
    generalize n % w = x at *
    generalize n / w = y at *
    have e1 : wrap64 y = y := w64 (by omega) (by omega)
    have e2 : wrap64 (y - 1) = y - 1 := w64 (by omega) (by omega)
    have e3 : wrap64 (y + 1) = y + 1 := w64 (by omega) (by omega)
    have e4 : wrap64 (x - 1) = x - 1 := w64 (by omega) (by omega)
    have e5 : wrap64 (x + 1) = x + 1 := w64 (by omega) (by omega)
    simp only [e1, e2, e3, e4, e5, NodeAt_s, Option.bind_some]
    repeat' split
    all_goals rfl
  · rw [if_neg hn, if_neg hn]
theorem NextNode_i (w h n p : Int) : impl_NextNode.f w h n p = some (nextR w h n p) := by
  have e : impl_NextNode.f w h n p = spec_NextNode.f w h n p := by
    unfold impl_NextNode.f spec_NextNode.f
    simp only [isNode_i, l02Has_s, NodeAt_i, NodeAt_s]
  rw [e, NextNode_s]
def leadsR (w h c : Int) : Bool := decide (0 ≤ c ∧ c ≤ 4 * ncR w h - 1) && decide (nextR w h (c / 4) (c % 4) ≥ 0)
theorem leads_s (w h c : Int) : spec_l03Leads.f w h c = some (leadsR w h c) := by
  unfold spec_l03Leads.f leadsR
  have hb := ncR_b w h
  simp only [NodeCount_s, l01In_f, Option.bind_some, decide_eq_true_eq]
  rw [w64 (x := 4 * ncR w h) (by omega) (by omega), w64 (x := 4 * ncR w h - 1) (by omega) (by omega)]
  by_cases hc : 0 ≤ c ∧ c ≤ 4 * ncR w h - 1
  · rw [if_pos hc, Int.tdiv_eq_ediv_of_nonneg hc.1, Int.tmod_eq_emod_of_nonneg hc.1, w64 (x := c / 4) (by omega) (by omega), NextNode_s]
    simp [hc]
  · rw [if_neg hc]
    simp [hc]
theorem leads_i (w h c : Int) : impl_leads.f w h c = some (leadsR w h c) := by
  have e : impl_leads.f w h c = spec_l03Leads.f w h c := by
    unfold impl_leads.f spec_l03Leads.f
    simp only [NodeCount_i, NodeCount_s, inside_f, l01In_f, NextNode_i, NextNode_s]
  rw [e, leads_s]

/-! ### mesh -/
/-- The list from an element on, behind what stands ahead of it. -/
def brR (w h : Int) : Option Int → List Int → Bool
  | _, [] => true
  | p, x :: r => leadsR w h x && (match p with | none => true | some y => decide (y < x)) && brR w h (some x) r
def meshR (w h : Int) (br : List Int) : Bool := decide (gOk w h) && brR w h none br
theorem last_snoc (pre : List Int) (y : Int) : rd (pre ++ [y]) (pre.length : Int) = y := rd_mid pre y []
theorem rd_app_last (pre : List Int) (y : Int) (rest : List Int) : rd (pre ++ [y] ++ rest) (((pre ++ [y]).length : Int) - 1) = y := by
  have e : ((pre ++ [y]).length : Int) - 1 = (pre.length : Int) := by
    rw [len_snoc]
    omega
  rw [e, List.append_assoc]
  exact rd_mid pre y rest

/-! ### hasCh -/
/-- A channel of a valid mesh. -/
def hasR (w h : Int) (br : List Int) (c : Int) : Bool := leadsR w h c && !decide (c ∈ br)

/-! ### walkR -/
theorem idx_b {n x y : Int} (hn : 0 ≤ n ∧ n ≤ 16) (hx : 0 ≤ x ∧ x ≤ n - 1) (hy : 0 ≤ y ∧ y ≤ n - 1) : 0 ≤ x * n ∧ x * n ≤ 256 ∧ x * n + y < n * n ∧ n * n ≤ 256 := by
  have h1 : 0 ≤ x * n := Int.mul_nonneg hx.1 hn.1
  have h2 : (x + 1) * n ≤ n * n := Int.mul_le_mul_of_nonneg_right (by omega) hn.1
  have h3 : n * n ≤ 16 * n := Int.mul_le_mul_of_nonneg_right hn.2 hn.1
  rw [Int.add_mul, Int.one_mul] at h2
  omega
theorem idx_w {n x y : Int} (hn : 0 ≤ n ∧ n ≤ 16) (hx : 0 ≤ x ∧ x ≤ n - 1) (hy : 0 ≤ y ∧ y ≤ n - 1) : wrap64 (wrap64 (x * n) + y) = x * n + y ∧ wrap64 (n * n) = n * n := by
  have hb := idx_b hn hx hy
  generalize x * n = m at *
  generalize n * n = q at *
  rw [w64 (x := m) (by omega) (by omega), w64 (x := m + y) (by omega) (by omega), w64 (x := q) (by omega) (by omega)]
  exact ⟨rfl, rfl⟩
/-- The walk from a node on, d channels at most still allowed. -/
def walkGo (w h : Int) (br ps : List Int) (dst : Int) : Nat → List Int → Int → List Int
  | 0, _, _ => []
  | d + 1, acc, x => if rd ps (x * ncR w h + dst) = 4 then (if x = dst then acc else []) else
      if (0 ≤ rd ps (x * ncR w h + dst) ∧ rd ps (x * ncR w h + dst) ≤ 3) ∧ hasR w h br (4 * x + rd ps (x * ncR w h + dst)) = true then
        walkGo w h br ps dst d (acc ++ [4 * x + rd ps (x * ncR w h + dst)]) (nextR w h x (rd ps (x * ncR w h + dst)))
      else []
def walkR (w h : Int) (br ps : List Int) (x dst : Int) : List Int := walkGo w h br ps dst ((ncR w h).toNat + 1) [] x
theorem walkGo_zero (w h : Int) (br ps : List Int) (dst : Int) (acc : List Int) (x : Int) (hx : ¬ (rd ps (x * ncR w h + dst) = 4)) : walkGo w h br ps dst 1 acc x = [] := by
  unfold walkGo
  rw [if_neg hx]
  split <;> rfl
theorem ch_div {x p : Int} (hp : 0 ≤ p ∧ p ≤ 3) : (4 * x + p) / 4 = x ∧ (4 * x + p) % 4 = p := by omega
theorem has_next {w h : Int} {br : List Int} {x p : Int} (hp : 0 ≤ p ∧ p ≤ 3) (hh : hasR w h br (4 * x + p) = true) : nodeOk w h (nextR w h x p) := by
  unfold hasR leadsR at hh
  obtain ⟨e1, e2⟩ := ch_div (x := x) hp
  rw [e1, e2] at hh
  simp only [Bool.and_eq_true, decide_eq_true_eq] at hh
  rcases nextR_b w h x p with h1 | h1
  · rw [h1] at hh
    omega
  · exact h1

/-! ### tableR -/
def diagOk (w h : Int) (ps : List Int) : Prop := ∀ x : Nat, (x : Int) < ncR w h → rd ps ((x : Int) * ncR w h + (x : Int)) = 4
def walksOk (w h : Int) (br ps : List Int) : Prop := ∀ x y : Nat, (x : Int) < ncR w h → (y : Int) < ncR w h → x ≠ y → walkR w h br ps (x : Int) (y : Int) ≠ []
/-- A table is valid. -/
def tableOk (w h : Int) (br ps : List Int) : Prop := meshR w h br = true ∧ (ps.length : Int) = ncR w h * ncR w h ∧ diagOk w h ps ∧ walksOk w h br ps

/-! ### contains -/
theorem Index_l0 (x : Int) : ∀ (rest pre : List Int), pre.length + rest.length < 1152921504606846976 → ∃ r, Ev (fun k => slices_Index_int_int.l0 k (pre ++ rest) x ((pre ++ rest).length : Int) (pre.length : Int)) r ∧ (r ≥ 0 ↔ x ∈ rest)
  | [], pre, _ => by
    refine ⟨-1, Ev.suc ?_, by simp⟩
    simp only [slices_Index_int_int.l0]
    exact Ev.ite_neg (by simp) (Ev.now _)
  | y :: rest, pre, hl => by
    simp only [List.length_cons] at hl
    have h1 : (pre.length : Int) < ((pre ++ y :: rest).length : Int) := by simp only [List.length_append, List.length_cons]; omega
    have hw : wrap64 ((pre.length : Int) + 1) = ((pre ++ [y]).length : Int) := by rw [w64 (by omega) (by omega), len_snoc]
    obtain ⟨r, hr, hr2⟩ := Index_l0 x rest (pre ++ [y]) (by simp only [List.length_append, List.length_cons, List.length_nil]; omega)
    rw [← snoc_app pre y rest] at hr
    by_cases h : x = y
    · refine ⟨(pre.length : Int), Ev.suc ?_, by simp [h]⟩
      simp only [slices_Index_int_int.l0, rd_mid]
      exact Ev.ite_pos h1 (Ev.ite_pos (by omega) (Ev.ite_pos h1 (Ev.ite_pos h (Ev.now _))))
    · refine ⟨r, Ev.suc ?_, by simp [h, hr2]⟩
      simp only [slices_Index_int_int.l0, rd_mid, hw]
      exact Ev.ite_pos h1 (Ev.ite_pos (by omega) (Ev.ite_pos h1 (Ev.ite_neg h hr)))
theorem Contains_i (l : List Int) (x : Int) (h : l.length < 1152921504606846976) : Ev (fun k => slices_Contains_int_int.f k l x) (decide (x ∈ l)) := by
  obtain ⟨r, hr, hr2⟩ := Index_l0 x l [] (by simpa using h)
  unfold slices_Contains_int_int.f slices_Index_int_int.f
  refine Ev.bind hr (Ev.val ?_)
  rw [decide_eq_decide]
  exact hr2

/-! ### MeshOk_i -/
theorem MeshOk_i_l0 (w h : Int) : ∀ (rest pre : List Int) (y : Int), pre.length + rest.length < 1152921504606846976 → Ev (fun k => impl_MeshOk.l0 k ((pre ++ [y]) ++ rest) (((pre ++ [y]) ++ rest).length : Int) (((pre ++ [y])).length : Int) w h ((pre ++ [y]) ++ rest)) ((brR w h (some y) rest) && decide (gOk w h))
  | [], pre, y, hl => by
    refine Ev.suc ?_
    simp only [impl_MeshOk.l0]
    refine Ev.ite_neg (by simp) ?_
    exact Ev.bindS (GridOk_i w h) (Ev.val (by simp [brR]))
  | x :: rest, pre, y, hl => by
    simp only [List.length_cons] at hl
    have hp : (pre ++ [y]).length = pre.length + 1 := by simp
    have h1 : ((pre ++ [y]).length : Int) < ((pre ++ [y] ++ x :: rest).length : Int) := by simp only [List.length_append, List.length_cons, List.length_nil]; omega
    have hw : wrap64 (((pre ++ [y]).length : Int) + 1) = ((pre ++ [y] ++ [x]).length : Int) := by rw [w64 (by omega) (by omega)]; exact (len_snoc _ _).symm
    have hv : wrap64 (((pre ++ [y]).length : Int) - 1) = ((pre ++ [y]).length : Int) - 1 := w64 (by omega) (by omega)
    have e1 : rd (pre ++ [y] ++ x :: rest) (((pre ++ [y]).length : Int) - 1) = y := rd_app_last pre y (x :: rest)
    have e2 : rd (pre ++ [y] ++ x :: rest) ((pre ++ [y]).length : Int) = x := rd_mid _ _ _
    have ih := MeshOk_i_l0 w h rest (pre ++ [y]) x (by omega)
    rw [← snoc_app (pre ++ [y]) x rest] at ih
    refine Ev.suc ?_
    simp only [impl_MeshOk.l0, e1, e2, hw, hv, leads_i, Option.bind_some]
    refine Ev.ite_pos h1 (Ev.ite_pos (by omega) (Ev.ite_pos h1 (Ev.ite (fun hlx => ?_) (fun hlx => Ev.val ?_))))
    · refine Ev.ite_pos (by omega) (Ev.ite_pos (by omega) (Ev.ite_pos (by omega) (Ev.ite (fun hc => Ev.val ?_) (fun hc => Ev.eq ih ?_))))
      · have hc' : ¬ y < x := by omega
        simp [brR, hc']
      · have hc' : y < x := by omega
        simp [brR, hlx, hc']
    · simp [brR, hlx]
theorem MeshOk_i (w h : Int) (br : List Int) (hl : br.length < 1152921504606846976) : Ev (fun k => impl_MeshOk.f k w h br) (meshR w h br) := by
  unfold impl_MeshOk.f meshR
  skip
  cases br with
  | nil =>
    refine Ev.suc ?_
    simp only [impl_MeshOk.l0]
    refine Ev.ite_neg (by simp) ?_
    exact Ev.bindS (GridOk_i w h) (Ev.val (by simp [brR]))
  | cons x rest =>
    simp only [List.length_cons] at hl
    have z := MeshOk_i_l0 w h rest [] x (by simp; omega)
    have hw : wrap64 ((0 : Int) + 1) = ((([] : List Int) ++ [x]).length : Int) := by rw [w64 (by omega) (by omega)]; rfl
    have e2 : rd (x :: rest) 0 = x := rfl
    have h1 : (0 : Int) < ((x :: rest).length : Int) := by simp only [List.length_cons]; omega
    refine Ev.suc ?_
    simp only [impl_MeshOk.l0, e2, hw, leads_i, Option.bind_some]
    refine Ev.ite_pos h1 (Ev.ite_pos (by omega) (Ev.ite_pos h1 (Ev.ite (fun hlx => Ev.ite_neg (by omega) (Ev.eq z ?_)) (fun hlx => Ev.val ?_))))
    · rw [Bool.and_comm]; simp [brR, hlx]
    · simp [brR, hlx]

/-! ### hasCh_i -/
theorem HasChannel_i (w h : Int) (br : List Int) (c : Int) (hl : br.length < 1152921504606846976) : Ev (fun k => impl_HasChannel.f k w h br c) (meshR w h br && hasR w h br c) := by
  unfold impl_HasChannel.f hasR
  refine Ev.bind (MeshOk_i w h br hl) (Ev.ite (fun h0 => ?_) (fun h0 => Ev.val (by simp [h0])))
  refine Ev.bindS (leads_i w h c) (Ev.ite (fun h1 => ?_) (fun h1 => Ev.val (by simp [h1])))
  exact Ev.bind (Contains_i br c hl) (Ev.val (by simp [h0, h1]))

/-! ### walk_i -/
theorem PortAt_i (w h : Int) (br ps : List Int) (x dst : Int) (hbr : br.length < 1152921504606846976) (hm : meshR w h br = true) (hps : (ps.length : Int) = ncR w h * ncR w h) (hx : nodeOk w h x) (hd : nodeOk w h dst) :
    Ev (fun k => impl_PortAt.f k w h br ps x dst) (if 0 ≤ rd ps (x * ncR w h + dst) ∧ rd ps (x * ncR w h + dst) ≤ 4 then rd ps (x * ncR w h + dst) else -1) := by
  have hn := ncR_b w h
  have hb := idx_b hn hx hd
  obtain ⟨e1, e2⟩ := idx_w hn hx hd
  have hin1 : 0 ≤ x * ncR w h + dst := by
    have := hd.1
    omega
  have hin2 : x * ncR w h + dst < (ps.length : Int) := by
    rw [hps]
    exact hb.2.2.1
  have e3 : wrap64 (ncR w h - 1) = ncR w h - 1 := w64 (by omega) (by omega)
  unfold impl_PortAt.f
  refine Ev.bindS (NodeCount_i w h) (Ev.bind (MeshOk_i w h br hbr) (Ev.ite_pos hm ?_))
  simp only [inside_f, e1, e2, e3, Option.bind_some, decide_eq_true_eq]
  refine Ev.ite_pos hx (Ev.ite_pos hd (Ev.ite_pos hps (Ev.ite_pos hin1 (Ev.ite_pos hin2 (Ev.ite (fun hp => Ev.val ?_) (fun hp => Ev.val ?_))))))
  · rw [if_pos hp]
  · rw [if_neg hp]
theorem endOf_i (w h : Int) (br : List Int) (x p : Int) (hx : 0 ≤ x ∧ x ≤ 15) (hp : 0 ≤ p ∧ p ≤ 3) : impl_endOf.f w h br (4 * x + p) = some (nextR w h x p) := by
  obtain ⟨e1, e2⟩ := ch_div (x := x) hp
  unfold impl_endOf.f
  rw [Int.tdiv_eq_ediv_of_nonneg (by omega), Int.tmod_eq_emod_of_nonneg (by omega), e1, e2, w64 (x := x) (by omega) (by omega), NextNode_i]
  rfl
theorem WalkTable_l0 (w h : Int) (br ps : List Int) (dst : Int) (hbr : br.length < 1152921504606846976) (hm : meshR w h br = true) (hps : (ps.length : Int) = ncR w h * ncR w h) (hd : nodeOk w h dst) : ∀ (d : Nat) (acc : List Int) (x : Int), nodeOk w h x → (acc.length : Int) + d = ncR w h →
    Ev (fun k => impl_WalkTable.l0 k dst acc x w h br ps) (walkGo w h br ps dst (d + 1) acc x)
  | d, acc, x, hx, hl => by
    have hn := ncR_b w h
    have hx15 : 0 ≤ x ∧ x ≤ 15 := ⟨hx.1, by have := hx.2; omega⟩
    refine Ev.suc ?_
    simp only [impl_WalkTable.l0]
    refine Ev.bind (PortAt_i w h br ps x dst hbr hm hps hx hd) ?_
    have hz := walkGo_zero w h br ps dst acc x
    unfold walkGo
    have hacc : acc.length < 17592186044416 := by omega
    generalize rd ps (x * ncR w h + dst) = p at *
    by_cases h4 : p = 4
    · subst h4
      simp only [show (0 : Int) ≤ 4 ∧ (4 : Int) ≤ 4 from by omega, and_self, if_true]
      refine Ev.ite_neg (by omega) (Ev.ite (fun h5 => Ev.val ?_) (fun h5 => Ev.val ?_))
      · rw [if_pos h5]
      · rw [if_neg h5]
    · rw [if_neg h4]
      by_cases hp : 0 ≤ p ∧ p ≤ 3
      · have e3 : wrap64 (wrap64 (4 * x) + p) = 4 * x + p := by rw [w64 (x := 4 * x) (by omega) (by omega), w64 (by omega) (by omega)]
        rw [if_pos (show 0 ≤ p ∧ p ≤ 4 by omega)]
        simp only [e3]
        refine Ev.ite_neg (by omega) (Ev.ite_neg h4 (Ev.bind (HasChannel_i w h br (4 * x + p) hbr) ?_))
        rw [hm, Bool.true_and]
        refine Ev.ite (fun hh => Ev.bindS (NodeCount_i w h) ?_) (fun hh => Ev.val ?_)
        · rw [if_pos ⟨hp, hh⟩]
          cases d with
          | zero => exact Ev.ite_pos (by omega) (Ev.val rfl)
          | succ d =>
            refine Ev.ite_neg (by omega) (Ev.ite_pos hacc (Ev.bindS (endOf_i w h br x p hx15 hp) ?_))
            exact WalkTable_l0 w h br ps dst hbr hm hps hd d _ _ (has_next hp hh) (by simp only [List.length_append, List.length_cons, List.length_nil]; omega)
        · rw [if_neg (fun z => hh z.2)]
      · rw [if_neg (show ¬ (0 ≤ p ∧ p ≤ 4) by omega), if_neg (show ¬ ((0 ≤ p ∧ p ≤ 3) ∧ hasR w h br (4 * x + p) = true) from fun z => hp z.1)]
        exact Ev.ite_pos (by omega) (Ev.now _)
theorem WalkTable_i (w h : Int) (br ps : List Int) (x dst : Int) (hbr : br.length < 1152921504606846976) (hm : meshR w h br = true) (hps : (ps.length : Int) = ncR w h * ncR w h) (hx : nodeOk w h x) (hd : nodeOk w h dst) (hne : ¬ x = dst) :
    Ev (fun k => impl_WalkTable.f k w h br ps x dst) (walkR w h br ps x dst) := by
  unfold impl_WalkTable.f walkR
  have hn := ncR_b w h
  refine Ev.ite_neg hne (Ev.bind (MeshOk_i w h br hbr) (Ev.ite_pos hm ?_))
  simp only [isNode_i, Option.bind_some, decide_eq_true hx, decide_eq_true hd]
  refine Ev.ite_pos trivial ?_
  refine Ev.suc ?_
  simp only [impl_WalkTable.j0]
  refine Ev.ite_neg (by simp) ?_
  exact WalkTable_l0 w h br ps dst hbr hm hps hd _ [] x hx (by simp only [List.length_nil]; omega)

/-! ### TableOk_i -/
theorem TableOk_v (w h : Int) (br ps : List Int) (x y : Int) (hbr : br.length < 1152921504606846976) (hm : meshR w h br = true) (hps : (ps.length : Int) = ncR w h * ncR w h) (hx : nodeOk w h x) (hy : nodeOk w h y) (hne : ¬ x = y) :
    Ev (fun k => impl_TableOk.v k w h br ps x y) (decide (walkR w h br ps x y ≠ [])) := by
  unfold impl_TableOk.v
  refine Ev.bind (WalkTable_i w h br ps x y hbr hm hps hx hy hne) (Ev.val ?_)
  rw [decide_eq_decide]
  cases walkR w h br ps x y with
  | nil => simp
  | cons a l => simp
/-- One row of pairs, then what follows. -/
theorem TableOk_l2 (w h : Int) (br ps : List Int) (hbr : br.length < 1152921504606846976) (hm : meshR w h br = true) (hps : (ps.length : Int) = ncR w h * ncR w h) (n : Nat) (hn : (n : Int) = ncR w h) (x : Nat) (hx : x < n) (P : Prop)
    (hR : ∃ b, Ev (fun k => impl_TableOk.l1 k w h br ps (n : Int) ((x + 1 : Nat) : Int)) b ∧ (b = true ↔ P)) : ∀ (d y : Nat), y + d = n →
    ∃ b, Ev (fun k => impl_TableOk.l2 k w h br ps (n : Int) (x : Int) (y : Int)) b ∧ (b = true ↔ (∀ y' : Nat, y ≤ y' → y' < n → x ≠ y' → walkR w h br ps (x : Int) (y' : Int) ≠ []) ∧ P)
  | 0, y, hd => by
    obtain ⟨b, hb, hb2⟩ := hR
    have hnb := ncR_b w h
    refine ⟨b, Ev.suc ?_, ?_⟩
    · simp only [impl_TableOk.l2]
      refine Ev.ite_neg (by omega) ?_
      have e : wrap64 ((x : Int) + 1) = ((x + 1 : Nat) : Int) := by rw [w64 (by omega) (by omega)]; omega
      rw [e]
      exact hb
    · rw [hb2]
      exact ⟨fun hp => ⟨fun y' h1 h2 => absurd h2 (by omega), hp⟩, fun hp => hp.2⟩
  | d + 1, y, hd => by
    obtain ⟨b, hb, hb2⟩ := TableOk_l2 w h br ps hbr hm hps n hn x hx P hR d (y + 1) (by omega)
    have hnb := ncR_b w h
    have e : wrap64 ((y : Int) + 1) = ((y + 1 : Nat) : Int) := by rw [w64 (by omega) (by omega)]; omega
    by_cases hxy : x = y
    · refine ⟨b, Ev.suc ?_, ?_⟩
      · simp only [impl_TableOk.l2, e]
        exact Ev.ite_pos (by omega) (Ev.ite_pos (by omega) hb)
      · rw [hb2]
        refine ⟨fun hp => ⟨fun y' h1 h2 h3 => hp.1 y' (by omega) h2 h3, hp.2⟩, fun hp => ⟨fun y' h1 h2 h3 => hp.1 y' (by omega) h2 h3, hp.2⟩⟩
    · have hv := TableOk_v w h br ps (x : Int) (y : Int) hbr hm hps ⟨by omega, by omega⟩ ⟨by omega, by omega⟩ (by omega)
      by_cases hw : walkR w h br ps (x : Int) (y : Int) = []
      · refine ⟨false, Ev.suc ?_, ?_⟩
        · simp only [impl_TableOk.l2, e]
          refine Ev.ite_pos (by omega) (Ev.ite_neg (by omega) (Ev.bind hv (Ev.ite_neg (by simp [hw]) (Ev.now _))))
        · refine ⟨fun z => absurd z Bool.false_ne_true, fun hp => absurd hw (hp.1 y (Nat.le_refl _) (by omega) hxy)⟩
      · refine ⟨b, Ev.suc ?_, ?_⟩
        · simp only [impl_TableOk.l2, e]
          exact Ev.ite_pos (by omega) (Ev.ite_neg (by omega) (Ev.bind hv (Ev.ite_pos (by simp [hw]) hb)))
        · rw [hb2]
          refine ⟨fun hp => ⟨fun y' h1 h2 h3 => ?_, hp.2⟩, fun hp => ⟨fun y' h1 h2 h3 => hp.1 y' (by omega) h2 h3, hp.2⟩⟩
          by_cases hy : y' = y
          · rw [hy]
            exact hw
          · exact hp.1 y' (by omega) h2 h3
theorem TableOk_l1 (w h : Int) (br ps : List Int) (hbr : br.length < 1152921504606846976) (hm : meshR w h br = true) (hps : (ps.length : Int) = ncR w h * ncR w h) (n : Nat) (hn : (n : Int) = ncR w h) : ∀ (d x : Nat), x + d = n →
    ∃ b, Ev (fun k => impl_TableOk.l1 k w h br ps (n : Int) (x : Int)) b ∧ (b = true ↔ ∀ x' y' : Nat, x ≤ x' → x' < n → y' < n → x' ≠ y' → walkR w h br ps (x' : Int) (y' : Int) ≠ [])
  | 0, x, hd => by
    refine ⟨true, Ev.suc ?_, ?_⟩
    · simp only [impl_TableOk.l1]
      exact Ev.ite_neg (by omega) (Ev.now _)
    · exact ⟨fun _ x' y' h1 h2 => absurd h2 (by omega), fun _ => rfl⟩
  | d + 1, x, hd => by
    obtain ⟨b, hb, hb2⟩ := TableOk_l2 w h br ps hbr hm hps n hn x (by omega) _ (TableOk_l1 w h br ps hbr hm hps n hn d (x + 1) (by omega)) n 0 (by omega)
    refine ⟨b, Ev.suc ?_, ?_⟩
    · simp only [impl_TableOk.l1]
      exact Ev.ite_pos (by omega) hb
    · rw [hb2]
      refine ⟨fun hp x' y' h1 h2 h3 h4 => ?_, fun hp => ⟨fun y' h1 h2 h3 => hp x y' (Nat.le_refl _) (by omega) h2 h3, fun x' y' h1 h2 h3 h4 => hp x' y' (by omega) h2 h3 h4⟩⟩
      by_cases hx : x' = x
      · subst hx
        exact hp.1 y' (Nat.zero_le _) h3 h4
      · exact hp.2 x' y' (by omega) h2 h3 h4
theorem TableOk_l0 (w h : Int) (br ps : List Int) (hbr : br.length < 1152921504606846976) (hm : meshR w h br = true) (hps : (ps.length : Int) = ncR w h * ncR w h) (n : Nat) (hn : (n : Int) = ncR w h) : ∀ (d x : Nat), x + d = n →
    ∃ b, Ev (fun k => impl_TableOk.l0 k w h br ps (n : Int) (x : Int)) b ∧ (b = true ↔ (∀ x' : Nat, x ≤ x' → x' < n → rd ps ((x' : Int) * ncR w h + (x' : Int)) = 4) ∧ walksOk w h br ps)
  | 0, x, hd => by
    obtain ⟨b, hb, hb2⟩ := TableOk_l1 w h br ps hbr hm hps n hn n 0 (by omega)
    refine ⟨b, Ev.suc ?_, ?_⟩
    · simp only [impl_TableOk.l0]
      refine Ev.ite_neg (by omega) ?_
      unfold impl_TableOk.ps
      refine Ev.bindS (NodeCount_i w h) ?_
      rw [← hn]
      exact hb
    · rw [hb2]
      unfold walksOk
      rw [← hn]
      exact ⟨fun hp => ⟨fun x' h1 h2 => absurd h2 (by omega), fun x' y' h1 h2 h3 => hp x' y' (Nat.zero_le _) (by omega) (by omega) h3⟩, fun hp x' y' _ h2 h3 h4 => hp.2 x' y' (by omega) (by omega) h4⟩
  | d + 1, x, hd => by
    obtain ⟨b, hb, hb2⟩ := TableOk_l0 w h br ps hbr hm hps n hn d (x + 1) (by omega)
    have hnb := ncR_b w h
    have hxn : 0 ≤ (x : Int) ∧ (x : Int) ≤ ncR w h - 1 := by omega
    have e : wrap64 ((x : Int) + 1) = ((x + 1 : Nat) : Int) := by rw [w64 (by omega) (by omega)]; omega
    have hi := idx_b hnb hxn hxn
    have hi0 : 0 ≤ (x : Int) * ncR w h + (x : Int) := by omega
    have hi1 : (x : Int) * ncR w h + (x : Int) < (ps.length : Int) := by
      rw [hps]
      exact hi.2.2.1
    have ew := (idx_w hnb hxn hxn).1
    have hlt : (x : Int) < (n : Int) := by omega
    by_cases h4 : rd ps ((x : Int) * ncR w h + (x : Int)) = 4
    · refine ⟨b, Ev.suc ?_, ?_⟩
      · rw [hn] at hb hlt ⊢
        simp only [impl_TableOk.l0, ew, e]
        exact Ev.ite_pos hlt (Ev.ite_pos hi0 (Ev.ite_pos hi1 (Ev.ite_pos h4 hb)))
      · rw [hb2]
        clear hi hi0 hi1 ew
        refine ⟨fun hp => ⟨fun x' h1 h2 => ?_, hp.2⟩, fun hp => ⟨fun x' h1 h2 => hp.1 x' (by omega) h2, hp.2⟩⟩
        by_cases hx : x' = x
        · rw [hx]
          exact h4
        · exact hp.1 x' (by omega) h2
    · refine ⟨false, Ev.suc ?_, ?_⟩
      · rw [hn] at hlt ⊢
        simp only [impl_TableOk.l0, ew, e]
        exact Ev.ite_pos hlt (Ev.ite_pos hi0 (Ev.ite_pos hi1 (Ev.ite_neg h4 (Ev.now _))))
      · exact ⟨fun z => absurd z Bool.false_ne_true, fun hp => absurd (hp.1 x (Nat.le_refl _) (by omega)) h4⟩
theorem TableOk_i (w h : Int) (br ps : List Int) (hbr : br.length < 1152921504606846976) : ∃ b, Ev (fun k => impl_TableOk.f k w h br ps) b ∧ (b = true ↔ tableOk w h br ps) := by
  have hnb := ncR_b w h
  unfold impl_TableOk.f tableOk
  by_cases hm : meshR w h br = true
  · have hsq : wrap64 (ncR w h * ncR w h) = ncR w h * ncR w h := by
      have h3 : ncR w h * ncR w h ≤ 16 * ncR w h := Int.mul_le_mul_of_nonneg_right hnb.2 hnb.1
      have h4 : 0 ≤ ncR w h * ncR w h := Int.mul_nonneg hnb.1 hnb.1
      generalize ncR w h * ncR w h = q at *
      exact w64 (by omega) (by omega)
    by_cases hps : (ps.length : Int) = ncR w h * ncR w h
    · obtain ⟨n, hn⟩ : ∃ n : Nat, (n : Int) = ncR w h := ⟨(ncR w h).toNat, by omega⟩
      obtain ⟨b, hb, hb2⟩ := TableOk_l0 w h br ps hbr hm hps n hn n 0 (by omega)
      refine ⟨b, ?_, ?_⟩
      · refine Ev.bindS (NodeCount_i w h) (Ev.bind (MeshOk_i w h br hbr) (Ev.ite_pos hm (Ev.ite_pos (by rw [hsq]; exact hps) ?_)))
        rw [← hn]
        exact hb
      · rw [hb2]
        unfold diagOk
        exact ⟨fun hp => ⟨hm, hps, fun x hx => hp.1 x (Nat.zero_le _) (by omega), hp.2⟩, fun hp => ⟨fun x _ hx => hp.2.2.1 x (by omega), hp.2.2.2⟩⟩
    · refine ⟨false, ?_, ⟨fun z => absurd z Bool.false_ne_true, fun hp => absurd hp.2.1 hps⟩⟩
      exact Ev.bindS (NodeCount_i w h) (Ev.bind (MeshOk_i w h br hbr) (Ev.ite_pos hm (Ev.ite_neg (by rw [hsq]; exact hps) (Ev.now _))))
  · refine ⟨false, ?_, ⟨fun z => absurd z Bool.false_ne_true, fun hp => absurd hp.1 hm⟩⟩
    exact Ev.bindS (NodeCount_i w h) (Ev.bind (MeshOk_i w h br hbr) (Ev.ite_neg hm (Ev.now _)))

/-! ### rdFlit -/
theorem rdI_Flit (pre : List S81) (x : S81) (rest : List S81) : rd_T81 (pre ++ x :: rest) (pre.length : Int) = x := getD_mid pre x rest _

/-! ### clsL -/
def clsL (c : Int) : List S81 → List S81
  | [] => []
  | x :: l => if x.f2 = c then x :: clsL c l else clsL c l
theorem clsL_len (c : Int) : ∀ l : List S81, (clsL c l).length ≤ l.length
  | [] => Nat.le_refl _
  | x :: l => by
    have := clsL_len c l
    unfold clsL
    split
    · simp only [List.length_cons]
      omega
    · simp only [List.length_cons]
      omega

/-! ### rdSS -/
theorem rdI_FlitSS (pre : List (List S81)) (x : List S81) (rest : List (List S81)) : rd_L3 (pre ++ x :: rest) (pre.length : Int) = x := getD_mid pre x rest _

/-! ### netB -/
abbrev Fl := S81
def flB (w h : Int) (l : List Fl) : Bool := l.all fun x => decide (nodeOk w h x.f1) && decide (0 ≤ x.f2 ∧ x.f2 ≤ 1)
def clB (c : Int) (l : List Fl) : Bool := l.all fun x => decide (x.f2 = c)
def srcB (w h : Int) (l : List (List Fl)) : Bool := l.all fun b => decide (b.length ≤ 60) && flB w h b
def rgB (lo hi : Int) (l : List Int) : Bool := l.all fun x => decide (lo ≤ x ∧ x ≤ hi)
def bufI (w h : Int) : Nat → List (List Fl) → Bool
  | _, [] => true
  | i, b :: r => (decide (b.length ≤ 3) && (clB (Int.tmod (i : Int) 2) b && flB w h b)) && bufI w h (i + 1) r
def bufS (w h : Int) : Nat → List (List Fl) → List Int → Bool
  | i, b :: r, o :: os => (decide (b.length ≤ 3) && (flB w h b && (decide (-1 ≤ o ∧ o ≤ 4) && clB (Int.tmod (i : Int) 2) b))) && bufS w h (i + 1) r os
  | _, _, _ => true
theorem bufS_eq (w h : Int) : ∀ (B : List (List Fl)) (O : List Int) (i : Nat), B.length = O.length → bufS w h i B O = (bufI w h i B && rgB (-1) 4 O)
  | [], [], _, _ => rfl
  | [], _ :: _, _, h => by simp at h
  | _ :: _, [], _, h => by simp at h
  | b :: r, o :: os, i, hl => by
    have ih := bufS_eq w h r os (i + 1) (by simpa using hl)
    unfold bufS bufI
    rw [ih]
    simp only [rgB, List.all_cons]
    cases decide (b.length ≤ 3) <;> cases flB w h b <;> cases decide (-1 ≤ o ∧ o ≤ 4) <;> cases clB (Int.tmod (i : Int) 2) b <;> simp
theorem clsL_all (c : Int) : ∀ l : List Fl, ((clsL c l).length = l.length) ↔ clB c l = true
  | [] => by simp [clsL, clB]
  | x :: l => by
    have ih := clsL_all c l
    have hl := clsL_len c l
    unfold clsL
    by_cases h : x.f2 = c
    · rw [if_pos h]
      simp only [List.length_cons, clB, List.all_cons, h, decide_true, Bool.true_and, Nat.add_right_cancel_iff]
      exact ih
    · rw [if_neg h]
      simp only [List.length_cons, clB, List.all_cons, h, decide_false, Bool.false_and]
      exact ⟨fun z => by omega, fun z => absurd z Bool.false_ne_true⟩

/-! ### slen -/
/-- How many elements the lists hold together. -/
def slen {α : Type} : List (List α) → Int
  | [] => 0
  | x :: l => (x.length : Int) + slen l
theorem slen_nn {α : Type} : ∀ l : List (List α), 0 ≤ slen l
  | [] => Int.le_refl _
  | x :: l => by
    have := slen_nn l
    unfold slen
    omega
theorem slen_mem {α : Type} : ∀ (l : List (List α)) (x : List α), x ∈ l → (x.length : Int) ≤ slen l
  | [], x, h => by simp at h
  | y :: l, x, h => by
    have h0 := slen_nn l
    unfold slen
    cases List.mem_cons.1 h with
    | inl e => rw [e]; omega
    | inr e => have := slen_mem l x e; omega
theorem slen_map {α β : Type} (f : α → β) : ∀ l : List (List α), slen (l.map fun x => x.map f) = slen l
  | [] => rfl
  | x :: l => by
    have := slen_map f l
    simp only [List.map_cons, slen, List.length_map, this]

/-! ### netR -/
def clsOk (w h : Int) (br p q : List Int) : Prop := tableOk w h br p ∧ tableOk w h br q
/-- What of a network is told behind the tables. -/
def restOk (w h : Int) (B : List (List Fl)) (O T : List Int) (C A : List (List Fl)) (t : Int) : Prop :=
  ((B.length : Int) = 10 * ncR w h ∧ (O.length : Int) = 10 * ncR w h ∧ (T.length : Int) = 5 * ncR w h ∧ (C.length : Int) = ncR w h ∧ (A.length : Int) = ncR w h) ∧ (bufI w h 0 B && (srcB w h C && (rgB (-1) 4 O && (rgB 0 9 T && decide (0 ≤ t ∧ t ≤ 1000000))))) = true
def netOk (w h : Int) (br p q : List Int) (B : List (List Fl)) (O T : List Int) (C A : List (List Fl)) (t : Int) : Prop := clsOk w h br p q ∧ restOk w h B O T C A t

/-! ### ClassesOk_i -/
theorem ClassesOk_i (w h : Int) (br p q : List Int) (hbr : br.length < 1152921504606846976) : ∃ b, Ev (fun k => impl_ClassesOk.f k w h br p q) b ∧ (b = true ↔ clsOk w h br p q) := by
  obtain ⟨b, hb, hb2⟩ := TableOk_i w h br p hbr
  obtain ⟨c, hc, hc2⟩ := TableOk_i w h br q hbr
  unfold impl_ClassesOk.f clsOk
  by_cases h : b = true
  · exact ⟨c, Ev.bind hb (Ev.ite_pos h (Ev.bind hc (Ev.now _))), by rw [hc2]; exact ⟨fun z => ⟨hb2.1 h, z⟩, fun z => z.2⟩⟩
  · exact ⟨false, Ev.bind hb (Ev.ite_neg h (Ev.now _)), ⟨fun z => absurd z Bool.false_ne_true, fun z => absurd (hb2.2 z.1) h⟩⟩

/-! ### find -/
theorem l03Find_l0 (x : Int) : ∀ (rest pre : List Int), pre.length + rest.length < 1152921504606846976 → Ev (fun k => spec_l03Find.l0 k (pre ++ rest) x (pre.length : Int)) (decide (x ∈ rest))
  | [], pre, _ => by
    refine Ev.suc ?_
    simp only [spec_l03Find.l0]
    exact Ev.ite_neg (by simp) (Ev.val (by simp))
  | y :: rest, pre, hl => by
    simp only [List.length_cons] at hl
    have h1 : (pre.length : Int) < ((pre ++ y :: rest).length : Int) := by simp only [List.length_append, List.length_cons]; omega
    have hw : wrap64 ((pre.length : Int) + 1) = ((pre ++ [y]).length : Int) := by rw [w64 (by omega) (by omega), len_snoc]
    refine Ev.suc ?_
    simp only [spec_l03Find.l0, rd_mid, hw]
    refine Ev.ite_pos h1 (Ev.ite_pos (by omega) (Ev.ite (fun h => Ev.val ?_) (fun h => ?_)))
    · simp [h]
    · rw [snoc_app pre y rest]
      refine Ev.eq (l03Find_l0 x rest (pre ++ [y]) (by simp only [List.length_append, List.length_cons, List.length_nil]; omega)) ?_
      rw [decide_eq_decide]
      simp [show ¬ x = y from fun e => h e.symm]
theorem l03Find_s (l : List Int) (x : Int) (h : l.length < 1152921504606846976) : Ev (fun k => spec_l03Find.f k l x) (decide (x ∈ l)) := by
  unfold spec_l03Find.f
  exact l03Find_l0 x l [] (by simpa using h)

/-! ### hasCh_s -/
theorem l03Has_s (w h : Int) (br : List Int) (c : Int) (hl : br.length < 1152921504606846976) : Ev (fun k => spec_l03Has.f k w h br c) (hasR w h br c) := by
  unfold spec_l03Has.f hasR
  refine Ev.bindS (leads_s w h c) (Ev.ite (fun h1 => ?_) (fun h1 => Ev.val (by simp [h1])))
  exact Ev.bind (l03Find_s br c hl) (Ev.val (by simp [h1]))

/-! ### walk_s -/
theorem l04Walk_l0 (w h : Int) (br ps : List Int) (dst : Int) (hbr : br.length < 1152921504606846976) (hps : (ps.length : Int) = ncR w h * ncR w h) (hd : nodeOk w h dst) : ∀ (d : Nat) (acc : List Int) (x : Int), nodeOk w h x → (acc.length : Int) + d = ncR w h + 1 →
    Ev (fun k => spec_l04Walk.l0 k dst acc (ncR w h) x w h br ps) (walkGo w h br ps dst d acc x)
  | 0, acc, x, hx, hl => by
    refine Ev.suc ?_
    simp only [spec_l04Walk.l0]
    exact Ev.ite_neg (by omega) (Ev.now _)
  | d + 1, acc, x, hx, hl => by
    have hn := ncR_b w h
    have hb := idx_b hn hx hd
    obtain ⟨e1, e2⟩ := idx_w hn hx hd
    have hx15 : 0 ≤ x ∧ x ≤ 15 := ⟨hx.1, by have := hx.2; omega⟩
    have hin1 : 0 ≤ x * ncR w h + dst := by
      have := hd.1
      omega
    have hin2 : x * ncR w h + dst < (ps.length : Int) := by
      rw [hps]
      exact hb.2.2.1
    refine Ev.suc ?_
    simp only [spec_l04Walk.l0, e1, l01In_f, Option.bind_some, decide_eq_true_eq]
    unfold walkGo
    have hlen : (acc.length : Int) ≤ ncR w h := by omega
    have hacc : acc.length < 17592186044416 := by omega
    clear hb e1 e2
    refine Ev.ite_pos hlen (Ev.ite_pos hin1 (Ev.ite_pos hin2 ?_))
    generalize rd ps (x * ncR w h + dst) = p at *
    by_cases h4 : p = 4
    · refine Ev.ite_pos h4 ?_
      rw [if_pos h4]
      refine Ev.ite (fun h5 => Ev.val ?_) (fun h5 => Ev.val ?_)
      · rw [if_pos h5]
      · rw [if_neg h5]
    · refine Ev.ite_neg h4 ?_
      rw [if_neg h4]
      by_cases hp : 0 ≤ p ∧ p ≤ 3
      · have e3 : wrap64 (wrap64 (4 * x) + p) = 4 * x + p := by rw [w64 (x := 4 * x) (by omega) (by omega), w64 (by omega) (by omega)]
        simp only [e3]
        refine Ev.ite_pos hp (Ev.bind (l03Has_s w h br (4 * x + p) hbr) (Ev.ite (fun hh => ?_) (fun hh => Ev.val ?_)))
        · rw [if_pos ⟨hp, hh⟩]
          refine Ev.ite_pos hacc (Ev.bindS (NextNode_s w h x p) ?_)
          exact l04Walk_l0 w h br ps dst hbr hps hd d _ _ (has_next hp hh) (by simp only [List.length_append, List.length_cons, List.length_nil]; omega)
        · rw [if_neg (fun z => hh z.2)]
      · refine Ev.ite_neg hp (Ev.val ?_)
        rw [if_neg (fun z => hp z.1)]
theorem l04Walk_s (w h : Int) (br ps : List Int) (x dst : Int) (hbr : br.length < 1152921504606846976) (hps : (ps.length : Int) = ncR w h * ncR w h) (hx : nodeOk w h x) (hd : nodeOk w h dst) :
    Ev (fun k => spec_l04Walk.f k w h br ps x dst) (walkR w h br ps x dst) := by
  unfold spec_l04Walk.f walkR
  have hn := ncR_b w h
  exact Ev.bindS (NodeCount_s w h) (l04Walk_l0 w h br ps dst hbr hps hd _ [] x hx (by simp only [List.length_nil]; omega))

/-! ### MeshOk_s -/
theorem MeshOk_s_l0 (w h : Int) : ∀ (rest pre : List Int) (y : Int), pre.length + rest.length < 1152921504606846976 → Ev (fun k => spec_MeshOk.l0 k (((pre ++ [y])).length : Int) w h ((pre ++ [y]) ++ rest)) (brR w h (some y) rest)
  | [], pre, y, hl => by
    refine Ev.suc ?_
    simp only [spec_MeshOk.l0]
    refine Ev.ite_neg (by simp) ?_
    exact Ev.val (by simp [brR])
  | x :: rest, pre, y, hl => by
    simp only [List.length_cons] at hl
    have hp : (pre ++ [y]).length = pre.length + 1 := by simp
    have h1 : ((pre ++ [y]).length : Int) < ((pre ++ [y] ++ x :: rest).length : Int) := by simp only [List.length_append, List.length_cons, List.length_nil]; omega
    have hw : wrap64 (((pre ++ [y]).length : Int) + 1) = ((pre ++ [y] ++ [x]).length : Int) := by rw [w64 (by omega) (by omega)]; exact (len_snoc _ _).symm
    have hv : wrap64 (((pre ++ [y]).length : Int) - 1) = ((pre ++ [y]).length : Int) - 1 := w64 (by omega) (by omega)
    have e1 : rd (pre ++ [y] ++ x :: rest) (((pre ++ [y]).length : Int) - 1) = y := rd_app_last pre y (x :: rest)
    have e2 : rd (pre ++ [y] ++ x :: rest) ((pre ++ [y]).length : Int) = x := rd_mid _ _ _
    have ih := MeshOk_s_l0 w h rest (pre ++ [y]) x (by omega)
    rw [← snoc_app (pre ++ [y]) x rest] at ih
    refine Ev.suc ?_
    simp only [spec_MeshOk.l0, e1, e2, hw, hv, leads_s, Option.bind_some]
    refine Ev.ite_pos h1 (Ev.ite_pos (by omega) (Ev.ite (fun hlx => ?_) (fun hlx => Ev.val ?_)))
    · refine Ev.ite_pos (by omega) (Ev.ite_pos (by omega) (Ev.ite_pos (by omega) (Ev.ite (fun hc => Ev.val ?_) (fun hc => Ev.eq ih ?_))))
      · have hc' : ¬ y < x := by omega
        simp [brR, hc']
      · have hc' : y < x := by omega
        simp [brR, hlx, hc']
    · simp [brR, hlx]
theorem MeshOk_s (w h : Int) (br : List Int) (hl : br.length < 1152921504606846976) : Ev (fun k => spec_MeshOk.f k w h br) (meshR w h br) := by
  unfold spec_MeshOk.f meshR
  refine Ev.bindS (GridOk_s w h) (Ev.ite (fun hg => ?_) (fun hg => Ev.val (by simp [show ¬ gOk w h from fun z => hg (decide_eq_true z)])))
  cases br with
  | nil =>
    refine Ev.suc ?_
    simp only [spec_MeshOk.l0]
    refine Ev.ite_neg (by simp) ?_
    exact Ev.val (by simp [brR, of_decide_eq_true hg])
  | cons x rest =>
    simp only [List.length_cons] at hl
    have z := MeshOk_s_l0 w h rest [] x (by simp; omega)
    have hw : wrap64 ((0 : Int) + 1) = ((([] : List Int) ++ [x]).length : Int) := by rw [w64 (by omega) (by omega)]; rfl
    have e2 : rd (x :: rest) 0 = x := rfl
    have h1 : (0 : Int) < ((x :: rest).length : Int) := by simp only [List.length_cons]; omega
    refine Ev.suc ?_
    simp only [spec_MeshOk.l0, e2, hw, leads_s, Option.bind_some]
    refine Ev.ite_pos h1 (Ev.ite_pos (by omega) (Ev.ite (fun hlx => Ev.ite_neg (by omega) (Ev.eq z ?_)) (fun hlx => Ev.val ?_)))
    · simp [brR, hlx, of_decide_eq_true hg]
    · simp [brR, hlx]

/-! ### TableOk_s -/
theorem TableOk_s_l1 (w h : Int) (br ps : List Int) (hbr : br.length < 1152921504606846976) (hps : (ps.length : Int) = ncR w h * ncR w h) (n : Nat) (hn : (n : Int) = ncR w h) (x : Nat) (hx : x < n) (P : Prop)
    (hR : ∃ b, Ev (fun k => spec_TableOk.l0 k (n : Int) ((x + 1 : Nat) : Int) w h br ps) b ∧ (b = true ↔ P)) : ∀ (d y : Nat), y + d = n →
    ∃ b, Ev (fun k => spec_TableOk.l1 k (n : Int) (x : Int) (y : Int) w h br ps) b ∧ (b = true ↔ (y ≤ x → rd ps ((x : Int) * ncR w h + (x : Int)) = 4) ∧ (∀ y' : Nat, y ≤ y' → y' < n → x ≠ y' → walkR w h br ps (x : Int) (y' : Int) ≠ []) ∧ P)
  | 0, y, hd => by
    obtain ⟨b, hb, hb2⟩ := hR
    have hnb := ncR_b w h
    refine ⟨b, Ev.suc ?_, ?_⟩
    · simp only [spec_TableOk.l1]
      refine Ev.ite_neg (by omega) ?_
      have e : wrap64 ((x : Int) + 1) = ((x + 1 : Nat) : Int) := by rw [w64 (by omega) (by omega)]; omega
      rw [e]
      exact hb
    · rw [hb2]
      exact ⟨fun hp => ⟨fun hz => absurd hz (by omega), fun y' h1 h2 => absurd h2 (by omega), hp⟩, fun hp => hp.2.2⟩
  | d + 1, y, hd => by
    obtain ⟨b, hb, hb2⟩ := TableOk_s_l1 w h br ps hbr hps n hn x hx P hR d (y + 1) (by omega)
    have hnb := ncR_b w h
    have e : wrap64 ((y : Int) + 1) = ((y + 1 : Nat) : Int) := by rw [w64 (by omega) (by omega)]; omega
    have hlt : (y : Int) < (n : Int) := by omega
    by_cases hxy : x = y
    · have hxn : 0 ≤ (x : Int) ∧ (x : Int) ≤ ncR w h - 1 := by omega
      have hi := idx_b hnb hxn hxn
      have hi0 : 0 ≤ (x : Int) * ncR w h + (x : Int) := by omega
      have hi1 : (x : Int) * ncR w h + (x : Int) < (ps.length : Int) := by
        rw [hps]
        exact hi.2.2.1
      have ew := (idx_w hnb hxn hxn).1
      have hxy' : (x : Int) = (y : Int) := by omega
      have hle : y ≤ x := by omega
      have hnle : ¬ y + 1 ≤ x := by omega
      have hrest : (∀ y' : Nat, y + 1 ≤ y' → y' < n → x ≠ y' → walkR w h br ps (x : Int) (y' : Int) ≠ []) ↔ (∀ y' : Nat, y ≤ y' → y' < n → x ≠ y' → walkR w h br ps (x : Int) (y' : Int) ≠ []) := by
        clear hi hi0 hi1 ew
        exact ⟨fun hp y' h1 h2 h3 => hp y' (by omega) h2 h3, fun hp y' h1 h2 h3 => hp y' (by omega) h2 h3⟩
      by_cases h4 : rd ps ((x : Int) * ncR w h + (x : Int)) = 4
      · refine ⟨b, Ev.suc ?_, ?_⟩
        · rw [hn] at hb hlt ⊢
          simp only [spec_TableOk.l1, ew, e]
          exact Ev.ite_pos hlt (Ev.ite_pos hxy' (Ev.ite_pos hi0 (Ev.ite_pos hi1 (Ev.ite_pos h4 hb))))
        · rw [hb2, hrest]
          exact ⟨fun hp => ⟨fun _ => h4, hp.2⟩, fun hp => ⟨fun hz => absurd hz hnle, hp.2⟩⟩
      · refine ⟨false, Ev.suc ?_, ?_⟩
        · rw [hn] at hlt ⊢
          simp only [spec_TableOk.l1, ew, e]
          exact Ev.ite_pos hlt (Ev.ite_pos hxy' (Ev.ite_pos hi0 (Ev.ite_pos hi1 (Ev.ite_neg h4 (Ev.now _)))))
        · exact ⟨fun z => absurd z Bool.false_ne_true, fun hp => absurd (hp.1 hle) h4⟩
    · have hv := l04Walk_s w h br ps (x : Int) (y : Int) hbr hps ⟨by omega, by omega⟩ ⟨by omega, by omega⟩
      have hneq : ¬ (x : Int) = (y : Int) := by omega
      have hd2 : (y ≤ x → rd ps ((x : Int) * ncR w h + (x : Int)) = 4) ↔ (y + 1 ≤ x → rd ps ((x : Int) * ncR w h + (x : Int)) = 4) := ⟨fun hp hz => hp (by omega), fun hp hz => hp (by omega)⟩
      by_cases hw : walkR w h br ps (x : Int) (y : Int) = []
      · refine ⟨false, Ev.suc ?_, ?_⟩
        · simp only [spec_TableOk.l1, e]
          refine Ev.ite_pos hlt (Ev.ite_neg hneq (Ev.bind hv (Ev.ite_pos (by simp [hw]) (Ev.now _))))
        · refine ⟨fun z => absurd z Bool.false_ne_true, fun hp => absurd hw (hp.2.1 y (Nat.le_refl _) (by omega) hxy)⟩
      · refine ⟨b, Ev.suc ?_, ?_⟩
        · simp only [spec_TableOk.l1, e]
          refine Ev.ite_pos hlt (Ev.ite_neg hneq (Ev.bind hv (Ev.ite_neg ?_ hb)))
          cases hc : walkR w h br ps (x : Int) (y : Int) with
          | nil => exact absurd hc hw
          | cons a l => simp only [List.length_cons]; omega
        · rw [hb2, hd2]
          refine ⟨fun hp => ⟨hp.1, fun y' h1 h2 h3 => ?_, hp.2.2⟩, fun hp => ⟨hp.1, fun y' h1 h2 h3 => hp.2.1 y' (by omega) h2 h3, hp.2.2⟩⟩
          by_cases hy : y' = y
          · rw [hy]
            exact hw
          · exact hp.2.1 y' (by omega) h2 h3
theorem TableOk_s_l0 (w h : Int) (br ps : List Int) (hbr : br.length < 1152921504606846976) (hps : (ps.length : Int) = ncR w h * ncR w h) (n : Nat) (hn : (n : Int) = ncR w h) : ∀ (d x : Nat), x + d = n →
    ∃ b, Ev (fun k => spec_TableOk.l0 k (n : Int) (x : Int) w h br ps) b ∧ (b = true ↔ (∀ x' : Nat, x ≤ x' → x' < n → rd ps ((x' : Int) * ncR w h + (x' : Int)) = 4) ∧ ∀ x' y' : Nat, x ≤ x' → x' < n → y' < n → x' ≠ y' → walkR w h br ps (x' : Int) (y' : Int) ≠ [])
  | 0, x, hd => by
    refine ⟨true, Ev.suc ?_, ?_⟩
    · simp only [spec_TableOk.l0]
      exact Ev.ite_neg (by omega) (Ev.now _)
    · exact ⟨fun _ => ⟨fun x' h1 h2 => absurd h2 (by omega), fun x' y' h1 h2 => absurd h2 (by omega)⟩, fun _ => rfl⟩
  | d + 1, x, hd => by
    obtain ⟨b, hb, hb2⟩ := TableOk_s_l1 w h br ps hbr hps n hn x (by omega) _ (TableOk_s_l0 w h br ps hbr hps n hn d (x + 1) (by omega)) n 0 (by omega)
    refine ⟨b, Ev.suc ?_, ?_⟩
    · simp only [spec_TableOk.l0]
      exact Ev.ite_pos (by omega) hb
    · rw [hb2]
      refine ⟨fun hp => ⟨fun x' h1 h2 => ?_, fun x' y' h1 h2 h3 h4 => ?_⟩, fun hp => ⟨fun _ => hp.1 x (Nat.le_refl _) (by omega), fun y' h1 h2 h3 => hp.2 x y' (Nat.le_refl _) (by omega) h2 h3, fun x' h1 h2 => hp.1 x' (by omega) h2, fun x' y' h1 h2 h3 h4 => hp.2 x' y' (by omega) h2 h3 h4⟩⟩
      · by_cases hx : x' = x
        · rw [hx]
          exact hp.1 (Nat.zero_le _)
        · exact hp.2.2.1 x' (by omega) h2
      · by_cases hx : x' = x
        · subst hx
          exact hp.2.1 y' (Nat.zero_le _) h3 h4
        · exact hp.2.2.2 x' y' (by omega) h2 h3 h4
theorem l04Sized_s (w h : Int) (br ps : List Int) (hbr : br.length < 1152921504606846976) : Ev (fun k => spec_l04Sized.f k w h br ps) (decide (meshR w h br = true ∧ (ps.length : Int) = ncR w h * ncR w h)) := by
  have hnb := ncR_b w h
  have hsq : wrap64 (ncR w h * ncR w h) = ncR w h * ncR w h := by
    have h3 : ncR w h * ncR w h ≤ 16 * ncR w h := Int.mul_le_mul_of_nonneg_right hnb.2 hnb.1
    have h4 : 0 ≤ ncR w h * ncR w h := Int.mul_nonneg hnb.1 hnb.1
    generalize ncR w h * ncR w h = q at *
    exact w64 (by omega) (by omega)
  unfold spec_l04Sized.f
  refine Ev.bindS (NodeCount_s w h) (Ev.bind (MeshOk_s w h br hbr) (Ev.ite (fun hm => Ev.val ?_) (fun hm => Ev.val ?_)))
  · rw [hsq, hm]
    by_cases he : (ps.length : Int) = ncR w h * ncR w h
    · simp [he]
    · simp [he]
  · simp [hm]
theorem TableOk_s (w h : Int) (br ps : List Int) (hbr : br.length < 1152921504606846976) : ∃ b, Ev (fun k => spec_TableOk.f k w h br ps) b ∧ (b = true ↔ tableOk w h br ps) := by
  have hnb := ncR_b w h
  have hs := l04Sized_s w h br ps hbr
  unfold spec_TableOk.f tableOk
  by_cases hm : meshR w h br = true ∧ (ps.length : Int) = ncR w h * ncR w h
  · obtain ⟨n, hn⟩ : ∃ n : Nat, (n : Int) = ncR w h := ⟨(ncR w h).toNat, by omega⟩
    obtain ⟨b, hb, hb2⟩ := TableOk_s_l0 w h br ps hbr hm.2 n hn n 0 (by omega)
    refine ⟨b, ?_, ?_⟩
    · refine Ev.bind hs (Ev.ite_pos (decide_eq_true hm) (Ev.bindS (NodeCount_s w h) ?_))
      rw [← hn]
      exact hb
    · rw [hb2]
      unfold diagOk walksOk
      rw [← hn] at hm ⊢
      exact ⟨fun hp => ⟨hm.1, hm.2, fun x hx => hp.1 x (Nat.zero_le _) (by omega), fun x y hx hy hne => hp.2 x y (Nat.zero_le _) (by omega) (by omega) hne⟩, fun hp => ⟨fun x _ hx => hp.2.2.1 x (by omega), fun x y _ hx hy hne => hp.2.2.2 x y (by omega) (by omega) hne⟩⟩
  · refine ⟨false, ?_, ⟨fun z => absurd z Bool.false_ne_true, fun hp => absurd ⟨hp.1, hp.2.1⟩ hm⟩⟩
    exact Ev.bind hs (Ev.ite_neg (fun z => hm (of_decide_eq_true z)) (Ev.now _))

/-! ### ClassesOk_s -/
theorem ClassesOk_s (w h : Int) (br p q : List Int) (hbr : br.length < 1152921504606846976) : ∃ b, Ev (fun k => spec_ClassesOk.f k w h br p q) b ∧ (b = true ↔ clsOk w h br p q) := by
  obtain ⟨b, hb, hb2⟩ := TableOk_s w h br p hbr
  obtain ⟨c, hc, hc2⟩ := TableOk_s w h br q hbr
  unfold spec_ClassesOk.f clsOk
  by_cases h : b = true
  · exact ⟨c, Ev.bind hb (Ev.ite_pos h (Ev.bind hc (Ev.now _))), by rw [hc2]; exact ⟨fun z => ⟨hb2.1 h, z⟩, fun z => z.2⟩⟩
  · exact ⟨false, Ev.bind hb (Ev.ite_neg h (Ev.now _)), ⟨fun z => absurd z Bool.false_ne_true, fun z => absurd (hb2.2 z.1) h⟩⟩

/-! ### netNew_x -/
theorem NNs_l0 (n : Int) (h0 : 0 ≤ n) (h1 : n ≤ 16) : ∀ (d i : Nat), ((i + d : Nat) : Int) = 10 * n → Ev (fun k => spec_NetNew.l0 k n (i : Int) (List.replicate i (-1))) (List.replicate (i + d) (-1))
  | 0, i, hd => by
    have hw : wrap64 (10 * n) = 10 * n := w64 (by omega) (by omega)
    refine Ev.suc ?_
    simp only [spec_NetNew.l0, hw]
    exact Ev.ite_neg (by omega) (Ev.now _)
  | d + 1, i, hd => by
    have ih := NNs_l0 n h0 h1 d (i + 1) (by omega)
    have hw : wrap64 (10 * n) = 10 * n := w64 (by omega) (by omega)
    have e : List.replicate i (-1 : Int) ++ [-1] = List.replicate (i + 1) (-1) := by rw [← List.replicate_succ']
    have hi : wrap64 ((i : Int) + 1) = ((i + 1 : Nat) : Int) := by rw [w64 (by omega) (by omega)]; omega
    rw [show i + (d + 1) = i + 1 + d by omega]
    refine Ev.suc ?_
    simp only [spec_NetNew.l0, e, hi, hw]
    exact Ev.ite_pos (by omega) (Ev.ite_pos (by rw [List.length_replicate]; omega) ih)
theorem NNi_l0 (n : Int) (h0 : 0 ≤ n) (h1 : n ≤ 16) : ∀ (d i : Nat), ((i + d : Nat) : Int) = 10 * n → Ev (fun k => impl_NetNew.l0 k n (i : Int) (List.replicate i (-1))) (List.replicate (i + d) (-1))
  | 0, i, hd => by
    have hw : wrap64 (10 * n) = 10 * n := w64 (by omega) (by omega)
    refine Ev.suc ?_
    simp only [impl_NetNew.l0, hw]
    exact Ev.ite_neg (by omega) (Ev.now _)
  | d + 1, i, hd => by
    have ih := NNi_l0 n h0 h1 d (i + 1) (by omega)
    have hw : wrap64 (10 * n) = 10 * n := w64 (by omega) (by omega)
    have e : List.replicate i (-1 : Int) ++ [-1] = List.replicate (i + 1) (-1) := by rw [← List.replicate_succ']
    have hi : wrap64 ((i : Int) + 1) = ((i + 1 : Nat) : Int) := by rw [w64 (by omega) (by omega)]; omega
    rw [show i + (d + 1) = i + 1 + d by omega]
    refine Ev.suc ?_
    simp only [impl_NetNew.l0, e, hi, hw]
    exact Ev.ite_pos (by omega) (Ev.ite_pos (by rw [List.length_replicate]; omega) ih)
abbrev NNT := Int × Int × List Int × List Int × List Int × List (List S81) × List Int × List Int × List (List S81) × List (List S81) × Int × Bool
def nnR (w h : Int) (br p q : List Int) (n : Nat) : NNT := (w, h, br, p, q, List.replicate (10 * n) [], List.replicate (10 * n) (-1), List.replicate (5 * n) 0, List.replicate n [], List.replicate n [], 0, true)
def nnZ : NNT := (0, 0, [], [], [], [], [], [], [], [], 0, false)
/-- Both build the same network, or none. -/
theorem NetNew_both (w h : Int) (br p q : List Int) (hbr : br.length ≤ 1048576) (hp : p.length ≤ 1048576) (hq : q.length ≤ 1048576) :
    ∃ v : NNT, ((∃ n : Nat, n ≤ 16 ∧ v = nnR w h br p q n) ∨ v = nnZ) ∧ Ev (fun k => spec_NetNew.f k w h br p q) v ∧ Ev (fun k => impl_NetNew.f k w h br p q) v := by
  obtain ⟨b, e1, b1⟩ := ClassesOk_s w h br p q (by omega)
  obtain ⟨c, e2, c1⟩ := ClassesOk_i w h br p q (by omega)
  have hbc : c = b := by
    cases b <;> cases c <;> simp_all
  subst hbc
  have hnb := ncR_b w h
  obtain ⟨n, hn⟩ : ∃ n : Nat, (n : Int) = ncR w h := ⟨(ncR w h).toNat, by omega⟩
  have q5 : wrap64 (5 * (n : Int)) = ((5 * n : Nat) : Int) := by rw [w64 (by omega) (by omega)]; omega
  have hb : 0 ≤ ((10 * n : Nat) : Int) ∧ 10 * n ≤ 11728124029610 ∧ 0 ≤ ((5 * n : Nat) : Int) ∧ 5 * n ≤ 35184372088832 ∧ 0 ≤ (n : Int) ∧ n ≤ 11728124029610 := by
    have h16 : n ≤ 16 := by omega
    clear hn hnb e1 e2 b1 c1
    exact ⟨by omega, by omega, by omega, by omega, by omega, by omega⟩
  have q10 : wrap64 (10 * (n : Int)) = ((10 * n : Nat) : Int) := by rw [w64 (by omega) (by omega)]; omega
  have r10 : (wrap64 (10 * ncR w h)).toNat = 10 * n := by rw [← hn, q10]; exact Int.toNat_natCast _
  have r5 : (wrap64 (5 * ncR w h)).toNat = 5 * n := by rw [← hn, q5]; exact Int.toNat_natCast _
  have rn : (ncR w h).toNat = n := by rw [← hn]; exact Int.toNat_natCast _
  have hb2 : 0 ≤ wrap64 (10 * ncR w h) ∧ (wrap64 (10 * ncR w h)).toNat ≤ 11728124029610 ∧ 0 ≤ wrap64 (5 * ncR w h) ∧ (wrap64 (5 * ncR w h)).toNat ≤ 35184372088832 ∧ 0 ≤ ncR w h ∧ (ncR w h).toNat ≤ 11728124029610 := by
    rw [r10, r5, rn, ← hn, q5, q10]
    exact hb
  by_cases hc : c = true
  · refine ⟨nnR w h br p q n, Or.inl ⟨n, by omega, rfl⟩, ?_, ?_⟩
    · have z := NNs_l0 (n : Int) (by omega) (by omega) (10 * n) 0 (by omega)
      rw [Nat.zero_add, hn] at z
      have k1 : spec_l15Mesh.f w h br = some (w, h, br) := by
        unfold spec_l15Mesh.f
        simp only [Option.bind_some, List.length_nil, List.nil_append, Nat.zero_add]
        rw [if_pos (by omega)]
      have k2 : spec_l15Classes.f p q = some (p, q) := by
        unfold spec_l15Classes.f spec_l12Copy.f
        simp only [Option.bind_some, List.length_nil, List.nil_append, Nat.zero_add]
        rw [if_pos (by omega), if_pos (by omega)]
        rfl
      unfold spec_NetNew.f
      refine Ev.bind e1 (Ev.ite_pos hc ?_)
      refine Ev.bindS (NodeCount_s w h) (Ev.bindS k1 (Ev.bindS k2 (Ev.ite_pos hb2 (Ev.bind z (Ev.val ?_)))))
      show (w, h, br, p, q, List.replicate (wrap64 (10 * ncR w h)).toNat ([] : List S81), List.replicate (10 * n) (-1 : Int), List.replicate (wrap64 (5 * ncR w h)).toNat (0 : Int), List.replicate (ncR w h).toNat ([] : List S81), List.replicate (ncR w h).toNat ([] : List S81), (0 : Int), true) = nnR w h br p q n
      rw [r10, r5, rn]
      rfl
    · have z := NNi_l0 (n : Int) (by omega) (by omega) (10 * n) 0 (by omega)
      rw [Nat.zero_add, hn] at z
      have k1 : impl_copyMesh.f w h br = some (w, h, br) := by
        unfold impl_copyMesh.f
        simp only [Option.bind_some, List.length_nil, List.nil_append, Nat.zero_add]
        rw [if_pos (by omega)]
      have k2 : impl_copyClasses.f p q = some (p, q) := by
        unfold impl_copyClasses.f impl_copyTable.f
        simp only [Option.bind_some, List.length_nil, List.nil_append, Nat.zero_add]
        rw [if_pos (by omega), if_pos (by omega)]
        rfl
      unfold impl_NetNew.f
      refine Ev.bind e2 (Ev.ite_pos hc ?_)
      refine Ev.bindS (NodeCount_i w h) (Ev.bindS k1 (Ev.bindS k2 (Ev.ite_pos hb2 (Ev.bind z (Ev.val ?_)))))
      show (w, h, br, p, q, List.replicate (wrap64 (10 * ncR w h)).toNat ([] : List S81), List.replicate (10 * n) (-1 : Int), List.replicate (wrap64 (5 * ncR w h)).toNat (0 : Int), List.replicate (ncR w h).toNat ([] : List S81), List.replicate (ncR w h).toNat ([] : List S81), (0 : Int), true) = nnR w h br p q n
      rw [r10, r5, rn]
      rfl
  · refine ⟨nnZ, Or.inr rfl, ?_, ?_⟩
    · unfold spec_NetNew.f
      exact Ev.bind e1 (Ev.ite_neg hc (Ev.now _))
    · unfold impl_NetNew.f
      exact Ev.bind e2 (Ev.ite_neg hc (Ev.now _))

/-! ### markIntS -/

def mkInt : Int → List Int → List Int
  | _, [] => []
  | m, _ :: l => m :: mkInt (m + 1) l
theorem markInt_l0 : ∀ (rest pre : List Int) (m : Int), pre.length + rest.length ≤ 1099511627776 → 0 ≤ m → m + 1 * (rest.length : Int) ≤ 1152921504606846976 →
    Ev (fun k => laws_markIntS.l0 k (pre ++ rest) m (pre.length : Int)) (m + 1 * (rest.length : Int), pre ++ mkInt m rest) ∧
    Ev (fun k => laws_heldIntS.l0 k (pre ++ mkInt m rest) m (pre.length : Int)) (m + 1 * (rest.length : Int))
  | [], pre, m, _, _, _ => by
    constructor
    · refine Ev.suc ?_
      simp only [laws_markIntS.l0]
      exact Ev.ite_neg (by simp) (Ev.val (by simp [mkInt]))
    · refine Ev.suc ?_
      simp only [laws_heldIntS.l0]
      exact Ev.ite_neg (by simp [mkInt]) (Ev.val (by simp))
  | x :: rest, pre, m, hl, h0, hm => by
    simp only [List.length_cons] at hl hm
    have hp : (pre.length : Int) < ((pre ++ x :: rest).length : Int) := by simp only [List.length_append, List.length_cons]; omega
    have hw : wrap64 ((pre.length : Int) + 1) = ((pre ++ [m]).length : Int) := by rw [w64 (by omega) (by omega), len_snoc]
    have h1 : wrap64 (m + 1) = m + 1 := w64 (by omega) (by omega)
    have ih := markInt_l0 rest (pre ++ [m]) (m + 1) (by simp only [List.length_append, List.length_cons, List.length_nil]; omega) (by omega) (by omega)
    have e : m + 1 + 1 * (rest.length : Int) = m + 1 * ((x :: rest).length : Int) := by
      simp only [List.length_cons]
      omega
    rw [e] at ih
    have el : pre ++ mkInt m (x :: rest) = pre ++ m :: mkInt (m + 1) rest := rfl
    constructor
    · refine Ev.suc ?_
      simp only [laws_markIntS.l0, set_mid, rd_mid, Option.bind_some, h1, hw]
      refine Ev.ite_pos hp (Ev.ite_pos (by omega) ?_)
      rw [el, snoc_app pre _ rest, snoc_app pre _ (mkInt _ rest)]
      exact ih.1
    · rw [el]
      have hq : (pre.length : Int) < ((pre ++ m :: mkInt (m + 1) rest).length : Int) := by simp only [List.length_append, List.length_cons]; omega
      refine Ev.suc ?_
      simp only [laws_heldIntS.l0, rd_mid, h1, hw]
      refine Ev.ite_pos hq (Ev.ite_pos (by omega) (Ev.ite_pos (by trivial) (?_)))
      rw [snoc_app pre _ (mkInt _ rest)]
      exact ih.2
/-- What is marked is held. -/
theorem markInt_f (l : List Int) (m : Int) (hl : l.length ≤ 1099511627776) (h0 : 0 ≤ m) (h1 : m ≤ 1099511627776) :
    ∃ m' l', m ≤ m' ∧ m' ≤ m + 1 * (l.length : Int) ∧ l'.length = l.length ∧ Ev (fun k => laws_markIntS.f k l m) (m', l') ∧ Ev (fun k => laws_heldIntS.f k l' m) m' := by
  have h := markInt_l0 l [] m (by simpa using hl) h0 (by omega)
  have hlen : ∀ (l : List Int) (m : Int), (mkInt m l).length = l.length := by
    intro l
    induction l with
    | nil => exact fun _ => rfl
    | cons x l ih => exact fun m => by simp only [mkInt, List.length_cons, ih]
  refine ⟨m + 1 * (l.length : Int), mkInt m l, by omega, by omega, hlen l m, ?_, ?_⟩
  · unfold laws_markIntS.f
    exact h.1
  · unfold laws_heldIntS.f
    exact h.2

/-! ### markTable -/
theorem markTable_f (l : List Int) (m : Int) (hl : l.length ≤ 1099511627776) (h0 : 0 ≤ m) (h1 : m ≤ 1099511627776) :
    ∃ m' l', m ≤ m' ∧ m' ≤ m + (l.length : Int) ∧ l'.length = l.length ∧ Ev (fun k => laws_markTable.f k l m) (m', l') ∧ Ev (fun k => laws_heldTable.f k l' m) m' := by
  obtain ⟨m', l', a, b, c, d, e⟩ := markInt_f l m hl h0 h1
  refine ⟨m', l', a, by omega, c, ?_, ?_⟩
  · unfold laws_markTable.f
    exact Ev.bind d (Ev.now _)
  · unfold laws_heldTable.f
    exact Ev.bind e (Ev.ite_neg (by omega) (Ev.now _))

/-! ### markClassesM -/
theorem markClasses_f (a b : List Int) (m : Int) (ha : a.length ≤ 1048576) (hb : b.length ≤ 1048576) (h0 : 0 ≤ m) (h1 : m ≤ 1073741824) :
    ∃ m' a' b', m ≤ m' ∧ m' ≤ m + (a.length : Int) + (b.length : Int) ∧ Ev (fun k => laws_markClasses.f k a b m) (m', a', b') ∧ ∃ n, Ev (fun k => laws_heldTable.f k a' m) n ∧ 0 ≤ n ∧ Ev (fun k => laws_heldTable.f k b' n) m' := by
  obtain ⟨n, a', p1, p2, _, p4, p5⟩ := markTable_f a m (by omega) h0 (by omega)
  obtain ⟨m', b', q1, q2, _, q4, q5⟩ := markTable_f b n (by omega) (by omega) (by omega)
  refine ⟨m', a', b', by omega, by omega, ?_, n, p5, by omega, q5⟩
  unfold laws_markClasses.f
  exact Ev.bind p4 (Ev.bind q4 (Ev.now _))

/-! ### heldClasses -/
theorem heldClasses_f {a b : List Int} {m n m' : Int} (h1 : Ev (fun k => laws_heldTable.f k a m) n) (h0 : 0 ≤ n) (h2 : Ev (fun k => laws_heldTable.f k b n) m') (h3 : 0 ≤ m') : Ev (fun k => laws_heldClasses.f k a b m) m' := by
  unfold laws_heldClasses.f
  exact Ev.bind h1 (Ev.ite_neg (by omega) (Ev.bind h2 (Ev.ite_neg (by omega) (Ev.now _))))

/-! ### markHeldNet -/
theorem markE_f (n : Nat) (hn : n ≤ 1048576) (m : Int) : Ev (fun k => laws_markFlitSS.f k (List.replicate n []) m) (m, List.replicate n []) := by
  have h0 : ∀ j : Nat, (List.replicate n ([] : List S81)).getD j [] = [] := fun j => by
    rw [List.getD_eq_getElem?_getD, List.getElem?_replicate]
    split <;> rfl
  have hs : ∀ j : Nat, (List.replicate n ([] : List S81)).set j [] = List.replicate n [] := fun j => by simp
  have he : Ev (fun k => laws_markFlitS.f k ([] : List S81) m) (m, []) := by
    unfold laws_markFlitS.f
    refine Ev.suc ?_
    simp only [laws_markFlitS.l0]
    exact Ev.ite_neg (by simp) (Ev.now _)
  have main : ∀ (d i : Nat), i + d = n → Ev (fun k => laws_markFlitSS.l0 k (List.replicate n []) m (i : Int)) (m, List.replicate n []) := by
    intro d
    induction d with
    | zero =>
      intro i hi
      refine Ev.suc ?_
      simp only [laws_markFlitSS.l0]
      exact Ev.ite_neg (by rw [List.length_replicate]; omega) (Ev.now _)
    | succ d ih =>
      intro i hi
      have hw : wrap64 ((i : Int) + 1) = ((i + 1 : Nat) : Int) := by rw [w64 (by omega) (by omega)]; omega
      refine Ev.suc ?_
      simp only [laws_markFlitSS.l0, h0, hw]
      refine Ev.ite_pos (by rw [List.length_replicate]; omega) (Ev.ite_pos (by omega) (Ev.bind he ?_))
      simp only [hs]
      exact ih (i + 1) (by omega)
  unfold laws_markFlitSS.f
  exact main n 0 (by omega)
theorem heldE_f (n : Nat) (hn : n ≤ 1048576) (m : Int) (hm : 0 ≤ m) : Ev (fun k => laws_heldFlitSS.f k (List.replicate n []) m) m := by
  have h0 : ∀ j : Int, rd_L3 (List.replicate n ([] : List S81)) j = [] := fun j => by
    show (List.replicate n ([] : List S81)).getD _ [] = []
    rw [List.getD_eq_getElem?_getD, List.getElem?_replicate]
    split <;> rfl
  have he : Ev (fun k => laws_heldFlitS.f k ([] : List S81) m) m := by
    unfold laws_heldFlitS.f
    refine Ev.suc ?_
    simp only [laws_heldFlitS.l0]
    exact Ev.ite_neg (by simp) (Ev.now _)
  have main : ∀ (d i : Nat), i + d = n → Ev (fun k => laws_heldFlitSS.l0 k (List.replicate n []) m (i : Int)) m := by
    intro d
    induction d with
    | zero =>
      intro i hi
      refine Ev.suc ?_
      simp only [laws_heldFlitSS.l0]
      exact Ev.ite_neg (by rw [List.length_replicate]; omega) (Ev.now _)
    | succ d ih =>
      intro i hi
      have hw : wrap64 ((i : Int) + 1) = ((i + 1 : Nat) : Int) := by rw [w64 (by omega) (by omega)]; omega
      refine Ev.suc ?_
      simp only [laws_heldFlitSS.l0, h0, hw]
      exact Ev.ite_pos (by rw [List.length_replicate]; omega) (Ev.ite_pos (by omega) (Ev.bind he (Ev.ite_neg (by omega) (ih (i + 1) (by omega)))))
  unfold laws_heldFlitSS.f
  exact main n 0 (by omega)
theorem markTab_f (l : List Int) (m : Int) (hl : l.length ≤ 1048576) (h0 : 0 ≤ m) (h1 : m ≤ 1073741824) :
    ∃ m' l', m ≤ m' ∧ m' ≤ m + (l.length : Int) ∧ Ev (fun k => laws_markTable.f k l m) (m', l') ∧ Ev (fun k => laws_heldTable.f k l' m) m' := by
  obtain ⟨m', l', a, b, _, d, e⟩ := markInt_f l m (by omega) h0 (by omega)
  refine ⟨m', l', a, by omega, ?_, ?_⟩
  · unfold laws_markTable.f
    exact Ev.bind d (Ev.now _)
  · unfold laws_heldTable.f
    exact Ev.bind e (Ev.ite_neg (by omega) (Ev.now _))
/-- A new network marked: it is held as it was marked. -/
theorem markHeldNet_f (w h : Int) (br p q : List Int) (n : Nat) (hbr : br.length ≤ 1048576) (hp : p.length ≤ 1048576) (hq : q.length ≤ 1048576) (hn : n ≤ 16) :
    ∃ (m : Int) (br' p' q' O' T' : List Int), 0 ≤ m ∧ Ev (fun k => laws_markNet.f k w h br p q (List.replicate (10 * n) []) (List.replicate (10 * n) (-1)) (List.replicate (5 * n) 0) (List.replicate n []) (List.replicate n []) 0 1) (m, br', p', q', List.replicate (10 * n) [], O', T', List.replicate n [], List.replicate n []) ∧
      Ev (fun k => laws_heldNet.f k w h br' p' q' (List.replicate (10 * n) []) O' T' (List.replicate n []) (List.replicate n []) 0 1) m := by
  obtain ⟨m1, l1, a1, b1, _, e1, f1⟩ := markInt_f br 1 (by omega) (by omega) (by omega)
  obtain ⟨m2, l2, a2, b2, e2, f2⟩ := markTab_f p m1 hp (by omega) (by omega)
  obtain ⟨m3, l3, a3, b3, e3, f3⟩ := markTab_f q m2 hq (by omega) (by omega)
  have e4 := markE_f (10 * n) (by omega) m3
  have f4 := heldE_f (10 * n) (by omega) m3 (by omega)
  obtain ⟨m5, l5, a5, b5, _, e5, f5⟩ := markInt_f (List.replicate (10 * n) (-1)) m3 (by rw [List.length_replicate]; omega) (by omega) (by omega)
  rw [List.length_replicate] at b5
  obtain ⟨m6, l6, a6, b6, _, e6, f6⟩ := markInt_f (List.replicate (5 * n) 0) m5 (by rw [List.length_replicate]; omega) (by omega) (by omega)
  rw [List.length_replicate] at b6
  have e7 := markE_f n (by omega) m6
  have f7 := heldE_f n (by omega) m6 (by omega)
  refine ⟨m6, l1, l2, l3, l5, l6, by omega, ?_, ?_⟩
  · unfold laws_markNet.f laws_markMesh.f laws_markClasses.f
    exact Ev.bind (Ev.bind e1 (Ev.now _)) (Ev.bind (Ev.bind e2 (Ev.bind e3 (Ev.now _))) (Ev.bind e4 (Ev.bind e5 (Ev.bind e6 (Ev.bind e7 (Ev.bind e7 (Ev.now _)))))))
  · have g1 : Ev (fun k => laws_heldMesh.f k w h l1 1) m1 := by
      unfold laws_heldMesh.f
      exact Ev.bind f1 (Ev.ite_neg (by omega) (Ev.now _))
    have g2 := heldClasses_f f2 (by omega) f3 (by omega)
    unfold laws_heldNet.f
    exact Ev.bind g1 (Ev.ite_neg (by omega) (Ev.bind g2 (Ev.ite_neg (by omega) (Ev.bind f4 (Ev.ite_neg (by omega) (Ev.bind f5 (Ev.ite_neg (by omega) (Ev.bind f6 (Ev.ite_neg (by omega) (Ev.bind f7 (Ev.ite_neg (by omega) (Ev.bind f7 (Ev.ite_neg (by omega) (Ev.now _))))))))))))))

/-! ### szTab -/
theorem szIntS_f (l : List Int) (n : Int) (hl : l.length ≤ maxLen) (h0 : 0 ≤ n) (h1 : n ≤ 1048576) : laws_szIntS.f l n = some (if n < (l.length : Int) then -1 else n - (l.length : Int)) := by
  have hm : maxLen = 9223372036854775807 := rfl
  unfold laws_szIntS.f
  rw [w64 (by omega) (by omega)]
  by_cases h : n < (l.length : Int)
  · rw [if_pos h, if_pos (by omega)]
  · rw [if_neg h, if_neg (by omega)]
theorem szTable_f (l : List Int) (n : Int) (hl : l.length ≤ maxLen) (h0 : 0 ≤ n) (h1 : n ≤ 1048576) : laws_szTable.f l n = some (if n < (l.length : Int) then -1 else n - (l.length : Int)) := by
  unfold laws_szTable.f
  rw [szIntS_f l n hl h0 h1]
  simp only [Option.bind_some]
  by_cases h : n < (l.length : Int)
  · simp [h]
  · rw [if_neg h, if_neg (by omega)]

/-! ### szMesh -/
theorem szMesh_f (w h : Int) (l : List Int) (n : Int) (hl : l.length ≤ maxLen) (h0 : 0 ≤ n) (h1 : n ≤ 1048576) : laws_szMesh.f w h l n = some (if n < (l.length : Int) then -1 else n - (l.length : Int)) := by
  unfold laws_szMesh.f
  rw [szIntS_f l n hl h0 h1]
  simp only [Option.bind_some]
  by_cases h : n < (l.length : Int)
  · simp [h]
  · rw [if_neg h, if_neg (by omega)]

/-! ### szCls -/
theorem szClasses_f (a b : List Int) (n : Int) (ha : a.length ≤ maxLen) (hb : b.length ≤ maxLen) (h0 : 0 ≤ n) (h1 : n ≤ 1048576) :
    ∃ r, laws_szClasses.f a b n = some r ∧ (r < 0 ∨ (0 ≤ r ∧ r = n - (a.length : Int) - (b.length : Int) ∧ (a.length : Int) + (b.length : Int) ≤ n)) := by
  unfold laws_szClasses.f
  rw [szTable_f a n ha h0 h1]
  simp only [Option.bind_some]
  by_cases h : n < (a.length : Int)
  · rw [if_pos h]
    exact ⟨-1, by simp, .inl (by omega)⟩
  · rw [if_neg h, if_neg (by omega), szTable_f b _ hb (by omega) (by omega)]
    simp only [Option.bind_some]
    by_cases h' : n - (a.length : Int) < (b.length : Int)
    · rw [if_pos h']
      exact ⟨-1, by simp, .inl (by omega)⟩
    · rw [if_neg h', if_neg (by omega)]
      exact ⟨_, rfl, .inr ⟨by omega, rfl, by omega⟩⟩

/-! ### toIntS -/
theorem toIntS_l0 : ∀ (rest pre z : List Int), z.length = rest.length → pre.length + rest.length ≤ 1152921504606846976 → Ev (fun k => laws_toIntS.l0 k (pre ++ rest) (pre ++ z) (pre.length : Int)) (pre ++ rest)
  | [], pre, z, hz, _ => by
    have : z = [] := List.length_eq_zero_iff.1 hz
    subst this
    refine Ev.suc ?_
    simp only [laws_toIntS.l0]
    refine Ev.ite_neg (by simp) (Ev.now _)
  | x :: rest, pre, z, hz, hl => by
    obtain ⟨y, z, rfl⟩ : ∃ y z', z = y :: z' := by
      cases z with
      | nil => simp at hz
      | cons y z' => exact ⟨y, z', rfl⟩
    simp only [List.length_cons] at hz hl
    refine Ev.suc ?_
    simp only [laws_toIntS.l0, rd_mid, set_mid]
    refine Ev.ite_pos (by simp only [List.length_append, List.length_cons]; omega) ?_
    refine Ev.ite_pos (by omega) ?_
    refine Ev.ite_pos (by simp only [List.length_append, List.length_cons]; omega) ?_
    rw [w64 (by omega) (by omega), ← len_snoc pre x, snoc_app pre x rest, snoc_app pre x z]
    exact toIntS_l0 rest (pre ++ [x]) z (by omega) (by simp only [List.length_append, List.length_cons, List.length_nil]; omega)
theorem toIntS_f (l : List Int) (h : l.length ≤ 35184372088832) : Ev (fun k => laws_toIntS.f k l) l := by
  unfold laws_toIntS.f
  refine Ev.ite_pos (by omega) ?_
  refine Ev.ite_pos (by omega) ?_
  exact toIntS_l0 l [] _ (by simp) (by simp; omega)

/-! ### toMesh -/
theorem toMesh_f (w h : Int) (l : List Int) (hl : l.length ≤ 35184372088832) : Ev (fun k => laws_toMesh.f k w h l) (w, h, l) := by
  unfold laws_toMesh.f laws_toGrid.f
  simp only [Option.bind_some]
  exact Ev.bind (toIntS_f l hl) (Ev.now _)

/-! ### toCls -/
theorem toTable_f (l : List Int) (h : l.length ≤ 35184372088832) : Ev (fun k => laws_toTable.f k l) l := by
  unfold laws_toTable.f
  exact Ev.bind (toIntS_f l h) (Ev.now _)
theorem toClasses_f (a b : List Int) (ha : a.length ≤ 35184372088832) (hb : b.length ≤ 35184372088832) : Ev (fun k => laws_toClasses.f k a b) (a, b) := by
  unfold laws_toClasses.f
  exact Ev.bind (toTable_f a ha) (Ev.bind (toTable_f b hb) (Ev.now _))

/-! ### eqIntS -/
theorem eqIntS_l0 : ∀ (rest pre : List Int), pre.length + rest.length ≤ 1152921504606846976 → Ev (fun k => laws_eqIntS.l0 k (pre ++ rest) (pre ++ rest) (pre.length : Int)) true
  | [], pre, _ => by
    refine Ev.suc ?_
    simp only [laws_eqIntS.l0]
    refine Ev.ite_neg (by simp) (Ev.now _)
  | x :: rest, pre, hl => by
    simp only [List.length_cons] at hl
    refine Ev.suc ?_
    simp only [laws_eqIntS.l0, rd_mid]
    refine Ev.ite_pos (by simp only [List.length_append, List.length_cons]; omega) ?_
    refine Ev.ite_pos (by omega) ?_
    refine Ev.ite_pos (by simp only [List.length_append, List.length_cons]; omega) ?_
    refine Ev.ite_pos trivial ?_
    rw [w64 (by omega) (by omega), ← len_snoc pre x, snoc_app pre x rest]
    exact eqIntS_l0 rest (pre ++ [x]) (by simp only [List.length_append, List.length_cons, List.length_nil]; omega)
theorem eqIntS_f (l : List Int) (h : l.length ≤ 35184372088832) : Ev (fun k => laws_eqIntS.f k l l) true := by
  unfold laws_eqIntS.f
  refine Ev.ite_pos rfl ?_
  exact eqIntS_l0 l [] (by simp; omega)

/-! ### eqMesh -/
theorem eqMesh_f (w h : Int) (l : List Int) (hl : l.length ≤ 35184372088832) : Ev (fun k => laws_eqMesh.f k w h l w h l) true := by
  unfold laws_eqMesh.f laws_eqGrid.f
  simp only [if_true, Option.bind_some]
  exact Ev.bind (eqIntS_f l hl) (Ev.ite_pos rfl (Ev.now _))

/-! ### eqCls -/
theorem eqTable_f (l : List Int) (h : l.length ≤ 35184372088832) : Ev (fun k => laws_eqTable.f k l l) true := by
  unfold laws_eqTable.f
  exact Ev.bind (eqIntS_f l h) (Ev.ite_pos rfl (Ev.now _))
theorem eqClasses_f (a b : List Int) (ha : a.length ≤ 35184372088832) (hb : b.length ≤ 35184372088832) : Ev (fun k => laws_eqClasses.f k a b a b) true := by
  unfold laws_eqClasses.f
  exact Ev.bind (eqTable_f a ha) (Ev.ite_pos rfl (Ev.bind (eqTable_f b hb) (Ev.ite_pos rfl (Ev.now _))))

/-! ### eqFlit -/
theorem eqFlit_f (a0 a1 a2 : Int) (a3 a4 : Bool) : laws_eqFlit.f a0 a1 a2 a3 a4 a0 a1 a2 a3 a4 = some true := by
  unfold laws_eqFlit.f
  simp

/-! ### eqFlitS -/
theorem eqFlitS_l0 : ∀ (rest pre : List S81), pre.length + rest.length ≤ 1152921504606846976 → Ev (fun k => laws_eqFlitS.l0 k (pre ++ rest) (pre ++ rest) (pre.length : Int)) true
  | [], pre, _ => by
    refine Ev.suc ?_
    simp only [laws_eqFlitS.l0]
    refine Ev.ite_neg (by simp) (Ev.now _)
  | x :: rest, pre, hl => by
    simp only [List.length_cons] at hl
    refine Ev.suc ?_
    simp only [laws_eqFlitS.l0, rdI_Flit, eqFlit_f, Option.bind_some]
    refine Ev.ite_pos (by simp only [List.length_append, List.length_cons]; omega) ?_
    refine Ev.ite_pos (by omega) ?_
    refine Ev.ite_pos (by simp only [List.length_append, List.length_cons]; omega) ?_
    refine Ev.ite_pos trivial ?_
    rw [w64 (by omega) (by omega), ← len_snoc pre x, snoc_app pre x rest]
    exact eqFlitS_l0 rest (pre ++ [x]) (by simp only [List.length_append, List.length_cons, List.length_nil]; omega)
theorem eqFlitS_f (l : List S81) (h : l.length ≤ 1152921504606846976) : Ev (fun k => laws_eqFlitS.f k l l) true := by
  unfold laws_eqFlitS.f
  refine Ev.ite_pos rfl ?_
  exact eqFlitS_l0 l [] (by simpa using h)

/-! ### eqNet -/
theorem eqFlitSS_l0 : ∀ (rest pre : List (List S81)), pre.length + rest.length ≤ 1152921504606846976 → (∀ x ∈ rest, x.length ≤ 1048576) → Ev (fun k => laws_eqFlitSS.l0 k (pre ++ rest) (pre ++ rest) (pre.length : Int)) true
  | [], pre, _, _ => by
    refine Ev.suc ?_
    simp only [laws_eqFlitSS.l0]
    refine Ev.ite_neg (by simp) (Ev.now _)
  | x :: rest, pre, hl, hx => by
    simp only [List.length_cons] at hl
    have h1 : (pre.length : Int) < ((pre ++ x :: rest).length : Int) := by simp only [List.length_append, List.length_cons]; omega
    have ih := eqFlitSS_l0 rest (pre ++ [x]) (by simp only [List.length_append, List.length_cons, List.length_nil]; omega) (fun y hy => hx y (List.mem_cons_of_mem _ hy))
    have hx0 := hx x List.mem_cons_self
    refine Ev.suc ?_
    simp only [laws_eqFlitSS.l0, rdI_FlitSS]
    refine Ev.ite_pos h1 (Ev.ite_pos (by omega) (Ev.ite_pos h1 (Ev.bind (eqFlitS_f x (by omega)) (Ev.ite_pos rfl ?_))))
    rw [w64 (by omega) (by omega), ← len_snoc pre x, snoc_app pre x rest]
    exact ih
theorem eqFlitSS_f (l : List (List S81)) (h : l.length ≤ 1048576) (hx : slen l ≤ 1048576) : Ev (fun k => laws_eqFlitSS.f k l l) true := by
  unfold laws_eqFlitSS.f
  refine Ev.ite_pos rfl ?_
  exact eqFlitSS_l0 l [] (by simp; omega) (fun x hm => by have := slen_mem l x hm; omega)
theorem eqNet_f (w h : Int) (br p q : List Int) (B : List (List S81)) (O T : List Int) (C A : List (List S81)) (t : Int) (hbr : br.length ≤ 1048576) (hp : p.length ≤ 1048576) (hq : q.length ≤ 1048576) (hB : B.length ≤ 1048576 ∧ slen B ≤ 1048576) (hO : O.length ≤ 1048576) (hT : T.length ≤ 1048576)
    (hC : C.length ≤ 1048576 ∧ slen C ≤ 1048576) (hA : A.length ≤ 1048576 ∧ slen A ≤ 1048576) : Ev (fun k => laws_eqNet.f k w h br p q B O T C A t w h br p q B O T C A t) true := by
  unfold laws_eqNet.f
  exact Ev.bind (eqMesh_f w h br (by omega)) (Ev.ite_pos rfl (Ev.bind (eqClasses_f p q (by omega) (by omega)) (Ev.ite_pos rfl (Ev.bind (eqFlitSS_f B hB.1 hB.2) (Ev.ite_pos rfl (Ev.bind (eqIntS_f O (by omega)) (Ev.ite_pos rfl (Ev.bind (eqIntS_f T (by omega)) (Ev.ite_pos rfl (Ev.bind (eqFlitSS_f C hC.1 hC.2) (Ev.ite_pos rfl (Ev.bind (eqFlitSS_f A hA.1 hA.2) (Ev.ite_pos rfl (Ev.ite_pos rfl (Ev.now _)))))))))))))))

/-! ### markIm -/
theorem markIm_l0 : ∀ (rest pre : List Int) (m : Int), pre.length + rest.length ≤ 1099511627776 → 0 ≤ m → m + (rest.length : Int) ≤ 1152921504606846976 → ∃ l', Ev (fun k => laws_markIntS.l0 k (pre ++ rest) m (pre.length : Int)) (m + (rest.length : Int), l')
  | [], pre, m, _, _, _ => by
    refine ⟨pre ++ [], Ev.suc ?_⟩
    simp only [laws_markIntS.l0]
    exact Ev.ite_neg (by simp) (Ev.val (by simp))
  | x :: rest, pre, m, hl, h0, hm => by
    simp only [List.length_cons] at hl hm
    have hp : (pre.length : Int) < ((pre ++ x :: rest).length : Int) := by simp only [List.length_append, List.length_cons]; omega
    have hw : wrap64 ((pre.length : Int) + 1) = ((pre ++ [m]).length : Int) := by rw [w64 (by omega) (by omega), len_snoc]
    have h1 : wrap64 (m + 1) = m + 1 := w64 (by omega) (by omega)
    obtain ⟨l', ih⟩ := markIm_l0 rest (pre ++ [m]) (m + 1) (by simp only [List.length_append, List.length_cons, List.length_nil]; omega) (by omega) (by omega)
    have e : m + 1 + (rest.length : Int) = m + ((x :: rest).length : Int) := by
      simp only [List.length_cons]
      omega
    rw [e] at ih
    refine ⟨l', Ev.suc ?_⟩
    simp only [laws_markIntS.l0, set_mid, Option.bind_some, h1, hw]
    refine Ev.ite_pos hp (Ev.ite_pos (by omega) ?_)
    rw [snoc_app pre _ rest]
    exact ih
theorem markIm_f (l : List Int) (m : Int) (hl : l.length ≤ 1099511627776) (h0 : 0 ≤ m) (h1 : m ≤ 1099511627776) : ∃ m' l', m ≤ m' ∧ m' ≤ m + (l.length : Int) ∧ Ev (fun k => laws_markIntS.f k l m) (m', l') := by
  obtain ⟨l', h⟩ := markIm_l0 l [] m (by simpa using hl) h0 (by omega)
  refine ⟨_, l', by omega, Int.le_refl _, ?_⟩
  unfold laws_markIntS.f
  exact h

theorem markCls_f (a b : List Int) (m : Int) (ha : a.length ≤ 1048576) (hb : b.length ≤ 1048576) (h0 : 0 ≤ m) (h1 : m ≤ 1073741824) : ∃ m' a' b', m ≤ m' ∧ Ev (fun k => laws_markClasses.f k a b m) (m', a', b') := by
  obtain ⟨n, a', p1, p2, p4⟩ := markIm_f a m (by omega) h0 (by omega)
  obtain ⟨m', b', q1, q2, q4⟩ := markIm_f b n (by omega) (by omega) (by omega)
  refine ⟨m', a', b', by omega, ?_⟩
  unfold laws_markClasses.f laws_markTable.f
  exact Ev.bind (Ev.bind p4 (Ev.now _)) (Ev.bind (Ev.bind q4 (Ev.now _)) (Ev.now _))
theorem slenE (n : Nat) : slen (List.replicate n ([] : List S81)) = 0 := by
  induction n with
  | zero => rfl
  | succ n ih => rw [List.replicate_succ]; simp only [slen, ih]; rfl
/-- The law's part behind the sizes, for the network that both build. -/
theorem NetNew_tail (w h : Int) (br p q : List Int) (n : Nat) (b : Bool) (hbr : br.length ≤ 1048576) (hp : p.length ≤ 1048576) (hq : q.length ≤ 1048576) (hn : n ≤ 16) :
    Ev (fun k => laws_eqNet.f k w h br p q (List.replicate (10 * n) []) (List.replicate (10 * n) (-1)) (List.replicate (5 * n) 0) (List.replicate n []) (List.replicate n []) 0 w h br p q (List.replicate (10 * n) []) (List.replicate (10 * n) (-1)) (List.replicate (5 * n) 0) (List.replicate n []) (List.replicate n []) 0) true := by
  have s1 := slenE (10 * n)
  have s2 := slenE n
  exact eqNet_f w h br p q _ _ _ _ _ 0 hbr hp hq ⟨by rw [List.length_replicate]; omega, by omega⟩ (by rw [List.length_replicate]; omega) (by rw [List.length_replicate]; omega) ⟨by rw [List.length_replicate]; omega, by omega⟩ ⟨by rw [List.length_replicate]; omega, by omega⟩
theorem FnExactNetNew : FnExactNetNew_says := by
  intro w h br p q _ _ hbr hp hq
  refine Ev.rounds ?_
  unfold laws_FnExactNetNew.f
  by_cases hb' : (1048576 : Int) < (br.length : Int)
  · have e := szMesh_f w h br _ hbr (by omega) (Int.le_refl _)
    rw [if_pos hb'] at e
    exact Ev.bindS e (Ev.ite_pos (by decide) (Ev.now _))
  have e := szMesh_f w h br _ hbr (by omega) (Int.le_refl _)
  rw [if_neg hb'] at e
  refine Ev.bindS e (Ev.ite_neg (by omega) ?_)
  obtain ⟨r, hr, hr2⟩ := szClasses_f p q (1048576 - (br.length : Int)) hp hq (by omega) (by omega)
  refine Ev.bindS hr ?_
  refine Ev.ite (fun _ => Ev.now _) (fun hn => ?_)
  have hp' : p.length ≤ 1048576 := by omega
  have hq' : q.length ≤ 1048576 := by omega
  have hbr' : br.length ≤ 1048576 := by omega
  obtain ⟨v, hv, vs, vi⟩ := NetNew_both w h br p q hbr' hp' hq'
  have m := toMesh_f w h br (by omega)
  have t := toClasses_f p q (by omega) (by omega)
  have me := eqMesh_f w h br (by omega)
  have te := eqClasses_f p q (by omega) (by omega)
  obtain ⟨n1, br', a1, a2, a4⟩ := markIm_f br 1 (by omega) (by omega) (by omega)
  have mm : Ev (fun k => laws_markMesh.f k w h br 1) (n1, br') := by
    unfold laws_markMesh.f
    exact Ev.bind a4 (Ev.now _)
  obtain ⟨n2, p2, q2', b1, b3⟩ := markCls_f p q n1 hp' hq' (by omega) (by omega)
  refine Ev.bind m (Ev.bind t (Ev.bind vs (Ev.bind vi ?_)))
  rcases hv with ⟨n, hn16, rfl⟩ | rfl
  · have ve := NetNew_tail w h br p q n true hbr' hp' hq' hn16
    obtain ⟨z, x1, x2, x3, x4, x5, z0, zm, zh⟩ := markHeldNet_f w h br p q n hbr' hp' hq' hn16
    exact Ev.bind ve (Ev.ite_pos rfl (Ev.ite_pos rfl (Ev.bind me (Ev.ite_pos rfl (Ev.bind te (Ev.ite_pos rfl (Ev.bind mm (Ev.bind b3 (Ev.ite_neg (by show ¬ n2 < 0; omega) (Ev.bind zm (Ev.bind zh (Ev.ite_neg (by omega) (Ev.ite_pos rfl (Ev.now _))))))))))))))
  · have ve := NetNew_tail 0 0 [] [] [] 0 true (by decide) (by decide) (by decide) (by decide)
    obtain ⟨z, x1, x2, x3, x4, x5, z0, zm, zh⟩ := markHeldNet_f 0 0 [] [] [] 0 (by decide) (by decide) (by decide) (by decide)
    exact Ev.bind ve (Ev.ite_pos rfl (Ev.ite_pos rfl (Ev.bind me (Ev.ite_pos rfl (Ev.bind te (Ev.ite_pos rfl (Ev.bind mm (Ev.bind b3 (Ev.ite_neg (by show ¬ n2 < 0; omega) (Ev.bind zm (Ev.bind zh (Ev.ite_neg (by omega) (Ev.ite_pos rfl (Ev.now _))))))))))))))

end Go.Proofs.Ytmdfcdhblflaaaa.Pure
