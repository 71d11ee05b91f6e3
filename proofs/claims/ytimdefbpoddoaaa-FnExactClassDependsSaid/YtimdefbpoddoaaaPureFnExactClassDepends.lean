/- The plain statement of the law FnExactClassDepends: the program's ClassDepends and the reference's give one list, and nothing is shared. No condition. -/
import Derived.Test.YtimdefbpoddoaaaPFnExactClassDependsx
import Derived.Test.YtimdefbpoddoaaaU
import Derived.Test.YtimdefbpoddoaaaSaysFnExactClassDepends
namespace Go.Proofs.Ytimdefbpoddoaaa.Pure
open Go.RowKit Go.Proofs.Ytimdefbpoddoaaa.PFnExactClassDepends Go.Proofs.YtimdefbpoddoaaaW.PrintWords Go.Proofs.YtimdefbpoddoaaaW.PrintLast Go.Proofs.YtimdefbpoddoaaaW.PrintMore Go.Proofs.Ytimdefbpoddoaaa.U
set_option linter.unusedVariables false
set_option linter.unusedSimpArgs false

/-! ### in -/
theorem l01In_f (a b c : Int) : spec_l01In.f a b c = some (decide (b ≤ a ∧ a ≤ c)) := by
  unfold spec_l01In.f
  by_cases h : a ≥ b
  · rw [if_pos h]
    simp [show b ≤ a from h]
  · rw [if_neg h]
    simp [show ¬ b ≤ a from h]

/-! ### grid -/
abbrev gOk (w h : Int) : Prop := 1 ≤ w ∧ w ≤ 4 ∧ 1 ≤ h ∧ h ≤ 4
def ncR (w h : Int) : Int := if gOk w h then w * h else 0
theorem mul_b {w h : Int} (hw : 1 ≤ w ∧ w ≤ 4) (hh : 1 ≤ h ∧ h ≤ 4) : 1 ≤ w * h ∧ w * h ≤ 16 := by
  obtain h1 | h1 | h1 | h1 : w = 1 ∨ w = 2 ∨ w = 3 ∨ w = 4 := by omega
  all_goals
    subst h1
    omega
theorem ncR_b (w h : Int) : 0 ≤ ncR w h ∧ ncR w h ≤ 16 := by
  unfold ncR
  split
  · rename_i hg
    have := mul_b ⟨hg.1, hg.2.1⟩ hg.2.2
    omega
  · omega
abbrev nodeOk (w h n : Int) : Prop := 0 ≤ n ∧ n ≤ ncR w h - 1

/-! ### grid_s -/
theorem GridOk_s (w h : Int) : spec_GridOk.f w h = some (decide (gOk w h)) := by
  unfold spec_GridOk.f gOk
  simp only [l01In_f, Option.bind_some, decide_eq_true_eq]
  split
  · rename_i h1
    simp [h1]
  · rename_i h1
    simp only [Option.some.injEq]
    symm
    rw [decide_eq_false_iff_not]
    exact fun h2 => h1 ⟨h2.1, h2.2.1⟩
theorem NodeCount_s (w h : Int) : spec_NodeCount.f w h = some (ncR w h) := by
  unfold spec_NodeCount.f ncR
  simp only [GridOk_s, Option.bind_some, decide_eq_true_eq]
  split
  · rename_i hg
    have := mul_b ⟨hg.1, hg.2.1⟩ hg.2.2
    rw [w64 (by omega) (by omega)]
  · rfl

/-! ### l02Has -/
theorem l02Has_s (w h n : Int) : spec_l02Has.f w h n = some (decide (nodeOk w h n)) := by
  unfold spec_l02Has.f nodeOk
  have := ncR_b w h
  simp only [NodeCount_s, l01In_f, Option.bind_some]
  rw [w64 (by omega) (by omega)]

/-! ### inside -/
theorem inside_f (a b c : Int) : impl_inside.f a b c = some (decide (b ≤ a ∧ a ≤ c)) := by
  unfold impl_inside.f
  by_cases h : b ≤ a
  · rw [if_pos h]
    simp [h]
  · rw [if_neg h]
    simp [h]

/-! ### grid_i -/
theorem GridOk_i (w h : Int) : impl_GridOk.f w h = some (decide (gOk w h)) := by
  unfold impl_GridOk.f gOk
  simp only [inside_f, Option.bind_some, decide_eq_true_eq]
  split
  · rename_i h1
    simp [h1]
  · rename_i h1
    simp only [Option.some.injEq]
    symm
    rw [decide_eq_false_iff_not]
    exact fun h2 => h1 ⟨h2.1, h2.2.1⟩
theorem NodeCount_i (w h : Int) : impl_NodeCount.f w h = some (ncR w h) := by
  unfold impl_NodeCount.f ncR
  simp only [GridOk_i, Option.bind_some, decide_eq_true_eq]
  split
  · rename_i hg
    have := mul_b ⟨hg.1, hg.2.1⟩ hg.2.2
    rw [w64 (by omega) (by omega)]
  · rfl

/-! ### isNode -/
theorem isNode_i (w h n : Int) : impl_isNode.f w h n = some (decide (nodeOk w h n)) := by
  unfold impl_isNode.f nodeOk
  have := ncR_b w h
  simp only [NodeCount_i, inside_f, Option.bind_some]
  rw [w64 (by omega) (by omega)]

/-! ### node -/
def nodeAtR (w h x y : Int) : Int := if gOk w h ∧ (0 ≤ x ∧ x ≤ w - 1) ∧ (0 ≤ y ∧ y ≤ h - 1) then y * w + x else -1
theorem nodeAt_b (w h x y : Int) : nodeAtR w h x y = -1 ∨ nodeOk w h (nodeAtR w h x y) := by
  unfold nodeAtR
  split
  · rename_i hc
    obtain ⟨hg, hx, hy⟩ := hc
    right
    have hn : ncR w h = w * h := if_pos hg
    rw [nodeOk, hn]
    obtain ⟨g1, g2, g3, g4⟩ := hg
    obtain h1 | h1 | h1 | h1 : w = 1 ∨ w = 2 ∨ w = 3 ∨ w = 4 := by omega
    all_goals
      subst h1
      omega
  · exact .inl rfl
theorem NodeAt_s (w h x y : Int) : spec_NodeAt.f w h x y = some (nodeAtR w h x y) := by
  unfold spec_NodeAt.f nodeAtR
  simp only [GridOk_s, l01In_f, Option.bind_some, decide_eq_true_eq]
  by_cases hg : gOk w h
  · have e1 : wrap64 (w - 1) = w - 1 := w64 (by have := hg.1; omega) (by have := hg.2.1; omega)
    have e2 : wrap64 (h - 1) = h - 1 := w64 (by have := hg.2.2.1; omega) (by have := hg.2.2.2; omega)
    rw [if_pos hg, e1, e2]
    by_cases hx : 0 ≤ x ∧ x ≤ w - 1
    · by_cases hy : 0 ≤ y ∧ y ≤ h - 1
      · rw [if_pos hx, if_pos hy, if_pos ⟨hg, hx, hy⟩]
        obtain ⟨g1, g2, g3, g4⟩ := hg
        have hm : 0 ≤ y * w ∧ y * w ≤ 12 := by
          obtain h1 | h1 | h1 | h1 : w = 1 ∨ w = 2 ∨ w = 3 ∨ w = 4 := by omega
          all_goals
            subst h1
            omega
        rw [w64 (x := y * w) (by omega) (by omega), w64 (by omega) (by omega)]
      · rw [if_pos hx, if_neg hy, if_neg (fun hh => hy hh.2.2)]
    · rw [if_neg hx, if_neg (fun hh => hx hh.2.1)]
  · rw [if_neg hg, if_neg (fun hh => hg hh.1)]
theorem NodeAt_i (w h x y : Int) : impl_NodeAt.f w h x y = some (nodeAtR w h x y) := by
  have e : impl_NodeAt.f w h x y = spec_NodeAt.f w h x y := by
    unfold impl_NodeAt.f spec_NodeAt.f
    simp only [GridOk_i, GridOk_s, inside_f, l01In_f]
  rw [e, NodeAt_s]
def nextR (w h n p : Int) : Int :=
  if nodeOk w h n then
    (if p = 0 then nodeAtR w h (n % w) (n / w - 1) else if p = 1 then nodeAtR w h (n % w + 1) (n / w) else if p = 2 then nodeAtR w h (n % w) (n / w + 1) else if p = 3 then nodeAtR w h (n % w - 1) (n / w) else if p = 4 then n else -1)
  else -1
theorem nextR_b (w h n p : Int) : nextR w h n p = -1 ∨ nodeOk w h (nextR w h n p) := by
  unfold nextR
  by_cases hn : nodeOk w h n
  · rw [if_pos hn]
    by_cases h0 : p = 0
    · rw [if_pos h0]
      exact nodeAt_b _ _ _ _
    rw [if_neg h0]
    by_cases h1 : p = 1
    · rw [if_pos h1]
      exact nodeAt_b _ _ _ _
    rw [if_neg h1]
    by_cases h2 : p = 2
    · rw [if_pos h2]
      exact nodeAt_b _ _ _ _
    rw [if_neg h2]
    by_cases h3 : p = 3
    · rw [if_pos h3]
      exact nodeAt_b _ _ _ _
    rw [if_neg h3]
    by_cases h4 : p = 4
    · rw [if_pos h4]
      exact .inr hn
    · rw [if_neg h4]
      exact .inl rfl
  · rw [if_neg hn]
    exact .inl rfl
theorem nodeOk_g {w h n : Int} (hn : nodeOk w h n) : gOk w h ∧ 0 ≤ n ∧ n ≤ 15 := by
  obtain ⟨h0, h1⟩ := hn
  have hb := ncR_b w h
  by_cases hg : gOk w h
  · exact ⟨hg, h0, by omega⟩
  · have e : ncR w h = 0 := if_neg hg
    omega
theorem div_b {w x : Int} (hw : 1 ≤ w ∧ w ≤ 4) (hx : 0 ≤ x ∧ x ≤ 15) : Int.tmod x w = x % w ∧ Int.tdiv x w = x / w ∧ 0 ≤ x % w ∧ x % w < w ∧ 0 ≤ x / w ∧ x / w ≤ 15 := by
  rw [Int.tmod_eq_emod_of_nonneg hx.1, Int.tdiv_eq_ediv_of_nonneg hx.1]
  refine ⟨rfl, rfl, Int.emod_nonneg _ (by omega), Int.emod_lt_of_pos _ (by omega), Int.ediv_nonneg hx.1 (by omega), ?_⟩
  obtain h1 | h1 | h1 | h1 : w = 1 ∨ w = 2 ∨ w = 3 ∨ w = 4 := by omega
  all_goals
    subst h1
    omega
theorem NextNode_s (w h n p : Int) : spec_NextNode.f w h n p = some (nextR w h n p) := by
  unfold spec_NextNode.f nextR
  simp only [l02Has_s, Option.bind_some, decide_eq_true_eq]
  by_cases hn : nodeOk w h n
  · obtain ⟨hg, h0, h15⟩ := nodeOk_g hn
    obtain ⟨a1, a2, a3, a4, a5, a6⟩ := div_b ⟨hg.1, hg.2.1⟩ ⟨h0, h15⟩
    rw [if_pos hn, if_pos hn, if_neg (by have := hg.1; omega), a1, a2]
    have hw4 := hg.2.1
    generalize n % w = x at *
    generalize n / w = y at *
    have e1 : wrap64 y = y := w64 (by omega) (by omega)
    have e2 : wrap64 (y - 1) = y - 1 := w64 (by omega) (by omega)
    have e3 : wrap64 (y + 1) = y + 1 := w64 (by omega) (by omega)
    have e4 : wrap64 (x - 1) = x - 1 := w64 (by omega) (by omega)
    have e5 : wrap64 (x + 1) = x + 1 := w64 (by omega) (by omega)
    simp only [e1, e2, e3, e4, e5, NodeAt_s, Option.bind_some]
    repeat' split
    all_goals rfl
  · rw [if_neg hn, if_neg hn]
theorem NextNode_i (w h n p : Int) : impl_NextNode.f w h n p = some (nextR w h n p) := by
  have e : impl_NextNode.f w h n p = spec_NextNode.f w h n p := by
    unfold impl_NextNode.f spec_NextNode.f
    simp only [isNode_i, l02Has_s, NodeAt_i, NodeAt_s]
  rw [e, NextNode_s]
def leadsR (w h c : Int) : Bool := decide (0 ≤ c ∧ c ≤ 4 * ncR w h - 1) && decide (nextR w h (c / 4) (c % 4) ≥ 0)
theorem leads_s (w h c : Int) : spec_l03Leads.f w h c = some (leadsR w h c) := by
  unfold spec_l03Leads.f leadsR
  have hb := ncR_b w h
  simp only [NodeCount_s, l01In_f, Option.bind_some, decide_eq_true_eq]
  rw [w64 (x := 4 * ncR w h) (by omega) (by omega), w64 (x := 4 * ncR w h - 1) (by omega) (by omega)]
  by_cases hc : 0 ≤ c ∧ c ≤ 4 * ncR w h - 1
  · rw [if_pos hc, Int.tdiv_eq_ediv_of_nonneg hc.1, Int.tmod_eq_emod_of_nonneg hc.1, w64 (x := c / 4) (by omega) (by omega), NextNode_s]
    simp [hc]
  · rw [if_neg hc]
    simp [hc]
theorem leads_i (w h c : Int) : impl_leads.f w h c = some (leadsR w h c) := by
  have e : impl_leads.f w h c = spec_l03Leads.f w h c := by
    unfold impl_leads.f spec_l03Leads.f
    simp only [NodeCount_i, NodeCount_s, inside_f, l01In_f, NextNode_i, NextNode_s]
  rw [e, leads_s]

/-! ### mesh -/
/-- The list from an element on, behind what stands ahead of it. -/
def brR (w h : Int) : Option Int → List Int → Bool
  | _, [] => true
  | p, x :: r => leadsR w h x && (match p with | none => true | some y => decide (y < x)) && brR w h (some x) r
def meshR (w h : Int) (br : List Int) : Bool := decide (gOk w h) && brR w h none br
theorem last_snoc (pre : List Int) (y : Int) : rd (pre ++ [y]) (pre.length : Int) = y := rd_mid pre y []
theorem rd_app_last (pre : List Int) (y : Int) (rest : List Int) : rd (pre ++ [y] ++ rest) (((pre ++ [y]).length : Int) - 1) = y := by
  have e : ((pre ++ [y]).length : Int) - 1 = (pre.length : Int) := by
    rw [len_snoc]
    omega
  rw [e, List.append_assoc]
  exact rd_mid pre y rest

/-! ### hasCh -/
/-- A channel of a valid mesh. -/
def hasR (w h : Int) (br : List Int) (c : Int) : Bool := leadsR w h c && !decide (c ∈ br)

/-! ### walkR -/
theorem idx_b {n x y : Int} (hn : 0 ≤ n ∧ n ≤ 16) (hx : 0 ≤ x ∧ x ≤ n - 1) (hy : 0 ≤ y ∧ y ≤ n - 1) : 0 ≤ x * n ∧ x * n ≤ 256 ∧ x * n + y < n * n ∧ n * n ≤ 256 := by
  have h1 : 0 ≤ x * n := Int.mul_nonneg hx.1 hn.1
  have h2 : (x + 1) * n ≤ n * n := Int.mul_le_mul_of_nonneg_right (by omega) hn.1
  have h3 : n * n ≤ 16 * n := Int.mul_le_mul_of_nonneg_right hn.2 hn.1
  rw [Int.add_mul, Int.one_mul] at h2
  omega
theorem idx_w {n x y : Int} (hn : 0 ≤ n ∧ n ≤ 16) (hx : 0 ≤ x ∧ x ≤ n - 1) (hy : 0 ≤ y ∧ y ≤ n - 1) : wrap64 (wrap64 (x * n) + y) = x * n + y ∧ wrap64 (n * n) = n * n := by
  have hb := idx_b hn hx hy
  generalize x * n = m at *
  generalize n * n = q at *
  rw [w64 (x := m) (by omega) (by omega), w64 (x := m + y) (by omega) (by omega), w64 (x := q) (by omega) (by omega)]
  exact ⟨rfl, rfl⟩
/-- The walk from a node on, d channels at most still allowed. -/
def walkGo (w h : Int) (br ps : List Int) (dst : Int) : Nat → List Int → Int → List Int
  | 0, _, _ => []
  | d + 1, acc, x => if rd ps (x * ncR w h + dst) = 4 then (if x = dst then acc else []) else
      if (0 ≤ rd ps (x * ncR w h + dst) ∧ rd ps (x * ncR w h + dst) ≤ 3) ∧ hasR w h br (4 * x + rd ps (x * ncR w h + dst)) = true then
        walkGo w h br ps dst d (acc ++ [4 * x + rd ps (x * ncR w h + dst)]) (nextR w h x (rd ps (x * ncR w h + dst)))
      else []
def walkR (w h : Int) (br ps : List Int) (x dst : Int) : List Int := walkGo w h br ps dst ((ncR w h).toNat + 1) [] x
theorem walkGo_zero (w h : Int) (br ps : List Int) (dst : Int) (acc : List Int) (x : Int) (hx : ¬ (rd ps (x * ncR w h + dst) = 4)) : walkGo w h br ps dst 1 acc x = [] := by
  unfold walkGo
  rw [if_neg hx]
  split <;> rfl
theorem ch_div {x p : Int} (hp : 0 ≤ p ∧ p ≤ 3) : (4 * x + p) / 4 = x ∧ (4 * x + p) % 4 = p := by omega
theorem has_next {w h : Int} {br : List Int} {x p : Int} (hp : 0 ≤ p ∧ p ≤ 3) (hh : hasR w h br (4 * x + p) = true) : nodeOk w h (nextR w h x p) := by
  unfold hasR leadsR at hh
  obtain ⟨e1, e2⟩ := ch_div (x := x) hp
  rw [e1, e2] at hh
  simp only [Bool.and_eq_true, decide_eq_true_eq] at hh
  rcases nextR_b w h x p with h1 | h1
  · rw [h1] at hh
    omega
  · exact h1

/-! ### tableR -/
def diagOk (w h : Int) (ps : List Int) : Prop := ∀ x : Nat, (x : Int) < ncR w h → rd ps ((x : Int) * ncR w h + (x : Int)) = 4
def walksOk (w h : Int) (br ps : List Int) : Prop := ∀ x y : Nat, (x : Int) < ncR w h → (y : Int) < ncR w h → x ≠ y → walkR w h br ps (x : Int) (y : Int) ≠ []
/-- A table is valid. -/
def tableOk (w h : Int) (br ps : List Int) : Prop := meshR w h br = true ∧ (ps.length : Int) = ncR w h * ncR w h ∧ diagOk w h ps ∧ walksOk w h br ps

/-! ### rdDepend -/
theorem rdI_Depend (pre : List S94) (x : S94) (rest : List S94) : rd_T94 (pre ++ x :: rest) (pre.length : Int) = x := getD_mid pre x rest _

/-! ### dependD -/
abbrev dIn (x : S94) : Prop := (0 ≤ x.f0 ∧ x.f0 ≤ 127) ∧ (0 ≤ x.f1 ∧ x.f1 ≤ 127)
abbrev dLt (a b : S94) : Prop := a.f0 < b.f0 ∨ (a.f0 = b.f0 ∧ a.f1 < b.f1)
def dGo : S94 → List S94 → Bool
  | _, [] => true
  | y, x :: r => decide (dIn x) && (decide (dLt y x) && dGo x r)
/-- The list of depends is valid. -/
def dAll : List S94 → Bool
  | [] => true
  | x :: r => decide (dIn x) && dGo x r
theorem dGo_cons (y x : S94) (r : List S94) : dGo y (x :: r) = (decide (dIn x) && (decide (dLt y x) && dGo x r)) := rfl
theorem dAll_cons (x : S94) (r : List S94) : dAll (x :: r) = (decide (dIn x) && dGo x r) := rfl
theorem prev_rd (p : List S94) (y x : S94) (rest : List S94) (hl : (p ++ [y]).length + rest.length < 1152921504606846976) : wrap64 (((p ++ [y]).length : Int) - 1) = (p.length : Int) ∧ rd_T94 (p ++ [y] ++ x :: rest) (p.length : Int) = y := by
  refine ⟨?_, ?_⟩
  · simp only [List.length_append, List.length_cons, List.length_nil] at hl ⊢
    rw [w64 (by omega) (by omega)]
    omega
  · rw [List.append_assoc]
    exact rdI_Depend p y (x :: rest)

/-! ### dOrd -/
theorem dLt_trans {a b c : S94} (h : dLt a b) (k : dLt b c) : dLt a c := by
  unfold dLt at *
  omega
theorem dGo_iff : ∀ (r : List S94) (y : S94), dGo y r = true ↔ (∀ x ∈ r, dIn x) ∧ (y :: r).Pairwise dLt
  | [], y => by simp [dGo]
  | z :: r, y => by
    rw [dGo_cons, Bool.and_eq_true, Bool.and_eq_true, decide_eq_true_eq, decide_eq_true_eq, dGo_iff r z]
    constructor
    · rintro ⟨h1, h2, h3, h4⟩
      refine ⟨fun x hx => ?_, List.pairwise_cons.2 ⟨fun x hx => ?_, h4⟩⟩
      · rcases List.mem_cons.1 hx with rfl | hx
        · exact h1
        · exact h3 x hx
      · rcases List.mem_cons.1 hx with rfl | hx
        · exact h2
        · exact dLt_trans h2 ((List.pairwise_cons.1 h4).1 x hx)
    · rintro ⟨h1, h2⟩
      rw [List.pairwise_cons] at h2
      exact ⟨h1 z List.mem_cons_self, h2.1 z List.mem_cons_self, fun x hx => h1 x (List.mem_cons_of_mem _ hx), h2.2⟩
theorem dAll_iff : ∀ (l : List S94), dAll l = true ↔ (∀ x ∈ l, dIn x) ∧ l.Pairwise dLt
  | [] => by simp [dAll]
  | z :: r => by
    rw [dAll_cons, Bool.and_eq_true, decide_eq_true_eq, dGo_iff]
    constructor
    · rintro ⟨h1, h2, h3⟩
      refine ⟨fun x hx => ?_, h3⟩
      rcases List.mem_cons.1 hx with rfl | hx
      · exact h1
      · exact h2 x hx
    · rintro ⟨h1, h2⟩
      exact ⟨h1 z List.mem_cons_self, fun x hx => h1 x (List.mem_cons_of_mem _ hx), h2⟩
theorem rdD_at (l : List S94) (i : Nat) (h : i < l.length) : rd_T94 l (i : Int) = l[i] := by
  show l.getD (i : Int).toNat _ = _
  rw [Int.toNat_natCast, List.getD_eq_getElem?_getD, List.getElem?_eq_getElem h]
  rfl

/-! ### arr -/
theorem sdLe_trans (a b c : SD) (h : sdLe a b = true) (k : sdLe b c = true) : sdLe a c = true := by
  unfold sdLe at *
  rw [decide_eq_true_eq] at *
  omega
theorem sdLe_total (a b : SD) : (sdLe a b || sdLe b a) = true := by
  unfold sdLe
  rw [Bool.or_eq_true, decide_eq_true_eq, decide_eq_true_eq]
  omega
abbrev sdL (a b : SD) : Prop := a.1.val < b.1.val ∨ (a.1.val = b.1.val ∧ a.2.val < b.2.val)
theorem sdL_of {a b : SD} (h : sdLe a b = true) (hne : a ≠ b) : sdL a b := by
  unfold sdLe at h
  rw [decide_eq_true_eq] at h
  have : ¬ (a.1.val = b.1.val ∧ a.2.val = b.2.val) := fun e => hne (Prod.ext (Fin.ext e.1) (Fin.ext e.2))
  unfold sdL
  omega
theorem sdDd_mem : ∀ (l : List SD) (x : SD), x ∈ sdDd l ↔ x ∈ l
  | [], x => Iff.rfl
  | [a], x => Iff.rfl
  | a :: b :: r, x => by
    have ih := sdDd_mem (b :: r) x
    show (x ∈ if a = b then sdDd (b :: r) else a :: sdDd (b :: r)) ↔ x ∈ a :: b :: r
    by_cases h : a = b
    · rw [if_pos h, ih, h]
      simp
    · rw [if_neg h, List.mem_cons, ih, List.mem_cons (a := x) (b := a)]
theorem sdDd_len : ∀ (l : List SD), (sdDd l).length ≤ l.length
  | [] => Nat.le_refl _
  | [a] => Nat.le_refl _
  | a :: b :: r => by
    have ih := sdDd_len (b :: r)
    show (if a = b then sdDd (b :: r) else a :: sdDd (b :: r)).length ≤ (a :: b :: r).length
    split
    · simp only [List.length_cons] at *
      omega
    · simp only [List.length_cons] at *
      omega
theorem sdDd_sorted : ∀ (l : List SD), l.Pairwise (fun a b => sdLe a b = true) → (sdDd l).Pairwise sdL
  | [], _ => .nil
  | [a], _ => List.pairwise_singleton _ _
  | a :: b :: r, h => by
    have h1 := List.pairwise_cons.1 h
    have ih := sdDd_sorted (b :: r) h1.2
    show (if a = b then sdDd (b :: r) else a :: sdDd (b :: r)).Pairwise sdL
    by_cases e : a = b
    · rw [if_pos e]
      exact ih
    · rw [if_neg e]
      refine List.pairwise_cons.2 ⟨fun x hx => ?_, ih⟩
      have hx := (sdDd_mem (b :: r) x).1 hx
      have hab := sdL_of (h1.1 b List.mem_cons_self) e
      rcases List.mem_cons.1 hx with rfl | hx
      · exact hab
      · have hbx := (List.pairwise_cons.1 h1.2).1 x hx
        unfold sdLe at hbx
        rw [decide_eq_true_eq] at hbx
        unfold sdL at *
        omega
theorem sdIn_of {x : S94} (h : dIn x) : sdIn x = true := decide_eq_true h
theorem sdTo_in (x : SD) : dIn (sdTo x) := by
  have h0 := x.1.isLt
  have h1 := x.2.isLt
  show (0 ≤ (x.1.val : Int) ∧ (x.1.val : Int) ≤ 127) ∧ (0 ≤ (x.2.val : Int) ∧ (x.2.val : Int) ≤ 127)
  omega
theorem sdTo_of' {x : S94} (h : dIn x) : sdTo (sdOf x) = x := by
  have h : (0 ≤ x.f0 ∧ x.f0 ≤ 127) ∧ (0 ≤ x.f1 ∧ x.f1 ≤ 127) := h
  show (⟨((x.f0.toNat % 128 : Nat) : Int), ((x.f1.toNat % 128 : Nat) : Int)⟩ : S94) = x
  have e0 : ((x.f0.toNat % 128 : Nat) : Int) = x.f0 := by omega
  have e1 : ((x.f1.toNat % 128 : Nat) : Int) = x.f1 := by omega
  rw [e0, e1]
/-- What 'arranged' gives: the same dependencies, in order, each once. -/
theorem arr_i (l : List S94) (hd : ∀ x ∈ l, dIn x) (hl : l.length ≤ 1048576) : ∃ r, impl_arranged.f l = some r ∧ dAll r = true ∧ (∀ x, x ∈ r ↔ x ∈ l) ∧ r.length ≤ l.length := by
  have hp := List.mergeSort_perm (l.map sdOf) sdLe
  have hs := List.pairwise_mergeSort sdLe_trans sdLe_total (l.map sdOf)
  refine ⟨(sdDd ((l.map sdOf).mergeSort sdLe)).map sdTo, ?_, ?_, fun x => ?_, ?_⟩
  · unfold impl_arranged.f
    rw [if_pos ⟨List.all_eq_true.2 (fun x hx => sdIn_of (hd x hx)), by omega⟩]
  · refine (dAll_iff _).2 ⟨fun x hx => ?_, ?_⟩
    · obtain ⟨y, _, rfl⟩ := List.mem_map.1 hx
      exact sdTo_in y
    · rw [List.pairwise_map]
      refine (sdDd_sorted _ hs).imp fun {a b} h => ?_
      show (a.1.val : Int) < (b.1.val : Int) ∨ ((a.1.val : Int) = (b.1.val : Int) ∧ (a.2.val : Int) < (b.2.val : Int))
      unfold sdL at h
      omega
  · rw [List.mem_map]
    constructor
    · rintro ⟨y, hy, rfl⟩
      rw [sdDd_mem, hp.mem_iff, List.mem_map] at hy
      obtain ⟨z, hz, rfl⟩ := hy
      rw [sdTo_of' (hd z hz)]
      exact hz
    · intro hx
      exact ⟨sdOf x, by rw [sdDd_mem, hp.mem_iff]; exact List.mem_map.2 ⟨x, hx, rfl⟩, sdTo_of' (hd x hx)⟩
  · rw [List.length_map]
    have := sdDd_len ((l.map sdOf).mergeSort sdLe)
    rw [hp.length_eq, List.length_map] at this
    exact this
/-- Valid dependencies are told by their members. -/
theorem dAll_ext : ∀ (l m : List S94), dAll l = true → dAll m = true → (∀ x, x ∈ l ↔ x ∈ m) → l = m := by
  have irr : ∀ a : S94, ¬ dLt a a := fun a => by unfold dLt; omega
  have asy : ∀ a b : S94, dLt a b → dLt b a → False := fun a b h k => by unfold dLt at *; omega
  have key : ∀ (l m : List S94), l.Pairwise dLt → m.Pairwise dLt → (∀ x, x ∈ l ↔ x ∈ m) → l = m := by
    intro l
    induction l with
    | nil =>
      intro m _ _ h
      cases m with
      | nil => rfl
      | cons b m => exact absurd ((h b).2 List.mem_cons_self) List.not_mem_nil
    | cons a l ih =>
      intro m hl hm h
      cases m with
      | nil => exact absurd ((h a).1 List.mem_cons_self) List.not_mem_nil
      | cons b m =>
        have hl' := List.pairwise_cons.1 hl
        have hm' := List.pairwise_cons.1 hm
        have e : a = b := by
          rcases List.mem_cons.1 ((h a).1 List.mem_cons_self) with e | h1
          · exact e
          · rcases List.mem_cons.1 ((h b).2 List.mem_cons_self) with e | h2
            · exact e.symm
            · exact (asy a b (hl'.1 b h2) (hm'.1 a h1)).elim
        subst e
        rw [ih m hl'.2 hm'.2 (fun x => ?_)]
        have hx := h x
        rw [List.mem_cons, List.mem_cons] at hx
        constructor
        · intro h1
          rcases hx.1 (Or.inr h1) with rfl | h2
          · exact absurd (hl'.1 x h1) (irr x)
          · exact h2
        · intro h1
          rcases hx.2 (Or.inr h1) with rfl | h2
          · exact absurd (hm'.1 x h1) (irr x)
          · exact h2
  exact fun l m hl hm h => key l m ((dAll_iff l).1 hl).2 ((dAll_iff m).1 hm).2 h

/-! ### depOfR -/
theorem walkGo_b (w h : Int) (br ps : List Int) (dst : Int) : ∀ (d : Nat) (acc : List Int) (x : Int), nodeOk w h x → (∀ c ∈ acc, 0 ≤ c ∧ c ≤ 63) → (∀ c ∈ walkGo w h br ps dst d acc x, 0 ≤ c ∧ c ≤ 63) ∧ (walkGo w h br ps dst d acc x).length ≤ acc.length + d
  | 0, acc, x, _, _ => ⟨fun c hc => (by cases hc), by simp [walkGo]⟩
  | d + 1, acc, x, hx, ha => by
    have hn := ncR_b w h
    have hx15 : 0 ≤ x ∧ x ≤ 15 := ⟨hx.1, by have := hx.2; omega⟩
    unfold walkGo
    generalize rd ps (x * ncR w h + dst) = p
    by_cases h4 : p = 4
    · rw [if_pos h4]
      split
      · exact ⟨ha, by omega⟩
      · exact ⟨fun c hc => (by cases hc), by simp⟩
    · rw [if_neg h4]
      split
      · rename_i hc
        have ih := walkGo_b w h br ps dst d (acc ++ [4 * x + p]) (nextR w h x p) (has_next hc.1 hc.2) (fun c hm => by
          rcases List.mem_append.1 hm with hm | hm
          · exact ha c hm
          · rw [List.mem_singleton.1 hm]
            have := hc.1
            omega)
        refine ⟨ih.1, ?_⟩
        have := ih.2
        rw [List.length_append, List.length_singleton] at this
        omega
      · exact ⟨fun c hc => (by cases hc), by simp⟩
theorem walkR_b (w h : Int) (br ps : List Int) (x dst : Int) (hx : nodeOk w h x) : (∀ c ∈ walkR w h br ps x dst, 0 ≤ c ∧ c ≤ 63) ∧ (walkR w h br ps x dst).length ≤ 17 := by
  have hn := ncR_b w h
  have h1 := walkGo_b w h br ps dst ((ncR w h).toNat + 1) [] x hx (fun c hc => by cases hc)
  refine ⟨h1.1, Nat.le_trans h1.2 ?_⟩
  simp only [List.length_nil]
  omega
theorem walkR_self (w h : Int) (br ps : List Int) (x : Int) (hd : rd ps (x * ncR w h + x) = 4) : walkR w h br ps x x = [] := by
  unfold walkR walkGo
  rw [if_pos hd, if_pos rfl]
def stepD (ws : List Int) (t : Nat) : S94 := ⟨rd ws (t : Int), rd ws ((t + 1 : Nat) : Int)⟩
def stepL (ws : List Int) : List S94 := (List.range (ws.length - 1)).map (stepD ws)
theorem stepL_len (ws : List Int) : (stepL ws).length = ws.length - 1 := by
  unfold stepL
  rw [List.length_map, List.length_range]
theorem rdN_mem {ws : List Int} {i : Nat} (h : i < ws.length) : rd ws (i : Int) ∈ ws := by
  have e : rd ws (i : Int) = ws[i] := by
    show ws.getD (i : Int).toNat _ = _
    rw [Int.toNat_natCast, List.getD_eq_getElem?_getD, List.getElem?_eq_getElem h]
    rfl
  rw [e]
  exact List.getElem_mem h
theorem stepL_in {ws : List Int} (hc : ∀ c ∈ ws, 0 ≤ c ∧ c ≤ 63) : ∀ x ∈ stepL ws, (0 ≤ x.f0 ∧ x.f0 ≤ 63) ∧ (0 ≤ x.f1 ∧ x.f1 ≤ 63) := by
  intro x hx
  unfold stepL at hx
  obtain ⟨t, ht, rfl⟩ := List.mem_map.1 hx
  rw [List.mem_range] at ht
  exact ⟨hc _ (rdN_mem (by omega)), hc _ (rdN_mem (by omega))⟩
def depTo (w h : Int) (br ps : List Int) (n m : Nat) : List S94 := (List.range m).flatMap fun i => stepL (walkR w h br ps ((i / n : Nat) : Int) ((i % n : Nat) : Int))
theorem depTo_succ (w h : Int) (br ps : List Int) (n m : Nat) : depTo w h br ps n (m + 1) = depTo w h br ps n m ++ stepL (walkR w h br ps ((m / n : Nat) : Int) ((m % n : Nat) : Int)) := by
  unfold depTo
  rw [List.range_succ, List.flatMap_append]
  simp
theorem node_of {w h : Int} {n i : Nat} (hn : (n : Int) = ncR w h) (hi : i < n * n) : nodeOk w h ((i / n : Nat) : Int) ∧ nodeOk w h ((i % n : Nat) : Int) := by
  have h0 : 0 < n := Nat.pos_of_ne_zero (fun e => by subst e; omega)
  have h1 : i / n < n := Nat.div_lt_of_lt_mul hi
  have h2 : i % n < n := Nat.mod_lt _ h0
  generalize i / n = q at h1 ⊢
  generalize i % n = s at h2 ⊢
  exact ⟨⟨by omega, by omega⟩, ⟨by omega, by omega⟩⟩
theorem depTo_len (w h : Int) (br ps : List Int) (n : Nat) (hn : (n : Int) = ncR w h) : ∀ m : Nat, m ≤ n * n → (depTo w h br ps n m).length ≤ 16 * m
  | 0, _ => by simp [depTo]
  | m + 1, hm => by
    have ih := depTo_len w h br ps n hn m (by omega)
    have h1 := (walkR_b w h br ps ((m / n : Nat) : Int) ((m % n : Nat) : Int) (node_of hn (by omega)).1).2
    have h2 := stepL_len (walkR w h br ps ((m / n : Nat) : Int) ((m % n : Nat) : Int))
    rw [depTo_succ, List.length_append]
    omega
theorem depTo_in (w h : Int) (br ps : List Int) (n : Nat) (hn : (n : Int) = ncR w h) (m : Nat) (hm : m ≤ n * n) : ∀ x ∈ depTo w h br ps n m, (0 ≤ x.f0 ∧ x.f0 ≤ 63) ∧ (0 ≤ x.f1 ∧ x.f1 ≤ 63) := by
  intro x hx
  unfold depTo at hx
  obtain ⟨i, hi, hi2⟩ := List.mem_flatMap.1 hx
  rw [List.mem_range] at hi
  exact stepL_in (walkR_b w h br ps _ _ (node_of hn (by omega)).1).1 x hi2

/-! ### contains -/
theorem Index_l0 (x : Int) : ∀ (rest pre : List Int), pre.length + rest.length < 1152921504606846976 → ∃ r, Ev (fun k => slices_Index_int_int.l0 k (pre ++ rest) x ((pre ++ rest).length : Int) (pre.length : Int)) r ∧ (r ≥ 0 ↔ x ∈ rest)
  | [], pre, _ => by
    refine ⟨-1, Ev.suc ?_, by simp⟩
    simp only [slices_Index_int_int.l0]
    exact Ev.ite_neg (by simp) (Ev.now _)
  | y :: rest, pre, hl => by
    simp only [List.length_cons] at hl
    have h1 : (pre.length : Int) < ((pre ++ y :: rest).length : Int) := by simp only [List.length_append, List.length_cons]; omega
    have hw : wrap64 ((pre.length : Int) + 1) = ((pre ++ [y]).length : Int) := by rw [w64 (by omega) (by omega), len_snoc]
    obtain ⟨r, hr, hr2⟩ := Index_l0 x rest (pre ++ [y]) (by simp only [List.length_append, List.length_cons, List.length_nil]; omega)
    rw [← snoc_app pre y rest] at hr
    by_cases h : x = y
    · refine ⟨(pre.length : Int), Ev.suc ?_, by simp [h]⟩
      simp only [slices_Index_int_int.l0, rd_mid]
      exact Ev.ite_pos h1 (Ev.ite_pos (by omega) (Ev.ite_pos h1 (Ev.ite_pos h (Ev.now _))))
    · refine ⟨r, Ev.suc ?_, by simp [h, hr2]⟩
      simp only [slices_Index_int_int.l0, rd_mid, hw]
      exact Ev.ite_pos h1 (Ev.ite_pos (by omega) (Ev.ite_pos h1 (Ev.ite_neg h hr)))
theorem Contains_i (l : List Int) (x : Int) (h : l.length < 1152921504606846976) : Ev (fun k => slices_Contains_int_int.f k l x) (decide (x ∈ l)) := by
  obtain ⟨r, hr, hr2⟩ := Index_l0 x l [] (by simpa using h)
  unfold slices_Contains_int_int.f slices_Index_int_int.f
  refine Ev.bind hr (Ev.val ?_)
  rw [decide_eq_decide]
  exact hr2

/-! ### MeshOk_i -/
theorem MeshOk_i_l0 (w h : Int) : ∀ (rest pre : List Int) (y : Int), pre.length + rest.length < 1152921504606846976 → Ev (fun k => impl_MeshOk.l0 k ((pre ++ [y]) ++ rest) (((pre ++ [y]) ++ rest).length : Int) (((pre ++ [y])).length : Int) w h ((pre ++ [y]) ++ rest)) ((brR w h (some y) rest) && decide (gOk w h))
  | [], pre, y, hl => by
    refine Ev.suc ?_
    simp only [impl_MeshOk.l0]
    refine Ev.ite_neg (by simp) ?_
    exact Ev.bindS (GridOk_i w h) (Ev.val (by simp [brR]))
  | x :: rest, pre, y, hl => by
    simp only [List.length_cons] at hl
    have hp : (pre ++ [y]).length = pre.length + 1 := by simp
    have h1 : ((pre ++ [y]).length : Int) < ((pre ++ [y] ++ x :: rest).length : Int) := by simp only [List.length_append, List.length_cons, List.length_nil]; omega
    have hw : wrap64 (((pre ++ [y]).length : Int) + 1) = ((pre ++ [y] ++ [x]).length : Int) := by rw [w64 (by omega) (by omega)]; exact (len_snoc _ _).symm
    have hv : wrap64 (((pre ++ [y]).length : Int) - 1) = ((pre ++ [y]).length : Int) - 1 := w64 (by omega) (by omega)
    have e1 : rd (pre ++ [y] ++ x :: rest) (((pre ++ [y]).length : Int) - 1) = y := rd_app_last pre y (x :: rest)
    have e2 : rd (pre ++ [y] ++ x :: rest) ((pre ++ [y]).length : Int) = x := rd_mid _ _ _
    have ih := MeshOk_i_l0 w h rest (pre ++ [y]) x (by omega)
    rw [← snoc_app (pre ++ [y]) x rest] at ih
    refine Ev.suc ?_
    simp only [impl_MeshOk.l0, e1, e2, hw, hv, leads_i, Option.bind_some]
    refine Ev.ite_pos h1 (Ev.ite_pos (by omega) (Ev.ite_pos h1 (Ev.ite (fun hlx => ?_) (fun hlx => Ev.val ?_))))
    · refine Ev.ite_pos (by omega) (Ev.ite_pos (by omega) (Ev.ite_pos (by omega) (Ev.ite (fun hc => Ev.val ?_) (fun hc => Ev.eq ih ?_))))
      · have hc' : ¬ y < x := by omega
        simp [brR, hc']
      · have hc' : y < x := by omega
        simp [brR, hlx, hc']
    · simp [brR, hlx]
theorem MeshOk_i (w h : Int) (br : List Int) (hl : br.length < 1152921504606846976) : Ev (fun k => impl_MeshOk.f k w h br) (meshR w h br) := by
  unfold impl_MeshOk.f meshR
  skip
  cases br with
  | nil =>
    refine Ev.suc ?_
    simp only [impl_MeshOk.l0]
    refine Ev.ite_neg (by simp) ?_
    exact Ev.bindS (GridOk_i w h) (Ev.val (by simp [brR]))
  | cons x rest =>
    simp only [List.length_cons] at hl
    have z := MeshOk_i_l0 w h rest [] x (by simp; omega)
    have hw : wrap64 ((0 : Int) + 1) = ((([] : List Int) ++ [x]).length : Int) := by rw [w64 (by omega) (by omega)]; rfl
    have e2 : rd (x :: rest) 0 = x := rfl
    have h1 : (0 : Int) < ((x :: rest).length : Int) := by simp only [List.length_cons]; omega
    refine Ev.suc ?_
    simp only [impl_MeshOk.l0, e2, hw, leads_i, Option.bind_some]
    refine Ev.ite_pos h1 (Ev.ite_pos (by omega) (Ev.ite_pos h1 (Ev.ite (fun hlx => Ev.ite_neg (by omega) (Ev.eq z ?_)) (fun hlx => Ev.val ?_))))
    · rw [Bool.and_comm]; simp [brR, hlx]
    · simp [brR, hlx]

/-! ### hasCh_i -/
theorem HasChannel_i (w h : Int) (br : List Int) (c : Int) (hl : br.length < 1152921504606846976) : Ev (fun k => impl_HasChannel.f k w h br c) (meshR w h br && hasR w h br c) := by
  unfold impl_HasChannel.f hasR
  refine Ev.bind (MeshOk_i w h br hl) (Ev.ite (fun h0 => ?_) (fun h0 => Ev.val (by simp [h0])))
  refine Ev.bindS (leads_i w h c) (Ev.ite (fun h1 => ?_) (fun h1 => Ev.val (by simp [h1])))
  exact Ev.bind (Contains_i br c hl) (Ev.val (by simp [h0, h1]))

/-! ### walk_i -/
theorem PortAt_i (w h : Int) (br ps : List Int) (x dst : Int) (hbr : br.length < 1152921504606846976) (hm : meshR w h br = true) (hps : (ps.length : Int) = ncR w h * ncR w h) (hx : nodeOk w h x) (hd : nodeOk w h dst) :
    Ev (fun k => impl_PortAt.f k w h br ps x dst) (if 0 ≤ rd ps (x * ncR w h + dst) ∧ rd ps (x * ncR w h + dst) ≤ 4 then rd ps (x * ncR w h + dst) else -1) := by
  have hn := ncR_b w h
  have hb := idx_b hn hx hd
  obtain ⟨e1, e2⟩ := idx_w hn hx hd
  have hin1 : 0 ≤ x * ncR w h + dst := by
    have := hd.1
    omega
  have hin2 : x * ncR w h + dst < (ps.length : Int) := by
    rw [hps]
    exact hb.2.2.1
  have e3 : wrap64 (ncR w h - 1) = ncR w h - 1 := w64 (by omega) (by omega)
  unfold impl_PortAt.f
  refine Ev.bindS (NodeCount_i w h) (Ev.bind (MeshOk_i w h br hbr) (Ev.ite_pos hm ?_))
  simp only [inside_f, e1, e2, e3, Option.bind_some, decide_eq_true_eq]
  refine Ev.ite_pos hx (Ev.ite_pos hd (Ev.ite_pos hps (Ev.ite_pos hin1 (Ev.ite_pos hin2 (Ev.ite (fun hp => Ev.val ?_) (fun hp => Ev.val ?_))))))
  · rw [if_pos hp]
  · rw [if_neg hp]
theorem endOf_i (w h : Int) (br : List Int) (x p : Int) (hx : 0 ≤ x ∧ x ≤ 15) (hp : 0 ≤ p ∧ p ≤ 3) : impl_endOf.f w h br (4 * x + p) = some (nextR w h x p) := by
  obtain ⟨e1, e2⟩ := ch_div (x := x) hp
  unfold impl_endOf.f
  rw [Int.tdiv_eq_ediv_of_nonneg (by omega), Int.tmod_eq_emod_of_nonneg (by omega), e1, e2, w64 (x := x) (by omega) (by omega), NextNode_i]
  rfl
theorem WalkTable_l0 (w h : Int) (br ps : List Int) (dst : Int) (hbr : br.length < 1152921504606846976) (hm : meshR w h br = true) (hps : (ps.length : Int) = ncR w h * ncR w h) (hd : nodeOk w h dst) : ∀ (d : Nat) (acc : List Int) (x : Int), nodeOk w h x → (acc.length : Int) + d = ncR w h →
    Ev (fun k => impl_WalkTable.l0 k dst acc x w h br ps) (walkGo w h br ps dst (d + 1) acc x)
  | d, acc, x, hx, hl => by
    have hn := ncR_b w h
    have hx15 : 0 ≤ x ∧ x ≤ 15 := ⟨hx.1, by have := hx.2; omega⟩
    refine Ev.suc ?_
    simp only [impl_WalkTable.l0]
    refine Ev.bind (PortAt_i w h br ps x dst hbr hm hps hx hd) ?_
    have hz := walkGo_zero w h br ps dst acc x
    unfold walkGo
    have hacc : acc.length < 17592186044416 := by omega
    generalize rd ps (x * ncR w h + dst) = p at *
    by_cases h4 : p = 4
    · subst h4
      simp only [show (0 : Int) ≤ 4 ∧ (4 : Int) ≤ 4 from by omega, and_self, if_true]
      refine Ev.ite_neg (by omega) (Ev.ite (fun h5 => Ev.val ?_) (fun h5 => Ev.val ?_))
      · rw [if_pos h5]
      · rw [if_neg h5]
    · rw [if_neg h4]
      by_cases hp : 0 ≤ p ∧ p ≤ 3
      · have e3 : wrap64 (wrap64 (4 * x) + p) = 4 * x + p := by rw [w64 (x := 4 * x) (by omega) (by omega), w64 (by omega) (by omega)]
        rw [if_pos (show 0 ≤ p ∧ p ≤ 4 by omega)]
        simp only [e3]
        refine Ev.ite_neg (by omega) (Ev.ite_neg h4 (Ev.bind (HasChannel_i w h br (4 * x + p) hbr) ?_))
        rw [hm, Bool.true_and]
        refine Ev.ite (fun hh => Ev.bindS (NodeCount_i w h) ?_) (fun hh => Ev.val ?_)
        · rw [if_pos ⟨hp, hh⟩]
          cases d with
          | zero => exact Ev.ite_pos (by omega) (Ev.val rfl)
          | succ d =>
            refine Ev.ite_neg (by omega) (Ev.ite_pos hacc (Ev.bindS (endOf_i w h br x p hx15 hp) ?_))
            exact WalkTable_l0 w h br ps dst hbr hm hps hd d _ _ (has_next hp hh) (by simp only [List.length_append, List.length_cons, List.length_nil]; omega)
        · rw [if_neg (fun z => hh z.2)]
      · rw [if_neg (show ¬ (0 ≤ p ∧ p ≤ 4) by omega), if_neg (show ¬ ((0 ≤ p ∧ p ≤ 3) ∧ hasR w h br (4 * x + p) = true) from fun z => hp z.1)]
        exact Ev.ite_pos (by omega) (Ev.now _)
theorem WalkTable_i (w h : Int) (br ps : List Int) (x dst : Int) (hbr : br.length < 1152921504606846976) (hm : meshR w h br = true) (hps : (ps.length : Int) = ncR w h * ncR w h) (hx : nodeOk w h x) (hd : nodeOk w h dst) (hne : ¬ x = dst) :
    Ev (fun k => impl_WalkTable.f k w h br ps x dst) (walkR w h br ps x dst) := by
  unfold impl_WalkTable.f walkR
  have hn := ncR_b w h
  refine Ev.ite_neg hne (Ev.bind (MeshOk_i w h br hbr) (Ev.ite_pos hm ?_))
  simp only [isNode_i, Option.bind_some, decide_eq_true hx, decide_eq_true hd]
  refine Ev.ite_pos trivial ?_
  refine Ev.suc ?_
  simp only [impl_WalkTable.j0]
  refine Ev.ite_neg (by simp) ?_
  exact WalkTable_l0 w h br ps dst hbr hm hps hd _ [] x hx (by simp only [List.length_nil]; omega)

/-! ### TableOk_i -/
theorem TableOk_v (w h : Int) (br ps : List Int) (x y : Int) (hbr : br.length < 1152921504606846976) (hm : meshR w h br = true) (hps : (ps.length : Int) = ncR w h * ncR w h) (hx : nodeOk w h x) (hy : nodeOk w h y) (hne : ¬ x = y) :
    Ev (fun k => impl_TableOk.v k w h br ps x y) (decide (walkR w h br ps x y ≠ [])) := by
  unfold impl_TableOk.v
  refine Ev.bind (WalkTable_i w h br ps x y hbr hm hps hx hy hne) (Ev.val ?_)
  rw [decide_eq_decide]
  cases walkR w h br ps x y with
  | nil => simp
  | cons a l => simp
/-- One row of pairs, then what follows. -/
theorem TableOk_l2 (w h : Int) (br ps : List Int) (hbr : br.length < 1152921504606846976) (hm : meshR w h br = true) (hps : (ps.length : Int) = ncR w h * ncR w h) (n : Nat) (hn : (n : Int) = ncR w h) (x : Nat) (hx : x < n) (P : Prop)
    (hR : ∃ b, Ev (fun k => impl_TableOk.l1 k w h br ps (n : Int) ((x + 1 : Nat) : Int)) b ∧ (b = true ↔ P)) : ∀ (d y : Nat), y + d = n →
    ∃ b, Ev (fun k => impl_TableOk.l2 k w h br ps (n : Int) (x : Int) (y : Int)) b ∧ (b = true ↔ (∀ y' : Nat, y ≤ y' → y' < n → x ≠ y' → walkR w h br ps (x : Int) (y' : Int) ≠ []) ∧ P)
  | 0, y, hd => by
    obtain ⟨b, hb, hb2⟩ := hR
    have hnb := ncR_b w h
    refine ⟨b, Ev.suc ?_, ?_⟩
    · simp only [impl_TableOk.l2]
      refine Ev.ite_neg (by omega) ?_
      have e : wrap64 ((x : Int) + 1) = ((x + 1 : Nat) : Int) := by rw [w64 (by omega) (by omega)]; omega
      rw [e]
      exact hb
    · rw [hb2]
      exact ⟨fun hp => ⟨fun y' h1 h2 => absurd h2 (by omega), hp⟩, fun hp => hp.2⟩
  | d + 1, y, hd => by
    obtain ⟨b, hb, hb2⟩ := TableOk_l2 w h br ps hbr hm hps n hn x hx P hR d (y + 1) (by omega)
    have hnb := ncR_b w h
    have e : wrap64 ((y : Int) + 1) = ((y + 1 : Nat) : Int) := by rw [w64 (by omega) (by omega)]; omega
    by_cases hxy : x = y
    · refine ⟨b, Ev.suc ?_, ?_⟩
      · simp only [impl_TableOk.l2, e]
        exact Ev.ite_pos (by omega) (Ev.ite_pos (by omega) hb)
      · rw [hb2]
        refine ⟨fun hp => ⟨fun y' h1 h2 h3 => hp.1 y' (by omega) h2 h3, hp.2⟩, fun hp => ⟨fun y' h1 h2 h3 => hp.1 y' (by omega) h2 h3, hp.2⟩⟩
    · have hv := TableOk_v w h br ps (x : Int) (y : Int) hbr hm hps ⟨by omega, by omega⟩ ⟨by omega, by omega⟩ (by omega)
      by_cases hw : walkR w h br ps (x : Int) (y : Int) = []
      · refine ⟨false, Ev.suc ?_, ?_⟩
        · simp only [impl_TableOk.l2, e]
          refine Ev.ite_pos (by omega) (Ev.ite_neg (by omega) (Ev.bind hv (Ev.ite_neg (by simp [hw]) (Ev.now _))))
        · refine ⟨fun z => absurd z Bool.false_ne_true, fun hp => absurd hw (hp.1 y (Nat.le_refl _) (by omega) hxy)⟩
      · refine ⟨b, Ev.suc ?_, ?_⟩
        · simp only [impl_TableOk.l2, e]
          exact Ev.ite_pos (by omega) (Ev.ite_neg (by omega) (Ev.bind hv (Ev.ite_pos (by simp [hw]) hb)))
        · rw [hb2]
          refine ⟨fun hp => ⟨fun y' h1 h2 h3 => ?_, hp.2⟩, fun hp => ⟨fun y' h1 h2 h3 => hp.1 y' (by omega) h2 h3, hp.2⟩⟩
          by_cases hy : y' = y
          · rw [hy]
            exact hw
          · exact hp.1 y' (by omega) h2 h3
theorem TableOk_l1 (w h : Int) (br ps : List Int) (hbr : br.length < 1152921504606846976) (hm : meshR w h br = true) (hps : (ps.length : Int) = ncR w h * ncR w h) (n : Nat) (hn : (n : Int) = ncR w h) : ∀ (d x : Nat), x + d = n →
    ∃ b, Ev (fun k => impl_TableOk.l1 k w h br ps (n : Int) (x : Int)) b ∧ (b = true ↔ ∀ x' y' : Nat, x ≤ x' → x' < n → y' < n → x' ≠ y' → walkR w h br ps (x' : Int) (y' : Int) ≠ [])
  | 0, x, hd => by
    refine ⟨true, Ev.suc ?_, ?_⟩
    · simp only [impl_TableOk.l1]
      exact Ev.ite_neg (by omega) (Ev.now _)
    · exact ⟨fun _ x' y' h1 h2 => absurd h2 (by omega), fun _ => rfl⟩
  | d + 1, x, hd => by
    obtain ⟨b, hb, hb2⟩ := TableOk_l2 w h br ps hbr hm hps n hn x (by omega) _ (TableOk_l1 w h br ps hbr hm hps n hn d (x + 1) (by omega)) n 0 (by omega)
    refine ⟨b, Ev.suc ?_, ?_⟩
    · simp only [impl_TableOk.l1]
      exact Ev.ite_pos (by omega) hb
    · rw [hb2]
      refine ⟨fun hp x' y' h1 h2 h3 h4 => ?_, fun hp => ⟨fun y' h1 h2 h3 => hp x y' (Nat.le_refl _) (by omega) h2 h3, fun x' y' h1 h2 h3 h4 => hp x' y' (by omega) h2 h3 h4⟩⟩
      by_cases hx : x' = x
      · subst hx
        exact hp.1 y' (Nat.zero_le _) h3 h4
      · exact hp.2 x' y' (by omega) h2 h3 h4
theorem TableOk_l0 (w h : Int) (br ps : List Int) (hbr : br.length < 1152921504606846976) (hm : meshR w h br = true) (hps : (ps.length : Int) = ncR w h * ncR w h) (n : Nat) (hn : (n : Int) = ncR w h) : ∀ (d x : Nat), x + d = n →
    ∃ b, Ev (fun k => impl_TableOk.l0 k w h br ps (n : Int) (x : Int)) b ∧ (b = true ↔ (∀ x' : Nat, x ≤ x' → x' < n → rd ps ((x' : Int) * ncR w h + (x' : Int)) = 4) ∧ walksOk w h br ps)
  | 0, x, hd => by
    obtain ⟨b, hb, hb2⟩ := TableOk_l1 w h br ps hbr hm hps n hn n 0 (by omega)
    refine ⟨b, Ev.suc ?_, ?_⟩
    · simp only [impl_TableOk.l0]
      refine Ev.ite_neg (by omega) ?_
      unfold impl_TableOk.ps
      refine Ev.bindS (NodeCount_i w h) ?_
      rw [← hn]
      exact hb
    · rw [hb2]
      unfold walksOk
      rw [← hn]
      exact ⟨fun hp => ⟨fun x' h1 h2 => absurd h2 (by omega), fun x' y' h1 h2 h3 => hp x' y' (Nat.zero_le _) (by omega) (by omega) h3⟩, fun hp x' y' _ h2 h3 h4 => hp.2 x' y' (by omega) (by omega) h4⟩
  | d + 1, x, hd => by
    obtain ⟨b, hb, hb2⟩ := TableOk_l0 w h br ps hbr hm hps n hn d (x + 1) (by omega)
    have hnb := ncR_b w h
    have hxn : 0 ≤ (x : Int) ∧ (x : Int) ≤ ncR w h - 1 := by omega
    have e : wrap64 ((x : Int) + 1) = ((x + 1 : Nat) : Int) := by rw [w64 (by omega) (by omega)]; omega
    have hi := idx_b hnb hxn hxn
    have hi0 : 0 ≤ (x : Int) * ncR w h + (x : Int) := by omega
    have hi1 : (x : Int) * ncR w h + (x : Int) < (ps.length : Int) := by
      rw [hps]
      exact hi.2.2.1
    have ew := (idx_w hnb hxn hxn).1
    have hlt : (x : Int) < (n : Int) := by omega
    by_cases h4 : rd ps ((x : Int) * ncR w h + (x : Int)) = 4
    · refine ⟨b, Ev.suc ?_, ?_⟩
      · rw [hn] at hb hlt ⊢
        simp only [impl_TableOk.l0, ew, e]
        exact Ev.ite_pos hlt (Ev.ite_pos hi0 (Ev.ite_pos hi1 (Ev.ite_pos h4 hb)))
      · rw [hb2]
        clear hi hi0 hi1 ew
        refine ⟨fun hp => ⟨fun x' h1 h2 => ?_, hp.2⟩, fun hp => ⟨fun x' h1 h2 => hp.1 x' (by omega) h2, hp.2⟩⟩
        by_cases hx : x' = x
        · rw [hx]
          exact h4
        · exact hp.1 x' (by omega) h2
    · refine ⟨false, Ev.suc ?_, ?_⟩
      · rw [hn] at hlt ⊢
        simp only [impl_TableOk.l0, ew, e]
        exact Ev.ite_pos hlt (Ev.ite_pos hi0 (Ev.ite_pos hi1 (Ev.ite_neg h4 (Ev.now _))))
      · exact ⟨fun z => absurd z Bool.false_ne_true, fun hp => absurd (hp.1 x (Nat.le_refl _) (by omega)) h4⟩
theorem TableOk_i (w h : Int) (br ps : List Int) (hbr : br.length < 1152921504606846976) : ∃ b, Ev (fun k => impl_TableOk.f k w h br ps) b ∧ (b = true ↔ tableOk w h br ps) := by
  have hnb := ncR_b w h
  unfold impl_TableOk.f tableOk
  by_cases hm : meshR w h br = true
  · have hsq : wrap64 (ncR w h * ncR w h) = ncR w h * ncR w h := by
      have h3 : ncR w h * ncR w h ≤ 16 * ncR w h := Int.mul_le_mul_of_nonneg_right hnb.2 hnb.1
      have h4 : 0 ≤ ncR w h * ncR w h := Int.mul_nonneg hnb.1 hnb.1
      generalize ncR w h * ncR w h = q at *
      exact w64 (by omega) (by omega)
    by_cases hps : (ps.length : Int) = ncR w h * ncR w h
    · obtain ⟨n, hn⟩ : ∃ n : Nat, (n : Int) = ncR w h := ⟨(ncR w h).toNat, by omega⟩
      obtain ⟨b, hb, hb2⟩ := TableOk_l0 w h br ps hbr hm hps n hn n 0 (by omega)
      refine ⟨b, ?_, ?_⟩
      · refine Ev.bindS (NodeCount_i w h) (Ev.bind (MeshOk_i w h br hbr) (Ev.ite_pos hm (Ev.ite_pos (by rw [hsq]; exact hps) ?_)))
        rw [← hn]
        exact hb
      · rw [hb2]
        unfold diagOk
        exact ⟨fun hp => ⟨hm, hps, fun x hx => hp.1 x (Nat.zero_le _) (by omega), hp.2⟩, fun hp => ⟨fun x _ hx => hp.2.2.1 x (by omega), hp.2.2.2⟩⟩
    · refine ⟨false, ?_, ⟨fun z => absurd z Bool.false_ne_true, fun hp => absurd hp.2.1 hps⟩⟩
      exact Ev.bindS (NodeCount_i w h) (Ev.bind (MeshOk_i w h br hbr) (Ev.ite_pos hm (Ev.ite_neg (by rw [hsq]; exact hps) (Ev.now _))))
  · refine ⟨false, ?_, ⟨fun z => absurd z Bool.false_ne_true, fun hp => absurd hp.1 hm⟩⟩
    exact Ev.bindS (NodeCount_i w h) (Ev.bind (MeshOk_i w h br hbr) (Ev.ite_neg hm (Ev.now _)))

/-! ### depOf_i -/
theorem di_l3 (ws : List Int) (hl : ws.length ≤ 17) (o : List S94) (ho : o.length ≤ 5000) : ∀ d t : Nat, t + d = ws.length - 1 → Ev (fun k => impl_DependsOf.l3 k ws ((t + 1 : Nat) : Int) (o ++ (List.range t).map (stepD ws))) (o ++ stepL ws)
  | 0, t, h => by
    have e : t = ws.length - 1 := by omega
    refine Ev.suc ?_
    simp only [impl_DependsOf.l3]
    refine Ev.ite_neg (by omega) ?_
    rw [e]
    exact Ev.now _
  | d + 1, t, h => by
    have hw : wrap64 (((t + 1 : Nat) : Int) - 1) = (t : Int) := by rw [w64 (by omega) (by omega)]; omega
    have hn : wrap64 (((t + 1 : Nat) : Int) + 1) = ((t + 1 + 1 : Nat) : Int) := by rw [w64 (by omega) (by omega)]; omega
    have ih := di_l3 ws hl o ho d (t + 1) (by omega)
    have hlen : (o ++ (List.range t).map (stepD ws)).length < 8796093022208 := by
      rw [List.length_append, List.length_map, List.length_range]
      omega
    refine Ev.suc ?_
    simp only [impl_DependsOf.l3, hw, hn]
    refine Ev.ite_pos (by omega) (Ev.ite_pos (by omega) (Ev.ite_pos (by omega) (Ev.ite_pos (by omega) (Ev.ite_pos hlen ?_))))
    rw [List.range_succ, List.map_append, ← List.append_assoc] at ih
    exact ih
theorem di_v (w h : Int) (br ps : List Int) (x y : Int) (o : List S94) (ho : o.length ≤ 5000) (hbr : br.length < 1152921504606846976) (hm : meshR w h br = true) (hps : (ps.length : Int) = ncR w h * ncR w h) (hx : nodeOk w h x) (hy : nodeOk w h y) (hne : ¬ x = y) :
    Ev (fun k => impl_DependsOf.v k w h br ps x y o) (o ++ stepL (walkR w h br ps x y)) := by
  have h3 := di_l3 (walkR w h br ps x y) (walkR_b w h br ps x y hx).2 o ho _ 0 (Nat.zero_add _)
  rw [List.range_zero, List.map_nil, List.append_nil] at h3
  unfold impl_DependsOf.v
  exact Ev.bind (WalkTable_i w h br ps x y hbr hm hps hx hy hne) h3
theorem di_l2 (w h : Int) (br ps : List Int) (hbr : br.length < 1152921504606846976) (ht : tableOk w h br ps) (n : Nat) (hn : (n : Int) = ncR w h) (x : Nat) (hx : x < n) (r : List S94)
    (H : Ev (fun k => impl_DependsOf.l1 k w h br ps (n : Int) ((x + 1 : Nat) : Int) (depTo w h br ps n (x * n + n))) r) : ∀ d y : Nat, y + d = n → Ev (fun k => impl_DependsOf.l2 k w h br ps (n : Int) (x : Int) (y : Int) (depTo w h br ps n (x * n + y))) r
  | 0, y, h0 => by
    have hnb := ncR_b w h
    have e : y = n := by omega
    have hw : wrap64 ((x : Int) + 1) = ((x + 1 : Nat) : Int) := by rw [w64 (by omega) (by omega)]; omega
    refine Ev.suc ?_
    simp only [impl_DependsOf.l2, hw]
    refine Ev.ite_neg (by omega) ?_
    rw [e]
    exact H
  | d + 1, y, h0 => by
    have hnb := ncR_b w h
    have ih := di_l2 w h br ps hbr ht n hn x hx r H d (y + 1) (by omega)
    have hw : wrap64 ((y : Int) + 1) = ((y + 1 : Nat) : Int) := by rw [w64 (by omega) (by omega)]; omega
    have e1 : (x * n + y) / n = x := by rw [Nat.add_comm, Nat.add_mul_div_right y x (by omega), Nat.div_eq_of_lt (by omega), Nat.zero_add]
    have e2 : (x * n + y) % n = y := by rw [Nat.add_comm, Nat.add_mul_mod_self_right, Nat.mod_eq_of_lt (by omega)]
    have es : depTo w h br ps n (x * n + (y + 1)) = depTo w h br ps n (x * n + y) ++ stepL (walkR w h br ps (x : Int) (y : Int)) := by
      rw [← Nat.add_assoc, depTo_succ, e1, e2]
    have hq : x * n ≤ 15 * 16 := Nat.mul_le_mul (by omega) (by omega)
    have hq2 : x * n + n ≤ n * n := by
      have := Nat.mul_le_mul_right n (show x + 1 ≤ n by omega)
      rw [Nat.add_mul, Nat.one_mul] at this
      exact this
    have hlen := depTo_len w h br ps n hn (x * n + y) (by omega)
    rw [es, ← hw] at ih
    refine Ev.suc ?_
    simp only [impl_DependsOf.l2]
    refine Ev.ite_pos (by omega) ?_
    by_cases hxy : x = y
    · subst hxy
      refine Ev.ite_pos rfl ?_
      rw [walkR_self w h br ps (x : Int) (ht.2.2.1 x (by omega)), show stepL [] = [] from rfl, List.append_nil] at ih
      exact ih
    · refine Ev.ite_neg (by omega) (Ev.bind (di_v w h br ps (x : Int) (y : Int) _ (by omega) hbr ht.1 ht.2.1 ⟨by omega, by omega⟩ ⟨by omega, by omega⟩ (by omega)) ih)
theorem di_l1 (w h : Int) (br ps : List Int) (hbr : br.length < 1152921504606846976) (ht : tableOk w h br ps) (n : Nat) (hn : (n : Int) = ncR w h) : ∀ d x : Nat, x + d = n → Ev (fun k => impl_DependsOf.l1 k w h br ps (n : Int) (x : Int) (depTo w h br ps n (x * n))) (depTo w h br ps n (n * n))
  | 0, x, h0 => by
    have e : x = n := by omega
    subst e
    refine Ev.suc ?_
    simp only [impl_DependsOf.l1]
    exact Ev.ite_neg (by omega) (Ev.now _)
  | d + 1, x, h0 => by
    have ih := di_l1 w h br ps hbr ht n hn d (x + 1) (by omega)
    rw [Nat.add_mul, Nat.one_mul] at ih
    have h1 := di_l2 w h br ps hbr ht n hn x (by omega) _ ih n 0 (Nat.zero_add _)
    refine Ev.suc ?_
    simp only [impl_DependsOf.l1]
    exact Ev.ite_pos (by omega) h1
/-- The dependencies of a table, for the program. -/
theorem depOf_i (w h : Int) (br ps : List Int) (hbr : br.length < 1152921504606846976) : ∃ r, dAll r = true ∧ r.length ≤ 4096 ∧ Ev (fun k => impl_DependsOf.f k w h br ps) r ∧ (¬ tableOk w h br ps → r = []) ∧ (tableOk w h br ps → ∀ n : Nat, (n : Int) = ncR w h → ∀ y, y ∈ r ↔ y ∈ depTo w h br ps n (n * n)) := by
  obtain ⟨b, hb, hb2⟩ := TableOk_i w h br ps hbr
  have hnb := ncR_b w h
  unfold impl_DependsOf.f
  by_cases ht : tableOk w h br ps
  · obtain ⟨n, hn⟩ : ∃ n : Nat, (n : Int) = ncR w h := ⟨(ncR w h).toNat, by omega⟩
    have hq : n * n ≤ 16 * 16 := Nat.mul_le_mul (by omega) (by omega)
    have hlen := depTo_len w h br ps n hn (n * n) (Nat.le_refl _)
    have hin := depTo_in w h br ps n hn (n * n) (Nat.le_refl _)
    obtain ⟨r, hr, h1, h2, h3⟩ := arr_i (depTo w h br ps n (n * n)) (fun x hx => by have := hin x hx; unfold dIn; omega) (by omega)
    refine ⟨r, h1, by omega, ?_, fun q => absurd ht q, fun _ m hm y => by rw [← show n = m by omega, h2 y]⟩
    refine Ev.bind hb (Ev.ite_pos (hb2.2 ht) (Ev.bind ?_ (by rw [hr]; exact Ev.now _)))
    unfold impl_DependsOf.ps
    have h6 := di_l1 w h br ps hbr ht n hn n 0 (Nat.zero_add _)
    rw [Nat.zero_mul] at h6
    refine Ev.bindS (NodeCount_i w h) ?_
    rw [← hn]
    exact h6
  · exact ⟨[], rfl, by simp, Ev.bind hb (Ev.ite_neg (fun e => ht (hb2.1 e)) (Ev.now _)), fun _ => rfl, fun q => absurd q ht⟩

/-! ### find -/
theorem l03Find_l0 (x : Int) : ∀ (rest pre : List Int), pre.length + rest.length < 1152921504606846976 → Ev (fun k => spec_l03Find.l0 k (pre ++ rest) x (pre.length : Int)) (decide (x ∈ rest))
  | [], pre, _ => by
    refine Ev.suc ?_
    simp only [spec_l03Find.l0]
    exact Ev.ite_neg (by simp) (Ev.val (by simp))
  | y :: rest, pre, hl => by
    simp only [List.length_cons] at hl
    have h1 : (pre.length : Int) < ((pre ++ y :: rest).length : Int) := by simp only [List.length_append, List.length_cons]; omega
    have hw : wrap64 ((pre.length : Int) + 1) = ((pre ++ [y]).length : Int) := by rw [w64 (by omega) (by omega), len_snoc]
    refine Ev.suc ?_
    simp only [spec_l03Find.l0, rd_mid, hw]
    refine Ev.ite_pos h1 (Ev.ite_pos (by omega) (Ev.ite (fun h => Ev.val ?_) (fun h => ?_)))
    · simp [h]
    · rw [snoc_app pre y rest]
      refine Ev.eq (l03Find_l0 x rest (pre ++ [y]) (by simp only [List.length_append, List.length_cons, List.length_nil]; omega)) ?_
      rw [decide_eq_decide]
      simp [show ¬ x = y from fun e => h e.symm]
theorem l03Find_s (l : List Int) (x : Int) (h : l.length < 1152921504606846976) : Ev (fun k => spec_l03Find.f k l x) (decide (x ∈ l)) := by
  unfold spec_l03Find.f
  exact l03Find_l0 x l [] (by simpa using h)

/-! ### hasCh_s -/
theorem l03Has_s (w h : Int) (br : List Int) (c : Int) (hl : br.length < 1152921504606846976) : Ev (fun k => spec_l03Has.f k w h br c) (hasR w h br c) := by
  unfold spec_l03Has.f hasR
  refine Ev.bindS (leads_s w h c) (Ev.ite (fun h1 => ?_) (fun h1 => Ev.val (by simp [h1])))
  exact Ev.bind (l03Find_s br c hl) (Ev.val (by simp [h1]))

/-! ### walk_s -/
theorem l04Walk_l0 (w h : Int) (br ps : List Int) (dst : Int) (hbr : br.length < 1152921504606846976) (hps : (ps.length : Int) = ncR w h * ncR w h) (hd : nodeOk w h dst) : ∀ (d : Nat) (acc : List Int) (x : Int), nodeOk w h x → (acc.length : Int) + d = ncR w h + 1 →
    Ev (fun k => spec_l04Walk.l0 k dst acc (ncR w h) x w h br ps) (walkGo w h br ps dst d acc x)
  | 0, acc, x, hx, hl => by
    refine Ev.suc ?_
    simp only [spec_l04Walk.l0]
    exact Ev.ite_neg (by omega) (Ev.now _)
  | d + 1, acc, x, hx, hl => by
    have hn := ncR_b w h
    have hb := idx_b hn hx hd
    obtain ⟨e1, e2⟩ := idx_w hn hx hd
    have hx15 : 0 ≤ x ∧ x ≤ 15 := ⟨hx.1, by have := hx.2; omega⟩
    have hin1 : 0 ≤ x * ncR w h + dst := by
      have := hd.1
      omega
    have hin2 : x * ncR w h + dst < (ps.length : Int) := by
      rw [hps]
      exact hb.2.2.1
    refine Ev.suc ?_
    simp only [spec_l04Walk.l0, e1, l01In_f, Option.bind_some, decide_eq_true_eq]
    unfold walkGo
    have hlen : (acc.length : Int) ≤ ncR w h := by omega
    have hacc : acc.length < 17592186044416 := by omega
    clear hb e1 e2
    refine Ev.ite_pos hlen (Ev.ite_pos hin1 (Ev.ite_pos hin2 ?_))
    generalize rd ps (x * ncR w h + dst) = p at *
    by_cases h4 : p = 4
    · refine Ev.ite_pos h4 ?_
      rw [if_pos h4]
      refine Ev.ite (fun h5 => Ev.val ?_) (fun h5 => Ev.val ?_)
      · rw [if_pos h5]
      · rw [if_neg h5]
    · refine Ev.ite_neg h4 ?_
      rw [if_neg h4]
      by_cases hp : 0 ≤ p ∧ p ≤ 3
      · have e3 : wrap64 (wrap64 (4 * x) + p) = 4 * x + p := by rw [w64 (x := 4 * x) (by omega) (by omega), w64 (by omega) (by omega)]
        simp only [e3]
        refine Ev.ite_pos hp (Ev.bind (l03Has_s w h br (4 * x + p) hbr) (Ev.ite (fun hh => ?_) (fun hh => Ev.val ?_)))
        · rw [if_pos ⟨hp, hh⟩]
          refine Ev.ite_pos hacc (Ev.bindS (NextNode_s w h x p) ?_)
          exact l04Walk_l0 w h br ps dst hbr hps hd d _ _ (has_next hp hh) (by simp only [List.length_append, List.length_cons, List.length_nil]; omega)
        · rw [if_neg (fun z => hh z.2)]
      · refine Ev.ite_neg hp (Ev.val ?_)
        rw [if_neg (fun z => hp z.1)]
theorem l04Walk_s (w h : Int) (br ps : List Int) (x dst : Int) (hbr : br.length < 1152921504606846976) (hps : (ps.length : Int) = ncR w h * ncR w h) (hx : nodeOk w h x) (hd : nodeOk w h dst) :
    Ev (fun k => spec_l04Walk.f k w h br ps x dst) (walkR w h br ps x dst) := by
  unfold spec_l04Walk.f walkR
  have hn := ncR_b w h
  exact Ev.bindS (NodeCount_s w h) (l04Walk_l0 w h br ps dst hbr hps hd _ [] x hx (by simp only [List.length_nil]; omega))

/-! ### MeshOk_s -/
theorem MeshOk_s_l0 (w h : Int) : ∀ (rest pre : List Int) (y : Int), pre.length + rest.length < 1152921504606846976 → Ev (fun k => spec_MeshOk.l0 k (((pre ++ [y])).length : Int) w h ((pre ++ [y]) ++ rest)) (brR w h (some y) rest)
  | [], pre, y, hl => by
    refine Ev.suc ?_
    simp only [spec_MeshOk.l0]
    refine Ev.ite_neg (by simp) ?_
    exact Ev.val (by simp [brR])
  | x :: rest, pre, y, hl => by
    simp only [List.length_cons] at hl
    have hp : (pre ++ [y]).length = pre.length + 1 := by simp
    have h1 : ((pre ++ [y]).length : Int) < ((pre ++ [y] ++ x :: rest).length : Int) := by simp only [List.length_append, List.length_cons, List.length_nil]; omega
    have hw : wrap64 (((pre ++ [y]).length : Int) + 1) = ((pre ++ [y] ++ [x]).length : Int) := by rw [w64 (by omega) (by omega)]; exact (len_snoc _ _).symm
    have hv : wrap64 (((pre ++ [y]).length : Int) - 1) = ((pre ++ [y]).length : Int) - 1 := w64 (by omega) (by omega)
    have e1 : rd (pre ++ [y] ++ x :: rest) (((pre ++ [y]).length : Int) - 1) = y := rd_app_last pre y (x :: rest)
    have e2 : rd (pre ++ [y] ++ x :: rest) ((pre ++ [y]).length : Int) = x := rd_mid _ _ _
    have ih := MeshOk_s_l0 w h rest (pre ++ [y]) x (by omega)
    rw [← snoc_app (pre ++ [y]) x rest] at ih
    refine Ev.suc ?_
    simp only [spec_MeshOk.l0, e1, e2, hw, hv, leads_s, Option.bind_some]
    refine Ev.ite_pos h1 (Ev.ite_pos (by omega) (Ev.ite (fun hlx => ?_) (fun hlx => Ev.val ?_)))
    · refine Ev.ite_pos (by omega) (Ev.ite_pos (by omega) (Ev.ite_pos (by omega) (Ev.ite (fun hc => Ev.val ?_) (fun hc => Ev.eq ih ?_))))
      · have hc' : ¬ y < x := by omega
        simp [brR, hc']
      · have hc' : y < x := by omega
        simp [brR, hlx, hc']
    · simp [brR, hlx]
theorem MeshOk_s (w h : Int) (br : List Int) (hl : br.length < 1152921504606846976) : Ev (fun k => spec_MeshOk.f k w h br) (meshR w h br) := by
  unfold spec_MeshOk.f meshR
  refine Ev.bindS (GridOk_s w h) (Ev.ite (fun hg => ?_) (fun hg => Ev.val (by simp [show ¬ gOk w h from fun z => hg (decide_eq_true z)])))
  cases br with
  | nil =>
    refine Ev.suc ?_
    simp only [spec_MeshOk.l0]
    refine Ev.ite_neg (by simp) ?_
    exact Ev.val (by simp [brR, of_decide_eq_true hg])
  | cons x rest =>
    simp only [List.length_cons] at hl
    have z := MeshOk_s_l0 w h rest [] x (by simp; omega)
    have hw : wrap64 ((0 : Int) + 1) = ((([] : List Int) ++ [x]).length : Int) := by rw [w64 (by omega) (by omega)]; rfl
    have e2 : rd (x :: rest) 0 = x := rfl
    have h1 : (0 : Int) < ((x :: rest).length : Int) := by simp only [List.length_cons]; omega
    refine Ev.suc ?_
    simp only [spec_MeshOk.l0, e2, hw, leads_s, Option.bind_some]
    refine Ev.ite_pos h1 (Ev.ite_pos (by omega) (Ev.ite (fun hlx => Ev.ite_neg (by omega) (Ev.eq z ?_)) (fun hlx => Ev.val ?_)))
    · simp [brR, hlx, of_decide_eq_true hg]
    · simp [brR, hlx]

/-! ### TableOk_s -/
theorem TableOk_s_l1 (w h : Int) (br ps : List Int) (hbr : br.length < 1152921504606846976) (hps : (ps.length : Int) = ncR w h * ncR w h) (n : Nat) (hn : (n : Int) = ncR w h) (x : Nat) (hx : x < n) (P : Prop)
    (hR : ∃ b, Ev (fun k => spec_TableOk.l0 k (n : Int) ((x + 1 : Nat) : Int) w h br ps) b ∧ (b = true ↔ P)) : ∀ (d y : Nat), y + d = n →
    ∃ b, Ev (fun k => spec_TableOk.l1 k (n : Int) (x : Int) (y : Int) w h br ps) b ∧ (b = true ↔ (y ≤ x → rd ps ((x : Int) * ncR w h + (x : Int)) = 4) ∧ (∀ y' : Nat, y ≤ y' → y' < n → x ≠ y' → walkR w h br ps (x : Int) (y' : Int) ≠ []) ∧ P)
  | 0, y, hd => by
    obtain ⟨b, hb, hb2⟩ := hR
    have hnb := ncR_b w h
    refine ⟨b, Ev.suc ?_, ?_⟩
    · simp only [spec_TableOk.l1]
      refine Ev.ite_neg (by omega) ?_
      have e : wrap64 ((x : Int) + 1) = ((x + 1 : Nat) : Int) := by rw [w64 (by omega) (by omega)]; omega
      rw [e]
      exact hb
    · rw [hb2]
      exact ⟨fun hp => ⟨fun hz => absurd hz (by omega), fun y' h1 h2 => absurd h2 (by omega), hp⟩, fun hp => hp.2.2⟩
  | d + 1, y, hd => by
    obtain ⟨b, hb, hb2⟩ := TableOk_s_l1 w h br ps hbr hps n hn x hx P hR d (y + 1) (by omega)
    have hnb := ncR_b w h
    have e : wrap64 ((y : Int) + 1) = ((y + 1 : Nat) : Int) := by rw [w64 (by omega) (by omega)]; omega
    have hlt : (y : Int) < (n : Int) := by omega
    by_cases hxy : x = y
    · have hxn : 0 ≤ (x : Int) ∧ (x : Int) ≤ ncR w h - 1 := by omega
      have hi := idx_b hnb hxn hxn
      have hi0 : 0 ≤ (x : Int) * ncR w h + (x : Int) := by omega
      have hi1 : (x : Int) * ncR w h + (x : Int) < (ps.length : Int) := by
        rw [hps]
        exact hi.2.2.1
      have ew := (idx_w hnb hxn hxn).1
      have hxy' : (x : Int) = (y : Int) := by omega
      have hle : y ≤ x := by omega
      have hnle : ¬ y + 1 ≤ x := by omega
      have hrest : (∀ y' : Nat, y + 1 ≤ y' → y' < n → x ≠ y' → walkR w h br ps (x : Int) (y' : Int) ≠ []) ↔ (∀ y' : Nat, y ≤ y' → y' < n → x ≠ y' → walkR w h br ps (x : Int) (y' : Int) ≠ []) := by
        clear hi hi0 hi1 ew
        exact ⟨fun hp y' h1 h2 h3 => hp y' (by omega) h2 h3, fun hp y' h1 h2 h3 => hp y' (by omega) h2 h3⟩
      by_cases h4 : rd ps ((x : Int) * ncR w h + (x : Int)) = 4
      · refine ⟨b, Ev.suc ?_, ?_⟩
        · rw [hn] at hb hlt ⊢
          simp only [spec_TableOk.l1, ew, e]
          exact Ev.ite_pos hlt (Ev.ite_pos hxy' (Ev.ite_pos hi0 (Ev.ite_pos hi1 (Ev.ite_pos h4 hb))))
        · rw [hb2, hrest]
          exact ⟨fun hp => ⟨fun _ => h4, hp.2⟩, fun hp => ⟨fun hz => absurd hz hnle, hp.2⟩⟩
      · refine ⟨false, Ev.suc ?_, ?_⟩
        · rw [hn] at hlt ⊢
          simp only [spec_TableOk.l1, ew, e]
          exact Ev.ite_pos hlt (Ev.ite_pos hxy' (Ev.ite_pos hi0 (Ev.ite_pos hi1 (Ev.ite_neg h4 (Ev.now _)))))
        · exact ⟨fun z => absurd z Bool.false_ne_true, fun hp => absurd (hp.1 hle) h4⟩
    · have hv := l04Walk_s w h br ps (x : Int) (y : Int) hbr hps ⟨by omega, by omega⟩ ⟨by omega, by omega⟩
      have hneq : ¬ (x : Int) = (y : Int) := by omega
      have hd2 : (y ≤ x → rd ps ((x : Int) * ncR w h + (x : Int)) = 4) ↔ (y + 1 ≤ x → rd ps ((x : Int) * ncR w h + (x : Int)) = 4) := ⟨fun hp hz => hp (by omega), fun hp hz => hp (by omega)⟩
      by_cases hw : walkR w h br ps (x : Int) (y : Int) = []
      · refine ⟨false, Ev.suc ?_, ?_⟩
        · simp only [spec_TableOk.l1, e]
          refine Ev.ite_pos hlt (Ev.ite_neg hneq (Ev.bind hv (Ev.ite_pos (by simp [hw]) (Ev.now _))))
        · refine ⟨fun z => absurd z Bool.false_ne_true, fun hp => absurd hw (hp.2.1 y (Nat.le_refl _) (by omega) hxy)⟩
      · refine ⟨b, Ev.suc ?_, ?_⟩
        · simp only [spec_TableOk.l1, e]
          refine Ev.ite_pos hlt (Ev.ite_neg hneq (Ev.bind hv (Ev.ite_neg ?_ hb)))
          cases hc : walkR w h br ps (x : Int) (y : Int) with
          | nil => exact absurd hc hw
          | cons a l => simp only [List.length_cons]; omega
        · rw [hb2, hd2]
          refine ⟨fun hp => ⟨hp.1, fun y' h1 h2 h3 => ?_, hp.2.2⟩, fun hp => ⟨hp.1, fun y' h1 h2 h3 => hp.2.1 y' (by omega) h2 h3, hp.2.2⟩⟩
          by_cases hy : y' = y
          · rw [hy]
            exact hw
          · exact hp.2.1 y' (by omega) h2 h3
theorem TableOk_s_l0 (w h : Int) (br ps : List Int) (hbr : br.length < 1152921504606846976) (hps : (ps.length : Int) = ncR w h * ncR w h) (n : Nat) (hn : (n : Int) = ncR w h) : ∀ (d x : Nat), x + d = n →
    ∃ b, Ev (fun k => spec_TableOk.l0 k (n : Int) (x : Int) w h br ps) b ∧ (b = true ↔ (∀ x' : Nat, x ≤ x' → x' < n → rd ps ((x' : Int) * ncR w h + (x' : Int)) = 4) ∧ ∀ x' y' : Nat, x ≤ x' → x' < n → y' < n → x' ≠ y' → walkR w h br ps (x' : Int) (y' : Int) ≠ [])
  | 0, x, hd => by
    refine ⟨true, Ev.suc ?_, ?_⟩
    · simp only [spec_TableOk.l0]
      exact Ev.ite_neg (by omega) (Ev.now _)
    · exact ⟨fun _ => ⟨fun x' h1 h2 => absurd h2 (by omega), fun x' y' h1 h2 => absurd h2 (by omega)⟩, fun _ => rfl⟩
  | d + 1, x, hd => by
    obtain ⟨b, hb, hb2⟩ := TableOk_s_l1 w h br ps hbr hps n hn x (by omega) _ (TableOk_s_l0 w h br ps hbr hps n hn d (x + 1) (by omega)) n 0 (by omega)
    refine ⟨b, Ev.suc ?_, ?_⟩
    · simp only [spec_TableOk.l0]
      exact Ev.ite_pos (by omega) hb
    · rw [hb2]
      refine ⟨fun hp => ⟨fun x' h1 h2 => ?_, fun x' y' h1 h2 h3 h4 => ?_⟩, fun hp => ⟨fun _ => hp.1 x (Nat.le_refl _) (by omega), fun y' h1 h2 h3 => hp.2 x y' (Nat.le_refl _) (by omega) h2 h3, fun x' h1 h2 => hp.1 x' (by omega) h2, fun x' y' h1 h2 h3 h4 => hp.2 x' y' (by omega) h2 h3 h4⟩⟩
      · by_cases hx : x' = x
        · rw [hx]
          exact hp.1 (Nat.zero_le _)
        · exact hp.2.2.1 x' (by omega) h2
      · by_cases hx : x' = x
        · subst hx
          exact hp.2.1 y' (Nat.zero_le _) h3 h4
        · exact hp.2.2.2 x' y' (by omega) h2 h3 h4
theorem l04Sized_s (w h : Int) (br ps : List Int) (hbr : br.length < 1152921504606846976) : Ev (fun k => spec_l04Sized.f k w h br ps) (decide (meshR w h br = true ∧ (ps.length : Int) = ncR w h * ncR w h)) := by
  have hnb := ncR_b w h
  have hsq : wrap64 (ncR w h * ncR w h) = ncR w h * ncR w h := by
    have h3 : ncR w h * ncR w h ≤ 16 * ncR w h := Int.mul_le_mul_of_nonneg_right hnb.2 hnb.1
    have h4 : 0 ≤ ncR w h * ncR w h := Int.mul_nonneg hnb.1 hnb.1
    generalize ncR w h * ncR w h = q at *
    exact w64 (by omega) (by omega)
  unfold spec_l04Sized.f
  refine Ev.bindS (NodeCount_s w h) (Ev.bind (MeshOk_s w h br hbr) (Ev.ite (fun hm => Ev.val ?_) (fun hm => Ev.val ?_)))
  · rw [hsq, hm]
    by_cases he : (ps.length : Int) = ncR w h * ncR w h
    · simp [he]
    · simp [he]
  · simp [hm]
theorem TableOk_s (w h : Int) (br ps : List Int) (hbr : br.length < 1152921504606846976) : ∃ b, Ev (fun k => spec_TableOk.f k w h br ps) b ∧ (b = true ↔ tableOk w h br ps) := by
  have hnb := ncR_b w h
  have hs := l04Sized_s w h br ps hbr
  unfold spec_TableOk.f tableOk
  by_cases hm : meshR w h br = true ∧ (ps.length : Int) = ncR w h * ncR w h
  · obtain ⟨n, hn⟩ : ∃ n : Nat, (n : Int) = ncR w h := ⟨(ncR w h).toNat, by omega⟩
    obtain ⟨b, hb, hb2⟩ := TableOk_s_l0 w h br ps hbr hm.2 n hn n 0 (by omega)
    refine ⟨b, ?_, ?_⟩
    · refine Ev.bind hs (Ev.ite_pos (decide_eq_true hm) (Ev.bindS (NodeCount_s w h) ?_))
      rw [← hn]
      exact hb
    · rw [hb2]
      unfold diagOk walksOk
      rw [← hn] at hm ⊢
      exact ⟨fun hp => ⟨hm.1, hm.2, fun x hx => hp.1 x (Nat.zero_le _) (by omega), fun x y hx hy hne => hp.2 x y (Nat.zero_le _) (by omega) (by omega) hne⟩, fun hp => ⟨fun x _ hx => hp.2.2.1 x (by omega), fun x y _ hx hy hne => hp.2.2.2 x y (by omega) (by omega) hne⟩⟩
  · refine ⟨false, ?_, ⟨fun z => absurd z Bool.false_ne_true, fun hp => absurd ⟨hp.1, hp.2.1⟩ hm⟩⟩
    exact Ev.bind hs (Ev.ite_neg (fun z => hm (of_decide_eq_true z)) (Ev.now _))

/-! ### lessD -/
theorem less_f (a b c d : Int) : spec_l08Less.f a b c d = some (decide (a < c ∨ (a = c ∧ b < d))) := by
  unfold spec_l08Less.f
  by_cases h1 : a < c
  · rw [if_pos h1, decide_eq_true (Or.inl h1)]
  · rw [if_neg h1]
    by_cases h2 : a = c
    · rw [if_pos h2]
      congr 1
      rw [decide_eq_decide]
      omega
    · rw [if_neg h2, decide_eq_false (by omega)]

/-! ### putD -/
/-- What 'l08Put' makes: the list with one element more, in its place. -/
def PutOf (l : List S94) (d : S94) (r : List S94) : Prop := dAll r = true ∧ (∀ x, x ∈ r ↔ x = d ∨ x ∈ l) ∧ r.length ≤ l.length + 1
theorem put_l0 (l : List S94) (hl : l.length ≤ 1048576) (ha : dAll l = true) (d : S94) (hd : dIn d) : ∀ (i : Nat), i ≤ l.length → (∀ x ∈ l.drop i, dLt d x) → ∃ r, PutOf l d r ∧ Ev (fun k => spec_l08Put.l0 k l (i : Int) d.f0 d.f1) r := by
  have hs := (dAll_iff l).1 ha
  have fin : ∀ i, i ≤ l.length → (∀ x ∈ l.drop i, dLt d x) → (∀ x ∈ l.take i, dLt x d) → PutOf l d ((([] ++ l.take i) ++ [d]) ++ l.drop i) := fun i hi h1 h2 => by
    have e : (([] ++ l.take i) ++ [d]) ++ l.drop i = l.take i ++ d :: l.drop i := by simp
    rw [e]
    refine ⟨(dAll_iff _).2 ⟨fun x hx => ?_, ?_⟩, fun x => ?_, ?_⟩
    · rcases List.mem_append.1 hx with hx | hx
      · exact hs.1 x (List.mem_of_mem_take hx)
      · rcases List.mem_cons.1 hx with rfl | hx
        · exact hd
        · exact hs.1 x (List.mem_of_mem_drop hx)
    · have h3 := hs.2
      rw [← List.take_append_drop i l, List.pairwise_append] at h3
      rw [List.pairwise_append, List.pairwise_cons]
      refine ⟨h3.1, ⟨h1, h3.2.1⟩, fun x hx y hy => ?_⟩
      rcases List.mem_cons.1 hy with rfl | hy
      · exact h2 x hx
      · exact h3.2.2 x hx y hy
    · rw [List.mem_append, List.mem_cons]
      constructor
      · rintro (hx | rfl | hx)
        · exact Or.inr (List.mem_of_mem_take hx)
        · exact Or.inl rfl
        · exact Or.inr (List.mem_of_mem_drop hx)
      · rintro (rfl | hx)
        · exact Or.inr (Or.inl rfl)
        · rw [← List.take_append_drop i l, List.mem_append] at hx
          rcases hx with hx | hx
          · exact Or.inl hx
          · exact Or.inr (Or.inr hx)
    · simp
      omega
  have hlt : ∀ i : Nat, (l.take i).length ≤ l.length := fun i => by rw [List.length_take]; omega
  have hdr : ∀ i : Nat, (l.drop i).length ≤ l.length := fun i => by rw [List.length_drop]; omega
  intro i
  induction i with
  | zero =>
    intro hi h1
    refine ⟨_, fin 0 hi h1 (fun x hx => by simp at hx), Ev.suc ?_⟩
    simp only [spec_l08Put.l0, Option.bind_some]
    have := hlt 0
    have := hdr 0
    refine Ev.ite_neg (by omega) (Ev.ite_pos (by omega) (Ev.ite_pos (by omega) ?_))
    refine Ev.ite_pos ?_ (Ev.ite_pos ?_ (Ev.ite_pos ?_ (Ev.now _)))
    · simp
    · simp
    · simp; omega
  | succ i ih =>
    intro hi h1
    have hi' : i < l.length := by omega
    have hw : wrap64 (((i + 1 : Nat) : Int) - 1) = (i : Int) := by rw [w64 (by omega) (by omega)]; omega
    have hx := rdD_at l i hi'
    have hdrop : l.drop i = l[i] :: l.drop (i + 1) := List.drop_eq_getElem_cons hi'
    have hmem : l[i] ∈ l := List.getElem_mem hi'
    by_cases q1 : dLt d l[i]
    · obtain ⟨r, hr, h⟩ := ih (by omega) (fun x hx => by
        rw [hdrop] at hx
        rcases List.mem_cons.1 hx with rfl | hx
        · exact q1
        · exact h1 x hx)
      refine ⟨r, hr, Ev.suc ?_⟩
      simp only [spec_l08Put.l0, hw, hx, less_f, Option.bind_some, decide_eq_true_eq]
      exact Ev.ite_pos (by omega) (Ev.ite_pos (by omega) (Ev.ite_pos (by omega) (Ev.ite_pos q1 h)))
    · by_cases q2 : l[i] = d
      · refine ⟨l, ⟨ha, fun x => ⟨fun h => Or.inr h, fun h => h.elim (fun e => e ▸ q2 ▸ hmem) id⟩, by omega⟩, Ev.suc ?_⟩
        simp only [spec_l08Put.l0, hw, hx, less_f, Option.bind_some, decide_eq_true_eq]
        refine Ev.ite_pos (by omega) (Ev.ite_pos (by omega) (Ev.ite_pos (by omega) (Ev.ite_neg q1 (Ev.ite_pos ?_ (Ev.now _)))))
        rw [q2]
        simp
      · have q3 : dLt l[i] d := by
          have : ¬ (l[i].f0 = d.f0 ∧ l[i].f1 = d.f1) := fun e => q2 (by
            have e1 : l[i] = ⟨l[i].f0, l[i].f1⟩ := rfl
            rw [e1, e.1, e.2])
          unfold dLt at *
          omega
        have h2 : ∀ x ∈ l.take (i + 1), dLt x d := fun x hx => by
          rw [← List.take_append_getElem hi', List.mem_append, List.mem_singleton] at hx
          rcases hx with hx | rfl
          · have h3 := hs.2
            rw [← List.take_append_drop i l, List.pairwise_append] at h3
            exact dLt_trans (h3.2.2 x hx l[i] (by rw [hdrop]; exact List.mem_cons_self)) q3
          · exact q3
        refine ⟨_, fin (i + 1) hi h1 h2, Ev.suc ?_⟩
        have := hlt (i + 1)
        have := hdr (i + 1)
        simp only [spec_l08Put.l0, hw, hx, less_f, Option.bind_some, decide_eq_true_eq]
        refine Ev.ite_pos (by omega) (Ev.ite_pos (by omega) (Ev.ite_pos (by omega) (Ev.ite_neg q1 (Ev.ite_neg ?_ (Ev.ite_pos (by omega) (Ev.ite_pos (by omega) ?_))))))
        · intro z
          rw [Bool.and_eq_true, beq_iff_eq, beq_iff_eq] at z
          exact q2 (by
            have e1 : l[i] = ⟨l[i].f0, l[i].f1⟩ := rfl
            rw [e1, z.1, z.2])
        · refine Ev.ite_pos ?_ (Ev.ite_pos ?_ (Ev.ite_pos ?_ (Ev.now _)))
          · simp; omega
          · simp; omega
          · simp; omega
theorem put_s (l : List S94) (hl : l.length ≤ 1048576) (ha : dAll l = true) (d : S94) (hd : dIn d) : ∃ r, PutOf l d r ∧ Ev (fun k => spec_l08Put.f k l d.f0 d.f1) r := by
  unfold spec_l08Put.f
  exact put_l0 l hl ha d hd l.length (Nat.le_refl _) (fun x hx => by rw [List.drop_length] at hx; cases hx)

/-! ### built -/
def Built (x S : List S94) : Prop := dAll x = true ∧ (∀ y, y ∈ x ↔ y ∈ S) ∧ x.length ≤ S.length
theorem Built.put {x S x' : List S94} {e : S94} (h : Built x S) (hp : PutOf x e x') : Built x' (S ++ [e]) := by
  refine ⟨hp.1, fun y => ?_, ?_⟩
  · rw [hp.2.1 y, h.2.1 y, List.mem_append, List.mem_singleton, or_comm]
  · have := h.2.2
    have := hp.2.2
    rw [List.length_append, List.length_singleton]
    omega

/-! ### depOf -/
theorem ds_l1 (w h : Int) (br ps : List Int) (n i : Int) (ws : List Int) (hl : ws.length ≤ 17) (hin : ∀ x ∈ stepL ws, dIn x) (S : List S94) (hS : S.length ≤ 5000) (G : List S94 → Prop)
    (H : ∀ x', Built x' (S ++ stepL ws) → ∃ r, G r ∧ Ev (fun k => spec_DependsOf.l0 k x' n (wrap64 (i + 1)) w h br ps) r) : ∀ (d t : Nat) (x : List S94), t + d = ws.length - 1 → Built x (S ++ (List.range t).map (stepD ws)) → ∃ r, G r ∧ Ev (fun k => spec_DependsOf.l1 k x n i ws ((t + 1 : Nat) : Int) w h br ps) r
  | 0, t, x, h0, hb => by
    have e : t = ws.length - 1 := by omega
    rw [e] at hb
    obtain ⟨r, hG, hr⟩ := H x hb
    refine ⟨r, hG, Ev.suc ?_⟩
    simp only [spec_DependsOf.l1]
    exact Ev.ite_neg (by omega) hr
  | d + 1, t, x, h0, hb => by
    have hw : wrap64 (((t + 1 : Nat) : Int) - 1) = (t : Int) := by rw [w64 (by omega) (by omega)]; omega
    have hn : wrap64 (((t + 1 : Nat) : Int) + 1) = ((t + 1 + 1 : Nat) : Int) := by rw [w64 (by omega) (by omega)]; omega
    have hm : stepD ws t ∈ stepL ws := List.mem_map.2 ⟨t, List.mem_range.2 (by omega), rfl⟩
    have hxl := hb.2.2
    rw [List.length_append, List.length_map, List.length_range] at hxl
    obtain ⟨x', hp, hput⟩ := put_s x (by omega) hb.1 (stepD ws t) (hin _ hm)
    have hb' := hb.put hp
    rw [List.append_assoc, show (List.range t).map (stepD ws) ++ [stepD ws t] = (List.range (t + 1)).map (stepD ws) by rw [List.range_succ, List.map_append]; rfl] at hb'
    obtain ⟨r, hG, hr⟩ := ds_l1 w h br ps n i ws hl hin S hS G H d (t + 1) x' (by omega) hb'
    refine ⟨r, hG, Ev.suc ?_⟩
    simp only [spec_DependsOf.l1, hw, hn]
    exact Ev.ite_pos (by omega) (Ev.ite_pos (by omega) (Ev.ite_pos (by omega) (Ev.ite_pos (by omega) (Ev.bind hput hr))))
theorem ds_l0 (w h : Int) (br ps : List Int) (hbr : br.length < 1152921504606846976) (ht : tableOk w h br ps) (n : Nat) (hn : (n : Int) = ncR w h) : ∀ (d i : Nat) (x : List S94), i + d = n * n → Built x (depTo w h br ps n i) → ∃ r, Built r (depTo w h br ps n (n * n)) ∧ Ev (fun k => spec_DependsOf.l0 k x (n : Int) (i : Int) w h br ps) r := by
  have hnb := ncR_b w h
  have hq : n * n ≤ 16 * 16 := Nat.mul_le_mul (by omega) (by omega)
  have hm : wrap64 ((n : Int) * (n : Int)) = ((n * n : Nat) : Int) := by
    rw [← Int.natCast_mul, w64 (by omega) (by omega)]
  have hlen := fun m => depTo_len w h br ps n hn m
  have hnode := fun i => @node_of w h n i hn
  generalize hN : n * n = N at hm hq hlen hnode
  intro d
  induction d with
  | zero =>
    intro i x h0 hb
    have e : i = N := by omega
    subst e
    refine ⟨x, hb, Ev.suc ?_⟩
    simp only [spec_DependsOf.l0, hm]
    exact Ev.ite_neg (by omega) (Ev.now _)
  | succ d ih =>
    intro i x h0 hb
    have hw : wrap64 ((i : Int) + 1) = ((i + 1 : Nat) : Int) := by rw [w64 (by omega) (by omega)]; omega
    obtain ⟨n1, n2⟩ := hnode i (by omega)
    have hl := hlen i (by omega)
    have hwb := walkR_b w h br ps ((i / n : Nat) : Int) ((i % n : Nat) : Int) n1
    have hn0 : 0 < n := Nat.pos_of_ne_zero (fun e => by subst e; omega)
    have hiq : i / n ≤ i := Nat.div_le_self i n
    have e1 : wrap64 (Int.tdiv (i : Int) (n : Int)) = ((i / n : Nat) : Int) := by
      rw [show Int.tdiv (i : Int) (n : Int) = ((i / n : Nat) : Int) from rfl]
      clear n1 n2 hwb
      generalize i / n = q at hiq
      exact w64 (by omega) (by omega)
    have e2 : Int.tmod (i : Int) (n : Int) = ((i % n : Nat) : Int) := rfl
    have hin : ∀ x ∈ stepL (walkR w h br ps ((i / n : Nat) : Int) ((i % n : Nat) : Int)), dIn x := fun x hx => by
      have := stepL_in hwb.1 x hx
      unfold dIn
      omega
    have hwk := l04Walk_s w h br ps ((i / n : Nat) : Int) ((i % n : Nat) : Int) hbr ht.2.1 n1 n2
    obtain ⟨r, hG, hr⟩ := ds_l1 w h br ps (n : Int) (i : Int) (walkR w h br ps ((i / n : Nat) : Int) ((i % n : Nat) : Int)) hwb.2 hin (depTo w h br ps n i) (by omega) (fun r => Built r (depTo w h br ps n N)) (fun x' hx' => by
      rw [hw]
      rw [← depTo_succ] at hx'
      exact ih (i + 1) x' (by omega) hx') _ 0 x (Nat.zero_add _) (by rw [List.range_zero, List.map_nil, List.append_nil]; exact hb)
    refine ⟨r, hG, Ev.suc ?_⟩
    simp only [spec_DependsOf.l0, hm, e1, e2]
    exact Ev.ite_pos (by omega) (Ev.ite_neg (by omega) (Ev.bind hwk hr))
/-- The dependencies of a table: one valid list, for the program and for the reference. -/
theorem depOf (w h : Int) (br ps : List Int) (hbr : br.length < 1152921504606846976) : ∃ r, dAll r = true ∧ r.length ≤ 4096 ∧ Ev (fun k => spec_DependsOf.f k w h br ps) r ∧ Ev (fun k => impl_DependsOf.f k w h br ps) r ∧ (¬ tableOk w h br ps → r = []) ∧ (tableOk w h br ps → ∀ n : Nat, (n : Int) = ncR w h → ∀ y, y ∈ r ↔ y ∈ depTo w h br ps n (n * n)) := by
  obtain ⟨r, ha, hl, hi, h0, hm⟩ := depOf_i w h br ps hbr
  refine ⟨r, ha, hl, ?_, hi, h0, hm⟩
  obtain ⟨b, hb, hb2⟩ := TableOk_s w h br ps hbr
  have hnb := ncR_b w h
  unfold spec_DependsOf.f
  by_cases ht : tableOk w h br ps
  · obtain ⟨n, hn⟩ : ∃ n : Nat, (n : Int) = ncR w h := ⟨(ncR w h).toNat, by omega⟩
    obtain ⟨r', h4, h5⟩ := ds_l0 w h br ps hbr ht n hn (n * n) 0 [] (Nat.zero_add _) ⟨rfl, fun y => Iff.rfl, Nat.le_refl _⟩
    have e : r' = r := dAll_ext _ _ h4.1 ha (fun y => by rw [h4.2.1 y, hm ht n hn y])
    subst e
    refine Ev.bindS rfl (Ev.bind hb (Ev.ite_pos (hb2.2 ht) (Ev.bindS (NodeCount_s w h) ?_)))
    rw [← hn]
    exact h5
  · rw [h0 ht]
    exact Ev.bindS rfl (Ev.bind hb (Ev.ite_neg (fun e => ht (hb2.1 e)) (Ev.now _)))

/-! ### dependsOk_i -/
theorem compare_f (a b c d : Int) (ha : 0 ≤ a ∧ a ≤ 127) (hb : 0 ≤ b ∧ b ≤ 127) (hc : 0 ≤ c ∧ c ≤ 127) (hd : 0 ≤ d ∧ d ≤ 127) : ∃ r, impl_compareDepends.f a b c d = some r ∧ (r ≥ 0 ↔ ¬ (a < c ∨ (a = c ∧ b < d))) := by
  unfold impl_compareDepends.f
  by_cases h2 : a = c
  · refine ⟨b - d, ?_, by omega⟩
    rw [if_pos h2, w64 (by omega) (by omega)]
  · refine ⟨a - c, ?_, by omega⟩
    rw [if_neg h2, w64 (by omega) (by omega)]
theorem DependsOk_i_go : ∀ (rest p : List S94) (y : S94), dIn y → (p ++ [y]).length + rest.length < 1152921504606846976 →
    Ev (fun k => impl_DependsOk.l0 k (p ++ [y] ++ rest) (p ++ [y] ++ rest) ((p ++ [y] ++ rest).length : Int) ((p ++ [y]).length : Int)) (dGo y rest)
  | [], p, y, _, _ => by
    refine Ev.suc ?_
    simp only [impl_DependsOk.l0]
    exact Ev.ite_neg (by simp) (Ev.val rfl)
  | x :: rest, p, y, hyI, hl => by
    simp only [List.length_cons] at hl
    obtain ⟨hp, hy⟩ := prev_rd p y x rest (by omega)
    have hx := rdI_Depend (p ++ [y]) x rest
    have h1 : ((p ++ [y]).length : Int) < ((p ++ [y] ++ x :: rest).length : Int) := by simp only [List.length_append, List.length_cons]; omega
    have h2 : (p.length : Int) < ((p ++ [y] ++ x :: rest).length : Int) := by simp only [List.length_append, List.length_cons]; omega
    have h3 : ((p ++ [y]).length : Int) > 0 := by simp only [List.length_append, List.length_cons]; omega
    have hw : wrap64 (((p ++ [y]).length : Int) + 1) = ((p ++ [y] ++ [x]).length : Int) := by
      have e : ((p ++ [y] ++ [x]).length : Int) = ((p ++ [y]).length : Int) + 1 := len_snoc (p ++ [y]) x
      rw [e]
      exact w64 (by omega) (by omega)
    refine Ev.suc ?_
    simp only [impl_DependsOk.l0, hp, hy, hx, hw, inside_f, Option.bind_some, decide_eq_true_eq]
    rw [dGo_cons]
    refine Ev.ite_pos h1 (Ev.ite_pos (by omega) (Ev.ite_pos h1 (Ev.ite (fun c1 => Ev.ite (fun c2 => Ev.ite_pos h3 (Ev.ite_pos (by omega) (Ev.ite_pos h2 ?_))) (fun c2 => Ev.val ?_)) (fun c1 => Ev.val ?_))))
    · obtain ⟨r, e, hr⟩ := compare_f y.f0 y.f1 x.f0 x.f1 hyI.1 hyI.2 c1 c2
      have ih := DependsOk_i_go rest (p ++ [y]) x ⟨c1, c2⟩ (by simp only [List.length_append, List.length_cons, List.length_nil] at hl ⊢; omega)
      rw [← snoc_app (p ++ [y]) x rest] at ih
      simp only [e, Option.bind_some]
      refine Ev.ite (fun c3 => Ev.val ?_) (fun c3 => Ev.eq ih ?_)
      · rw [decide_eq_false (show ¬ dLt y x from hr.1 c3), Bool.false_and, Bool.and_false]
      · rw [decide_eq_true (show dIn x from ⟨c1, c2⟩), decide_eq_true (show dLt y x from Decidable.not_not.1 (fun z => c3 (hr.2 z))), Bool.true_and, Bool.true_and]
    · rw [decide_eq_false (show ¬ dIn x from fun z => c2 z.2), Bool.false_and]
    · rw [decide_eq_false (show ¬ dIn x from fun z => c1 z.1), Bool.false_and]
theorem DependsOk_i (l : List S94) (hl : l.length ≤ 1048576) : Ev (fun k => impl_DependsOk.f k l) (dAll l) := by
  unfold impl_DependsOk.f
  cases l with
  | nil =>
    refine Ev.suc ?_
    simp only [impl_DependsOk.l0]
    exact Ev.ite_neg (by simp) (Ev.val rfl)
  | cons x r =>
    have hx : rd_T94 (x :: r) 0 = x := rfl
    have hw : wrap64 ((0 : Int) + 1) = (([] ++ [x] : List S94).length : Int) := w64 (by omega) (by omega)
    have h1 : (0 : Int) < ((x :: r).length : Int) := by simp only [List.length_cons]; omega
    refine Ev.suc ?_
    simp only [impl_DependsOk.l0, hx, hw, inside_f, Option.bind_some, decide_eq_true_eq]
    rw [dAll_cons]
    refine Ev.ite_pos h1 (Ev.ite_pos (by omega) (Ev.ite_pos h1 (Ev.ite (fun c1 => Ev.ite (fun c2 => Ev.ite_neg (by omega) (Ev.eq (DependsOk_i_go r [] x ⟨c1, c2⟩ (by simp at hl ⊢; omega)) ?_)) (fun c2 => Ev.val ?_)) (fun c1 => Ev.val ?_))))
    · rw [decide_eq_true (show dIn x from ⟨c1, c2⟩), Bool.true_and]
    · rw [decide_eq_false (show ¬ dIn x from fun z => c2 z.2), Bool.false_and]
    · rw [decide_eq_false (show ¬ dIn x from fun z => c1 z.1), Bool.false_and]

/-! ### clsOk_i -/
def clsOk (w h : Int) (br p q : List Int) : Prop := tableOk w h br p ∧ tableOk w h br q
theorem ClassesOk_i (w h : Int) (br p q : List Int) (hbr : br.length < 1152921504606846976) : ∃ b, Ev (fun k => impl_ClassesOk.f k w h br p q) b ∧ (b = true ↔ clsOk w h br p q) := by
  obtain ⟨b, hb, hb2⟩ := TableOk_i w h br p hbr
  obtain ⟨c, hc, hc2⟩ := TableOk_i w h br q hbr
  unfold impl_ClassesOk.f clsOk
  by_cases h : b = true
  · exact ⟨c, Ev.bind hb (Ev.ite_pos h (Ev.bind hc (Ev.now _))), by rw [hc2]; exact ⟨fun z => ⟨hb2.1 h, z⟩, fun z => z.2⟩⟩
  · exact ⟨false, Ev.bind hb (Ev.ite_neg h (Ev.now _)), ⟨fun z => absurd z Bool.false_ne_true, fun z => absurd (hb2.2 z.1) h⟩⟩

/-! ### classDep_i -/
abbrev dLow (l : List S94) : Prop := ∀ x ∈ l, (0 ≤ x.f0 ∧ x.f0 ≤ 63) ∧ (0 ≤ x.f1 ∧ x.f1 ≤ 63)
def shD (x : S94) : S94 := ⟨x.f0 + 64, x.f1 + 64⟩
theorem shD_ok {l : List S94} (ha : dAll l = true) (h : dLow l) : dAll (l.map shD) = true := by
  refine (dAll_iff _).2 ⟨fun x hx => ?_, ?_⟩
  · obtain ⟨y, hy, rfl⟩ := List.mem_map.1 hx
    have := h y hy
    unfold dIn shD
    simp only
    omega
  · rw [List.pairwise_map]
    refine ((dAll_iff _).1 ha).2.imp fun {a b} hab => ?_
    unfold dLt at hab ⊢
    unfold shD
    simp only
    omega
theorem join_ok {a b : List S94} (ha : dAll a = true) (hb : dAll b = true) (h1 : dLow a) (h2 : dLow b) : dAll (a ++ b.map shD) = true := by
  have hs := (dAll_iff _).1 (shD_ok hb h2)
  have hp := (dAll_iff _).1 ha
  refine (dAll_iff _).2 ⟨fun x hx => ?_, ?_⟩
  · rcases List.mem_append.1 hx with hx | hx
    · exact hp.1 x hx
    · exact hs.1 x hx
  · refine List.pairwise_append.2 ⟨hp.2, hs.2, fun x hx y hy => ?_⟩
    obtain ⟨z, hz, rfl⟩ := List.mem_map.1 hy
    have q1 := h1 x hx
    have q2 := h2 z hz
    unfold dLt shD
    simp only
    omega
theorem shift_l0 (l : List S94) (hl : l.length ≤ 4096) (h : dLow l) (ha : dAll l = true) : ∀ (rest pre : List S94), l = pre ++ rest → Ev (fun k => impl_ShiftDepends.l0 k 64 (pre.map shD) l (l.length : Int) (pre.length : Int)) (l.map shD)
  | [], pre, e => by
    have hlen := congrArg List.length e
    rw [List.length_append, List.length_nil] at hlen
    rw [List.append_nil] at e
    have hd := DependsOk_i (l.map shD) (by rw [List.length_map]; omega)
    rw [shD_ok ha h] at hd
    refine Ev.suc ?_
    simp only [impl_ShiftDepends.l0]
    rw [← e]
    exact Ev.ite_neg (by omega) (Ev.bind hd (Ev.ite_pos rfl (Ev.now _)))
  | x :: rest, pre, e => by
    have hlen := congrArg List.length e
    rw [List.length_append, List.length_cons] at hlen
    have hw : wrap64 ((pre.length : Int) + 1) = ((pre ++ [x]).length : Int) := by rw [w64 (by omega) (by omega), len_snoc]
    have hx := h x (by rw [e]; exact List.mem_append.2 (Or.inr List.mem_cons_self))
    have hr : rd_T94 l (pre.length : Int) = x := by rw [e]; exact rdI_Depend pre x rest
    have ih := shift_l0 l hl h ha rest (pre ++ [x]) (by rw [e]; simp)
    rw [List.map_append] at ih
    have hlm : (pre.map shD).length < 8796093022208 := by rw [List.length_map]; omega
    refine Ev.suc ?_
    simp only [impl_ShiftDepends.l0, hr, hw, w64 (x := x.f0 + 64) (by omega) (by omega), w64 (x := x.f1 + 64) (by omega) (by omega)]
    exact Ev.ite_pos (by omega) (Ev.ite_pos (by omega) (Ev.ite_pos (by omega) (Ev.ite_pos hlm ih)))
theorem ShiftDepends_i (l : List S94) (hl : l.length ≤ 4096) (h : dLow l) (ha : dAll l = true) : Ev (fun k => impl_ShiftDepends.f k l 64) (l.map shD) := by
  have hd := DependsOk_i l (by omega)
  rw [ha] at hd
  unfold impl_ShiftDepends.f
  refine Ev.bind hd (Ev.ite_pos rfl (Ev.bindS (inside_f 64 (-1000) 1000) (Ev.suc ?_)))
  simp only [impl_ShiftDepends.j0]
  exact Ev.ite_neg (by decide) (shift_l0 l hl h ha l [] rfl)
theorem MergeDepends_i (a b : List S94) (hla : a.length ≤ 4096) (hlb : b.length ≤ 4096) (ha : dAll a = true) (hb : dAll b = true) (h1 : dLow a) (h2 : dLow b) : Ev (fun k => impl_MergeDepends.f k a (b.map shD)) (a ++ b.map shD) := by
  have hj := join_ok ha hb h1 h2
  have hlm : (b.map shD).length = b.length := List.length_map ..
  have da := DependsOk_i a (by omega)
  have db := DependsOk_i (b.map shD) (by omega)
  rw [ha] at da
  rw [shD_ok hb h2] at db
  obtain ⟨r, hr, hd, hm, _⟩ := arr_i (a ++ b.map shD) (fun x hx => ((dAll_iff _).1 hj).1 x hx) (by rw [List.length_append]; omega)
  have e := dAll_ext r (a ++ b.map shD) hd hj hm
  rw [e] at hr
  unfold impl_MergeDepends.f
  exact Ev.bind da (Ev.ite_pos rfl (Ev.bind db (Ev.ite_pos rfl (Ev.ite_pos (by omega) (by rw [hr]; exact Ev.now _)))))
theorem depOf_low {w h : Int} {br ps : List Int} {l : List S94} (h0 : ¬ tableOk w h br ps → l = []) (h1 : tableOk w h br ps → ∀ n : Nat, (n : Int) = ncR w h → ∀ y, y ∈ l ↔ y ∈ depTo w h br ps n (n * n)) : dLow l := by
  have hnb := ncR_b w h
  intro x hx
  by_cases ht : tableOk w h br ps
  · have hn : (((ncR w h).toNat : Nat) : Int) = ncR w h := by omega
    exact depTo_in w h br ps (ncR w h).toNat hn _ (Nat.le_refl _) x ((h1 ht _ hn x).1 hx)
  · rw [h0 ht] at hx
    cases hx
/-- The dependencies of two tables, for the program. -/
theorem classDep_i (w h : Int) (br p q : List Int) (hbr : br.length < 1152921504606846976) : ∃ la lb, (dAll la = true ∧ la.length ≤ 4096 ∧ dLow la ∧ Ev (fun k => impl_DependsOf.f k w h br p) la ∧ (tableOk w h br p → ∀ n : Nat, (n : Int) = ncR w h → ∀ y, y ∈ la ↔ y ∈ depTo w h br p n (n * n))) ∧ (dAll lb = true ∧ lb.length ≤ 4096 ∧ dLow lb ∧ Ev (fun k => impl_DependsOf.f k w h br q) lb ∧ (tableOk w h br q → ∀ n : Nat, (n : Int) = ncR w h → ∀ y, y ∈ lb ↔ y ∈ depTo w h br q n (n * n))) ∧
    (clsOk w h br p q → Ev (fun k => impl_ClassDepends.f k w h br p q) (la ++ lb.map shD)) ∧ (¬ clsOk w h br p q → Ev (fun k => impl_ClassDepends.f k w h br p q) []) := by
  obtain ⟨la, a1, a2, a3, a4, a5⟩ := depOf_i w h br p hbr
  obtain ⟨lb, b1, b2, b3, b4, b5⟩ := depOf_i w h br q hbr
  have la6 := depOf_low a4 a5
  have lb6 := depOf_low b4 b5
  obtain ⟨c, hc, hc2⟩ := ClassesOk_i w h br p q hbr
  refine ⟨la, lb, ⟨a1, a2, la6, a3, a5⟩, ⟨b1, b2, lb6, b3, b5⟩, fun ht => ?_, fun ht => ?_⟩
  · unfold impl_ClassDepends.f
    exact Ev.bind hc (Ev.ite_pos (hc2.2 ht) (Ev.bind a3 (Ev.bind b3 (Ev.bind (ShiftDepends_i lb b2 lb6 b1) (Ev.bind (MergeDepends_i la lb a2 b2 a1 b1 la6 lb6) (Ev.now _))))))
  · unfold impl_ClassDepends.f
    exact Ev.bind hc (Ev.ite_neg (fun e => ht (hc2.1 e)) (Ev.now _))

/-! ### clsOk_s -/
theorem ClassesOk_s (w h : Int) (br p q : List Int) (hbr : br.length < 1152921504606846976) : ∃ b, Ev (fun k => spec_ClassesOk.f k w h br p q) b ∧ (b = true ↔ clsOk w h br p q) := by
  obtain ⟨b, hb, hb2⟩ := TableOk_s w h br p hbr
  obtain ⟨c, hc, hc2⟩ := TableOk_s w h br q hbr
  unfold spec_ClassesOk.f clsOk
  by_cases h : b = true
  · exact ⟨c, Ev.bind hb (Ev.ite_pos h (Ev.bind hc (Ev.now _))), by rw [hc2]; exact ⟨fun z => ⟨hb2.1 h, z⟩, fun z => z.2⟩⟩
  · exact ⟨false, Ev.bind hb (Ev.ite_neg h (Ev.now _)), ⟨fun z => absurd z Bool.false_ne_true, fun z => absurd (hb2.2 z.1) h⟩⟩

/-! ### dependsOk_s -/
theorem DependsOk_s_go : ∀ (rest p : List S94) (y : S94), (p ++ [y]).length + rest.length < 1152921504606846976 →
    Ev (fun k => spec_DependsOk.l0 k (p ++ [y] ++ rest) ((p ++ [y]).length : Int)) (dGo y rest)
  | [], p, y, _ => by
    refine Ev.suc ?_
    simp only [spec_DependsOk.l0]
    exact Ev.ite_neg (by simp) (Ev.val rfl)
  | x :: rest, p, y, hl => by
    simp only [List.length_cons] at hl
    obtain ⟨hp, hy⟩ := prev_rd p y x rest (by omega)
    have hx := rdI_Depend (p ++ [y]) x rest
    have h1 : ((p ++ [y]).length : Int) < ((p ++ [y] ++ x :: rest).length : Int) := by simp only [List.length_append, List.length_cons]; omega
    have h2 : (p.length : Int) < ((p ++ [y] ++ x :: rest).length : Int) := by simp only [List.length_append, List.length_cons]; omega
    have h3 : ((p ++ [y]).length : Int) > 0 := by simp only [List.length_append, List.length_cons]; omega
    have hw : wrap64 (((p ++ [y]).length : Int) + 1) = ((p ++ [y] ++ [x]).length : Int) := by
      have e : ((p ++ [y] ++ [x]).length : Int) = ((p ++ [y]).length : Int) + 1 := len_snoc (p ++ [y]) x
      rw [e]
      exact w64 (by omega) (by omega)
    have ih := DependsOk_s_go rest (p ++ [y]) x (by simp only [List.length_append, List.length_cons, List.length_nil] at hl ⊢; omega)
    rw [← snoc_app (p ++ [y]) x rest] at ih
    refine Ev.suc ?_
    simp only [spec_DependsOk.l0, hp, hy, hx, hw, l01In_f, less_f, Option.bind_some, decide_eq_true_eq]
    rw [dGo_cons]
    refine Ev.ite_pos h1 (Ev.ite_pos (by omega) (Ev.ite (fun c1 => Ev.ite (fun c2 => Ev.ite_pos h3 (Ev.ite_pos (by omega) (Ev.ite_pos h2 (Ev.ite (fun c3 => Ev.eq ih ?_) (fun c3 => Ev.val ?_))))) (fun c2 => Ev.val ?_)) (fun c1 => Ev.val ?_)))
    · rw [decide_eq_true (show dIn x from ⟨c1, c2⟩), decide_eq_true (show dLt y x from c3), Bool.true_and, Bool.true_and]
    · rw [decide_eq_false (show ¬ dLt y x from c3), Bool.false_and, Bool.and_false]
    · rw [decide_eq_false (show ¬ dIn x from fun z => c2 z.2), Bool.false_and]
    · rw [decide_eq_false (show ¬ dIn x from fun z => c1 z.1), Bool.false_and]
theorem DependsOk_s (l : List S94) (hl : l.length ≤ 1048576) : Ev (fun k => spec_DependsOk.f k l) (dAll l) := by
  unfold spec_DependsOk.f
  cases l with
  | nil =>
    refine Ev.suc ?_
    simp only [spec_DependsOk.l0]
    exact Ev.ite_neg (by simp) (Ev.val rfl)
  | cons x r =>
    have hx : rd_T94 (x :: r) 0 = x := rfl
    have hw : wrap64 ((0 : Int) + 1) = (([] ++ [x] : List S94).length : Int) := w64 (by omega) (by omega)
    have h1 : (0 : Int) < ((x :: r).length : Int) := by simp only [List.length_cons]; omega
    have ih := DependsOk_s_go r [] x (by simp at hl ⊢; omega)
    refine Ev.suc ?_
    simp only [spec_DependsOk.l0, hx, hw, l01In_f, Option.bind_some, decide_eq_true_eq]
    rw [dAll_cons]
    refine Ev.ite_pos h1 (Ev.ite_pos (by omega) (Ev.ite (fun c1 => Ev.ite (fun c2 => Ev.ite_neg (by omega) (Ev.eq ih ?_)) (fun c2 => Ev.val ?_)) (fun c1 => Ev.val ?_)))
    · rw [decide_eq_true (show dIn x from ⟨c1, c2⟩), Bool.true_and]
    · rw [decide_eq_false (show ¬ dIn x from fun z => c2 z.2), Bool.false_and]
    · rw [decide_eq_false (show ¬ dIn x from fun z => c1 z.1), Bool.false_and]

/-! ### classDep -/
theorem shift_s0 (l : List S94) (hl : l.length ≤ 4096) (h : dLow l) (ha : dAll l = true) : ∀ (rest pre : List S94), l = pre ++ rest → Ev (fun k => spec_ShiftDepends.l0 k l 64 (pre.map shD) (pre.length : Int)) (l.map shD)
  | [], pre, e => by
    have hlen := congrArg List.length e
    rw [List.length_append, List.length_nil] at hlen
    rw [List.append_nil] at e
    have hd := DependsOk_s (l.map shD) (by rw [List.length_map]; omega)
    rw [shD_ok ha h] at hd
    refine Ev.suc ?_
    simp only [spec_ShiftDepends.l0]
    rw [← e]
    exact Ev.ite_neg (by omega) (Ev.bind hd (Ev.ite_pos rfl (Ev.now _)))
  | x :: rest, pre, e => by
    have hlen := congrArg List.length e
    rw [List.length_append, List.length_cons] at hlen
    have hw : wrap64 ((pre.length : Int) + 1) = ((pre ++ [x]).length : Int) := by rw [w64 (by omega) (by omega), len_snoc]
    have hx := h x (by rw [e]; exact List.mem_append.2 (Or.inr List.mem_cons_self))
    have hr : rd_T94 l (pre.length : Int) = x := by rw [e]; exact rdI_Depend pre x rest
    have ih := shift_s0 l hl h ha rest (pre ++ [x]) (by rw [e]; simp)
    rw [List.map_append] at ih
    have hlm : (pre.map shD).length < 8796093022208 := by rw [List.length_map]; omega
    refine Ev.suc ?_
    simp only [spec_ShiftDepends.l0, hr, hw, w64 (x := x.f0 + 64) (by omega) (by omega), w64 (x := x.f1 + 64) (by omega) (by omega)]
    exact Ev.ite_pos (by omega) (Ev.ite_pos (by omega) (Ev.ite_pos hlm ih))
theorem ShiftDepends_s (l : List S94) (hl : l.length ≤ 4096) (h : dLow l) (ha : dAll l = true) : Ev (fun k => spec_ShiftDepends.f k l 64) (l.map shD) := by
  have hd := DependsOk_s l (by omega)
  rw [ha] at hd
  unfold spec_ShiftDepends.f
  refine Ev.bindS rfl (Ev.bind hd (Ev.ite_pos rfl (Ev.bindS (l01In_f 64 (-1000) 1000) (Ev.suc ?_))))
  simp only [spec_ShiftDepends.j0]
  exact Ev.ite_neg (by decide) (shift_s0 l hl h ha l [] rfl)
theorem merge_s0 (a b : List S94) (hla : a.length ≤ 4096) (hlb : b.length ≤ 4096) (hb : ∀ x ∈ b, dIn x) (hj : dAll (a ++ b) = true) : ∀ (rest pre x : List S94), b = pre ++ rest → Built x (a ++ pre) → Ev (fun k => spec_MergeDepends.l0 k b x (pre.length : Int)) (a ++ b)
  | [], pre, x, e, hx => by
    have hlen := congrArg List.length e
    rw [List.length_append, List.length_nil] at hlen
    rw [List.append_nil] at e
    rw [← e] at hx
    refine Ev.suc ?_
    simp only [spec_MergeDepends.l0]
    exact Ev.ite_neg (by omega) (Ev.val (dAll_ext _ _ hx.1 hj hx.2.1))
  | y :: rest, pre, x, e, hx => by
    have hlen := congrArg List.length e
    rw [List.length_append, List.length_cons] at hlen
    have hxl := hx.2.2
    rw [List.length_append] at hxl
    have hw : wrap64 ((pre.length : Int) + 1) = ((pre ++ [y]).length : Int) := by rw [w64 (by omega) (by omega), len_snoc]
    have hr : rd_T94 b (pre.length : Int) = y := by rw [e]; exact rdI_Depend pre y rest
    obtain ⟨x', hp, hput⟩ := put_s x (by omega) hx.1 y (hb y (by rw [e]; exact List.mem_append.2 (Or.inr List.mem_cons_self)))
    have hx' := hx.put hp
    rw [List.append_assoc] at hx'
    have ih := merge_s0 a b hla hlb hb hj rest (pre ++ [y]) x' (by rw [e]; simp) hx'
    refine Ev.suc ?_
    simp only [spec_MergeDepends.l0, hr, hw]
    exact Ev.ite_pos (by omega) (Ev.ite_pos (by omega) (Ev.bind hput ih))
theorem MergeDepends_s (a b : List S94) (hla : a.length ≤ 4096) (hlb : b.length ≤ 4096) (ha : dAll a = true) (hb : dAll b = true) (h1 : dLow a) (h2 : dLow b) : Ev (fun k => spec_MergeDepends.f k a (b.map shD)) (a ++ b.map shD) := by
  have hj := join_ok ha hb h1 h2
  have hlm : (b.map shD).length = b.length := List.length_map ..
  have da := DependsOk_s a (by omega)
  have db := DependsOk_s (b.map shD) (by omega)
  rw [ha] at da
  rw [shD_ok hb h2] at db
  unfold spec_MergeDepends.f
  refine Ev.bindS rfl (Ev.ite_pos (by simp only [List.length_nil]; omega) (Ev.bindS rfl (Ev.bind da (Ev.ite_pos rfl (Ev.bind db (Ev.suc ?_))))))
  simp only [spec_MergeDepends.j0]
  refine Ev.ite_neg (by decide) (merge_s0 a (b.map shD) hla (by omega) (fun x hx => ((dAll_iff _).1 (shD_ok hb h2)).1 x hx) hj (b.map shD) [] ([] ++ a) rfl ?_)
  rw [List.nil_append, List.append_nil]
  exact ⟨ha, fun y => Iff.rfl, Nat.le_refl _⟩
/-- The dependencies of two tables: one valid list, for the program and for the reference. -/
theorem classDep (w h : Int) (br p q : List Int) (hbr : br.length < 1152921504606846976) : ∃ r, dAll r = true ∧ r.length ≤ 8192 ∧ Ev (fun k => spec_ClassDepends.f k w h br p q) r ∧ Ev (fun k => impl_ClassDepends.f k w h br p q) r := by
  obtain ⟨la, a1, a2, sa, a3, a4, a5⟩ := depOf w h br p hbr
  obtain ⟨lb, b1, b2, sb, b3, b4, b5⟩ := depOf w h br q hbr
  have la6 := depOf_low a4 a5
  have lb6 := depOf_low b4 b5
  obtain ⟨c, hc, hc2⟩ := ClassesOk_i w h br p q hbr
  obtain ⟨d, hd, hd2⟩ := ClassesOk_s w h br p q hbr
  unfold impl_ClassDepends.f spec_ClassDepends.f
  by_cases ht : clsOk w h br p q
  · refine ⟨la ++ lb.map shD, join_ok a1 b1 la6 lb6, by rw [List.length_append, List.length_map]; omega, ?_, ?_⟩
    · exact Ev.bind hd (Ev.ite_pos (hd2.2 ht) (Ev.bind sa (Ev.bind sb (Ev.bind (ShiftDepends_s lb b2 lb6 b1) (Ev.bind (MergeDepends_s la lb a2 b2 a1 b1 la6 lb6) (Ev.now _))))))
    · exact Ev.bind hc (Ev.ite_pos (hc2.2 ht) (Ev.bind a3 (Ev.bind b3 (Ev.bind (ShiftDepends_i lb b2 lb6 b1) (Ev.bind (MergeDepends_i la lb a2 b2 a1 b1 la6 lb6) (Ev.now _))))))
  · exact ⟨[], rfl, by decide, Ev.bind hd (Ev.ite_neg (fun e => ht (hd2.1 e)) (Ev.now _)), Ev.bind hc (Ev.ite_neg (fun e => ht (hc2.1 e)) (Ev.now _))⟩

/-! ### szTab -/
theorem szIntS_f (l : List Int) (n : Int) (hl : l.length ≤ maxLen) (h0 : 0 ≤ n) (h1 : n ≤ 1048576) : laws_szIntS.f l n = some (if n < (l.length : Int) then -1 else n - (l.length : Int)) := by
  have hm : maxLen = 9223372036854775807 := rfl
  unfold laws_szIntS.f
  rw [w64 (by omega) (by omega)]
  by_cases h : n < (l.length : Int)
  · rw [if_pos h, if_pos (by omega)]
  · rw [if_neg h, if_neg (by omega)]
theorem szTable_f (l : List Int) (n : Int) (hl : l.length ≤ maxLen) (h0 : 0 ≤ n) (h1 : n ≤ 1048576) : laws_szTable.f l n = some (if n < (l.length : Int) then -1 else n - (l.length : Int)) := by
  unfold laws_szTable.f
  rw [szIntS_f l n hl h0 h1]
  simp only [Option.bind_some]
  by_cases h : n < (l.length : Int)
  · simp [h]
  · rw [if_neg h, if_neg (by omega)]

/-! ### szMesh -/
theorem szMesh_f (w h : Int) (l : List Int) (n : Int) (hl : l.length ≤ maxLen) (h0 : 0 ≤ n) (h1 : n ≤ 1048576) : laws_szMesh.f w h l n = some (if n < (l.length : Int) then -1 else n - (l.length : Int)) := by
  unfold laws_szMesh.f
  rw [szIntS_f l n hl h0 h1]
  simp only [Option.bind_some]
  by_cases h : n < (l.length : Int)
  · simp [h]
  · rw [if_neg h, if_neg (by omega)]

/-! ### szCls -/
theorem szClasses_f (a b : List Int) (n : Int) (ha : a.length ≤ maxLen) (hb : b.length ≤ maxLen) (h0 : 0 ≤ n) (h1 : n ≤ 1048576) :
    ∃ r, laws_szClasses.f a b n = some r ∧ (r < 0 ∨ (0 ≤ r ∧ r = n - (a.length : Int) - (b.length : Int) ∧ (a.length : Int) + (b.length : Int) ≤ n)) := by
  unfold laws_szClasses.f
  rw [szTable_f a n ha h0 h1]
  simp only [Option.bind_some]
  by_cases h : n < (a.length : Int)
  · rw [if_pos h]
    exact ⟨-1, by simp, .inl (by omega)⟩
  · rw [if_neg h, if_neg (by omega), szTable_f b _ hb (by omega) (by omega)]
    simp only [Option.bind_some]
    by_cases h' : n - (a.length : Int) < (b.length : Int)
    · rw [if_pos h']
      exact ⟨-1, by simp, .inl (by omega)⟩
    · rw [if_neg h', if_neg (by omega)]
      exact ⟨_, rfl, .inr ⟨by omega, rfl, by omega⟩⟩

/-! ### toIntS -/
theorem toIntS_l0 : ∀ (rest pre z : List Int), z.length = rest.length → pre.length + rest.length ≤ 1152921504606846976 → Ev (fun k => laws_toIntS.l0 k (pre ++ rest) (pre ++ z) (pre.length : Int)) (pre ++ rest)
  | [], pre, z, hz, _ => by
    have : z = [] := List.length_eq_zero_iff.1 hz
    subst this
    refine Ev.suc ?_
    simp only [laws_toIntS.l0]
    refine Ev.ite_neg (by simp) (Ev.now _)
  | x :: rest, pre, z, hz, hl => by
    obtain ⟨y, z, rfl⟩ : ∃ y z', z = y :: z' := by
      cases z with
      | nil => simp at hz
      | cons y z' => exact ⟨y, z', rfl⟩
    simp only [List.length_cons] at hz hl
    refine Ev.suc ?_
    simp only [laws_toIntS.l0, rd_mid, set_mid]
    refine Ev.ite_pos (by simp only [List.length_append, List.length_cons]; omega) ?_
    refine Ev.ite_pos (by omega) ?_
    refine Ev.ite_pos (by simp only [List.length_append, List.length_cons]; omega) ?_
    rw [w64 (by omega) (by omega), ← len_snoc pre x, snoc_app pre x rest, snoc_app pre x z]
    exact toIntS_l0 rest (pre ++ [x]) z (by omega) (by simp only [List.length_append, List.length_cons, List.length_nil]; omega)
theorem toIntS_f (l : List Int) (h : l.length ≤ 35184372088832) : Ev (fun k => laws_toIntS.f k l) l := by
  unfold laws_toIntS.f
  refine Ev.ite_pos (by omega) ?_
  refine Ev.ite_pos (by omega) ?_
  exact toIntS_l0 l [] _ (by simp) (by simp; omega)

/-! ### toMesh -/
theorem toMesh_f (w h : Int) (l : List Int) (hl : l.length ≤ 35184372088832) : Ev (fun k => laws_toMesh.f k w h l) (w, h, l) := by
  unfold laws_toMesh.f laws_toGrid.f
  simp only [Option.bind_some]
  exact Ev.bind (toIntS_f l hl) (Ev.now _)

/-! ### toCls -/
theorem toTable_f (l : List Int) (h : l.length ≤ 35184372088832) : Ev (fun k => laws_toTable.f k l) l := by
  unfold laws_toTable.f
  exact Ev.bind (toIntS_f l h) (Ev.now _)
theorem toClasses_f (a b : List Int) (ha : a.length ≤ 35184372088832) (hb : b.length ≤ 35184372088832) : Ev (fun k => laws_toClasses.f k a b) (a, b) := by
  unfold laws_toClasses.f
  exact Ev.bind (toTable_f a ha) (Ev.bind (toTable_f b hb) (Ev.now _))

/-! ### eqIntS -/
theorem eqIntS_l0 : ∀ (rest pre : List Int), pre.length + rest.length ≤ 1152921504606846976 → Ev (fun k => laws_eqIntS.l0 k (pre ++ rest) (pre ++ rest) (pre.length : Int)) true
  | [], pre, _ => by
    refine Ev.suc ?_
    simp only [laws_eqIntS.l0]
    refine Ev.ite_neg (by simp) (Ev.now _)
  | x :: rest, pre, hl => by
    simp only [List.length_cons] at hl
    refine Ev.suc ?_
    simp only [laws_eqIntS.l0, rd_mid]
    refine Ev.ite_pos (by simp only [List.length_append, List.length_cons]; omega) ?_
    refine Ev.ite_pos (by omega) ?_
    refine Ev.ite_pos (by simp only [List.length_append, List.length_cons]; omega) ?_
    refine Ev.ite_pos trivial ?_
    rw [w64 (by omega) (by omega), ← len_snoc pre x, snoc_app pre x rest]
    exact eqIntS_l0 rest (pre ++ [x]) (by simp only [List.length_append, List.length_cons, List.length_nil]; omega)
theorem eqIntS_f (l : List Int) (h : l.length ≤ 35184372088832) : Ev (fun k => laws_eqIntS.f k l l) true := by
  unfold laws_eqIntS.f
  refine Ev.ite_pos rfl ?_
  exact eqIntS_l0 l [] (by simp; omega)

/-! ### eqMesh -/
theorem eqMesh_f (w h : Int) (l : List Int) (hl : l.length ≤ 35184372088832) : Ev (fun k => laws_eqMesh.f k w h l w h l) true := by
  unfold laws_eqMesh.f laws_eqGrid.f
  simp only [if_true, Option.bind_some]
  exact Ev.bind (eqIntS_f l hl) (Ev.ite_pos rfl (Ev.now _))

/-! ### eqCls -/
theorem eqTable_f (l : List Int) (h : l.length ≤ 35184372088832) : Ev (fun k => laws_eqTable.f k l l) true := by
  unfold laws_eqTable.f
  exact Ev.bind (eqIntS_f l h) (Ev.ite_pos rfl (Ev.now _))
theorem eqClasses_f (a b : List Int) (ha : a.length ≤ 35184372088832) (hb : b.length ≤ 35184372088832) : Ev (fun k => laws_eqClasses.f k a b a b) true := by
  unfold laws_eqClasses.f
  exact Ev.bind (eqTable_f a ha) (Ev.ite_pos rfl (Ev.bind (eqTable_f b hb) (Ev.ite_pos rfl (Ev.now _))))

/-! ### eqDepend -/
theorem eqDepend_f (a0 a1 : Int)  : laws_eqDepend.f a0 a1 a0 a1 = some true := by
  unfold laws_eqDepend.f
  simp

/-! ### eqDependS -/
theorem eqDependS_l0 : ∀ (rest pre : List S94), pre.length + rest.length ≤ 1152921504606846976 → Ev (fun k => laws_eqDependS.l0 k (pre ++ rest) (pre ++ rest) (pre.length : Int)) true
  | [], pre, _ => by
    refine Ev.suc ?_
    simp only [laws_eqDependS.l0]
    refine Ev.ite_neg (by simp) (Ev.now _)
  | x :: rest, pre, hl => by
    simp only [List.length_cons] at hl
    refine Ev.suc ?_
    simp only [laws_eqDependS.l0, rdI_Depend, eqDepend_f, Option.bind_some]
    refine Ev.ite_pos (by simp only [List.length_append, List.length_cons]; omega) ?_
    refine Ev.ite_pos (by omega) ?_
    refine Ev.ite_pos (by simp only [List.length_append, List.length_cons]; omega) ?_
    refine Ev.ite_pos trivial ?_
    rw [w64 (by omega) (by omega), ← len_snoc pre x, snoc_app pre x rest]
    exact eqDependS_l0 rest (pre ++ [x]) (by simp only [List.length_append, List.length_cons, List.length_nil]; omega)
theorem eqDependS_f (l : List S94) (h : l.length ≤ 1152921504606846976) : Ev (fun k => laws_eqDependS.f k l l) true := by
  unfold laws_eqDependS.f
  refine Ev.ite_pos rfl ?_
  exact eqDependS_l0 l [] (by simpa using h)

/-! ### markDependS -/
def mkDepend : Int → List S94 → List S94
  | _, [] => []
  | m, _ :: l => (⟨m, m + 1⟩ : S94) :: mkDepend (m + 1 + 1) l
theorem markDepend_l0 : ∀ (rest pre : List S94) (m : Int), pre.length + rest.length ≤ 1099511627776 → 0 ≤ m → m + 2 * (rest.length : Int) ≤ 1152921504606846976 →
    Ev (fun k => laws_markDependS.l0 k (pre ++ rest) m (pre.length : Int)) (m + 2 * (rest.length : Int), pre ++ mkDepend m rest) ∧
    Ev (fun k => laws_heldDependS.l0 k (pre ++ mkDepend m rest) m (pre.length : Int)) (m + 2 * (rest.length : Int))
  | [], pre, m, _, _, _ => by
    constructor
    · refine Ev.suc ?_
      simp only [laws_markDependS.l0]
      exact Ev.ite_neg (by simp) (Ev.val (by simp [mkDepend]))
    · refine Ev.suc ?_
      simp only [laws_heldDependS.l0]
      exact Ev.ite_neg (by simp [mkDepend]) (Ev.val (by simp))
  | x :: rest, pre, m, hl, h0, hm => by
    simp only [List.length_cons] at hl hm
    have hp : (pre.length : Int) < ((pre ++ x :: rest).length : Int) := by simp only [List.length_append, List.length_cons]; omega
    have hw : wrap64 ((pre.length : Int) + 1) = ((pre ++ [(⟨m, m + 1⟩ : S94)]).length : Int) := by rw [w64 (by omega) (by omega), len_snoc]
    have h1 : wrap64 (m + 1) = m + 1 := w64 (by omega) (by omega)
    have h2 : wrap64 (m + 1 + 1) = m + 1 + 1 := w64 (by omega) (by omega)
    have ih := markDepend_l0 rest (pre ++ [(⟨m, m + 1⟩ : S94)]) (m + 1 + 1) (by simp only [List.length_append, List.length_cons, List.length_nil]; omega) (by omega) (by omega)
    have e : m + 1 + 1 + 2 * (rest.length : Int) = m + 2 * ((x :: rest).length : Int) := by
      simp only [List.length_cons]
      omega
    rw [e] at ih
    have el : pre ++ mkDepend m (x :: rest) = pre ++ (⟨m, m + 1⟩ : S94) :: mkDepend (m + 1 + 1) rest := rfl
    constructor
    · refine Ev.suc ?_
      simp only [laws_markDependS.l0, set_mid, rdI_Depend, Option.bind_some, h1, h2, hw]
      refine Ev.ite_pos hp (Ev.ite_pos (by omega) ?_)
      rw [el, snoc_app pre _ rest, snoc_app pre _ (mkDepend _ rest)]
      exact ih.1
    · rw [el]
      have hq : (pre.length : Int) < ((pre ++ (⟨m, m + 1⟩ : S94) :: mkDepend (m + 1 + 1) rest).length : Int) := by simp only [List.length_append, List.length_cons]; omega
      refine Ev.suc ?_
      simp only [laws_heldDependS.l0, rdI_Depend, h1, h2, hw]
      refine Ev.ite_pos hq (Ev.ite_pos (by omega) (Ev.ite_pos (by trivial) (Ev.ite_pos (by trivial) (?_))))
      rw [snoc_app pre _ (mkDepend _ rest)]
      exact ih.2
/-- What is marked is held. -/
theorem markDepend_f (l : List S94) (m : Int) (hl : l.length ≤ 1099511627776) (h0 : 0 ≤ m) (h1 : m ≤ 1099511627776) :
    ∃ m' l', m ≤ m' ∧ m' ≤ m + 2 * (l.length : Int) ∧ l'.length = l.length ∧ Ev (fun k => laws_markDependS.f k l m) (m', l') ∧ Ev (fun k => laws_heldDependS.f k l' m) m' := by
  have h := markDepend_l0 l [] m (by simpa using hl) h0 (by omega)
  have hlen : ∀ (l : List S94) (m : Int), (mkDepend m l).length = l.length := by
    intro l
    induction l with
    | nil => exact fun _ => rfl
    | cons x l ih => exact fun m => by simp only [mkDepend, List.length_cons, ih]
  refine ⟨m + 2 * (l.length : Int), mkDepend m l, by omega, by omega, hlen l m, ?_, ?_⟩
  · unfold laws_markDependS.f
    exact h.1
  · unfold laws_heldDependS.f
    exact h.2

/-! ### markIm -/
theorem markIm_l0 : ∀ (rest pre : List Int) (m : Int), pre.length + rest.length ≤ 1099511627776 → 0 ≤ m → m + (rest.length : Int) ≤ 1152921504606846976 → ∃ l', Ev (fun k => laws_markIntS.l0 k (pre ++ rest) m (pre.length : Int)) (m + (rest.length : Int), l')
  | [], pre, m, _, _, _ => by
    refine ⟨pre ++ [], Ev.suc ?_⟩
    simp only [laws_markIntS.l0]
    exact Ev.ite_neg (by simp) (Ev.val (by simp))
  | x :: rest, pre, m, hl, h0, hm => by
    simp only [List.length_cons] at hl hm
    have hp : (pre.length : Int) < ((pre ++ x :: rest).length : Int) := by simp only [List.length_append, List.length_cons]; omega
    have hw : wrap64 ((pre.length : Int) + 1) = ((pre ++ [m]).length : Int) := by rw [w64 (by omega) (by omega), len_snoc]
    have h1 : wrap64 (m + 1) = m + 1 := w64 (by omega) (by omega)
    obtain ⟨l', ih⟩ := markIm_l0 rest (pre ++ [m]) (m + 1) (by simp only [List.length_append, List.length_cons, List.length_nil]; omega) (by omega) (by omega)
    have e : m + 1 + (rest.length : Int) = m + ((x :: rest).length : Int) := by
      simp only [List.length_cons]
      omega
    rw [e] at ih
    refine ⟨l', Ev.suc ?_⟩
    simp only [laws_markIntS.l0, set_mid, Option.bind_some, h1, hw]
    refine Ev.ite_pos hp (Ev.ite_pos (by omega) ?_)
    rw [snoc_app pre _ rest]
    exact ih
theorem markIm_f (l : List Int) (m : Int) (hl : l.length ≤ 1099511627776) (h0 : 0 ≤ m) (h1 : m ≤ 1099511627776) : ∃ m' l', m ≤ m' ∧ m' ≤ m + (l.length : Int) ∧ Ev (fun k => laws_markIntS.f k l m) (m', l') := by
  obtain ⟨l', h⟩ := markIm_l0 l [] m (by simpa using hl) h0 (by omega)
  refine ⟨_, l', by omega, Int.le_refl _, ?_⟩
  unfold laws_markIntS.f
  exact h

theorem markCls_f (a b : List Int) (m : Int) (ha : a.length ≤ 1048576) (hb : b.length ≤ 1048576) (h0 : 0 ≤ m) (h1 : m ≤ 1073741824) : ∃ m' a' b', m ≤ m' ∧ Ev (fun k => laws_markClasses.f k a b m) (m', a', b') := by
  obtain ⟨n, a', p1, p2, p4⟩ := markIm_f a m (by omega) h0 (by omega)
  obtain ⟨m', b', q1, q2, q4⟩ := markIm_f b n (by omega) (by omega) (by omega)
  refine ⟨m', a', b', by omega, ?_⟩
  unfold laws_markClasses.f laws_markTable.f
  exact Ev.bind (Ev.bind p4 (Ev.now _)) (Ev.bind (Ev.bind q4 (Ev.now _)) (Ev.now _))
theorem FnExactClassDepends : FnExactClassDepends_says := by
  intro w h br p q _ _ hbr hp hq
  refine Ev.rounds ?_
  unfold laws_FnExactClassDepends.f
  by_cases hb' : (1048576 : Int) < (br.length : Int)
  · have e := szMesh_f w h br _ hbr (by omega) (Int.le_refl _)
    rw [if_pos hb'] at e
    exact Ev.bindS e (Ev.ite_pos (by decide) (Ev.now _))
  have e := szMesh_f w h br _ hbr (by omega) (Int.le_refl _)
  rw [if_neg hb'] at e
  refine Ev.bindS e (Ev.ite_neg (by omega) ?_)
  obtain ⟨r, hr, hr2⟩ := szClasses_f p q (1048576 - (br.length : Int)) hp hq (by omega) (by omega)
  refine Ev.bindS hr ?_
  refine Ev.ite (fun _ => Ev.now _) (fun hn => ?_)
  have hp' : p.length ≤ 1048576 := by omega
  have hq' : q.length ≤ 1048576 := by omega
  obtain ⟨l, ha, hl, vs, vi⟩ := classDep w h br p q (by omega)
  have m := toMesh_f w h br (by omega)
  have t := toClasses_f p q (by omega) (by omega)
  have me := eqMesh_f w h br (by omega)
  have te := eqClasses_f p q (by omega) (by omega)
  have ve := eqDependS_f l (by omega)
  obtain ⟨m1, l', q1, _, _, q2, q3⟩ := markDepend_f l 1 (by omega) (by omega) (by omega)
  obtain ⟨n1, br', a1, a2, a4⟩ := markIm_f br 1 (by omega) (by omega) (by omega)
  have mm : Ev (fun k => laws_markMesh.f k w h br 1) (n1, br') := by
    unfold laws_markMesh.f
    exact Ev.bind a4 (Ev.now _)
  obtain ⟨n2, p2, q2', b1, b3⟩ := markCls_f p q n1 hp' hq' (by omega) (by omega)
  refine Ev.bind m (Ev.bind t (Ev.bind vs (Ev.bind m (Ev.bind t (Ev.bind vi (Ev.bind ve (Ev.ite_pos rfl (Ev.bind m (Ev.bind me (Ev.ite_pos rfl (Ev.bind t (Ev.bind te (Ev.ite_pos rfl (Ev.bind mm (Ev.bind b3 (Ev.ite_neg (by omega) (Ev.bind ve (Ev.suc ?_))))))))))))))))))
  simp only [laws_FnExactClassDepends.j0]
  exact Ev.ite_neg (by simp) (Ev.bind q2 (Ev.bind q3 (Ev.ite_neg (by omega) (Ev.ite_pos rfl (Ev.bind m (Ev.bind t (Ev.bind vi (Ev.bind ve (Ev.ite_pos rfl (Ev.bind q3 (Ev.ite_neg (by omega) (Ev.ite_pos rfl (Ev.now _)))))))))))))

end Go.Proofs.Ytimdefbpoddoaaa.Pure
