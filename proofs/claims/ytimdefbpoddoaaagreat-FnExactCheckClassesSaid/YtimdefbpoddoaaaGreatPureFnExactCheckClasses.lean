/- The plain statement of the law FnExactCheckClasses: the program's CheckClasses and the reference's give one verdict, and nothing is shared. No condition. -/
import Derived.Test.YtimdefbpoddoaaaGreatPFnExactCheckClassesx
import Derived.Test.YtimdefbpoddoaaaGreatU
import Derived.Test.YtimdefbpoddoaaaGreatSaysFnExactCheckClasses
namespace Go.Proofs.YtimdefbpoddoaaaGreat.Pure
open Go.RowKit Go.Proofs.YtimdefbpoddoaaaGreat.PFnExactCheckClasses Go.Proofs.YtimdefbpoddoaaaGreatW.PrintWords Go.Proofs.YtimdefbpoddoaaaGreatW.PrintLast Go.Proofs.YtimdefbpoddoaaaGreatW.PrintMore Go.Proofs.YtimdefbpoddoaaaGreat.U
set_option linter.unusedVariables false
set_option linter.unusedSimpArgs false

theorem l01In_f (a b c : Int) : spec_l01In.f a b c = some (decide (b ≤ a ∧ a ≤ c)) := by
 unfold spec_l01In.f
 by_cases h : a ≥ b
 ·rw [if_pos h]
  simp [show b ≤ a from h]
 ·rw [if_neg h]
  simp [show ¬ b ≤ a from h]

abbrev gOk (w h : Int) : Prop := 1 ≤ w ∧ w ≤ 4 ∧ 1 ≤ h ∧ h ≤ 4
def ncR (w h : Int) : Int := if gOk w h then w * h else 0
theorem mul_b {w h : Int} (hw : 1 ≤ w ∧ w ≤ 4) (hh : 1 ≤ h ∧ h ≤ 4) : 1 ≤ w * h ∧ w * h ≤ 16 := by
 obtain h1 | h1 | h1 | h1 : w = 1 ∨ w = 2 ∨ w = 3 ∨ w = 4 := by omega
 all_goals
  subst h1
  omega
theorem ncR_b (w h : Int) : 0 ≤ ncR w h ∧ ncR w h ≤ 16 := by
 unfold ncR
 split
 ·rename_i hg
  have := mul_b ⟨hg.1, hg.2.1⟩ hg.2.2
  omega
 ·omega
abbrev nodeOk (w h n : Int) : Prop := 0 ≤ n ∧ n ≤ ncR w h - 1

theorem GridOk_s (w h : Int) : spec_GridOk.f w h = some (decide (gOk w h)) := by
 unfold spec_GridOk.f gOk
 simp only [l01In_f, Option.bind_some, decide_eq_true_eq]
 split
 ·rename_i h1
  simp [h1]
 ·rename_i h1
  simp only [Option.some.injEq]
  symm
  rw [decide_eq_false_iff_not]
  exact fun h2 => h1 ⟨h2.1, h2.2.1⟩
theorem NodeCount_s (w h : Int) : spec_NodeCount.f w h = some (ncR w h) := by
 unfold spec_NodeCount.f ncR
 simp only [GridOk_s, Option.bind_some, decide_eq_true_eq]
 split
 ·rename_i hg
  have := mul_b ⟨hg.1, hg.2.1⟩ hg.2.2
  rw [w64 (by omega) (by omega)]
 ·rfl

theorem l02Has_s (w h n : Int) : spec_l02Has.f w h n = some (decide (nodeOk w h n)) := by
 unfold spec_l02Has.f nodeOk
 have := ncR_b w h
 simp only [NodeCount_s, l01In_f, Option.bind_some]
 rw [w64 (by omega) (by omega)]

theorem inside_f (a b c : Int) : impl_inside.f a b c = some (decide (b ≤ a ∧ a ≤ c)) := by
 unfold impl_inside.f
 by_cases h : b ≤ a
 ·rw [if_pos h]
  simp [h]
 ·rw [if_neg h]
  simp [h]

theorem GridOk_i (w h : Int) : impl_GridOk.f w h = some (decide (gOk w h)) := by
 unfold impl_GridOk.f gOk
 simp only [inside_f, Option.bind_some, decide_eq_true_eq]
 split
 ·rename_i h1
  simp [h1]
 ·rename_i h1
  simp only [Option.some.injEq]
  symm
  rw [decide_eq_false_iff_not]
  exact fun h2 => h1 ⟨h2.1, h2.2.1⟩
theorem NodeCount_i (w h : Int) : impl_NodeCount.f w h = some (ncR w h) := by
 unfold impl_NodeCount.f ncR
 simp only [GridOk_i, Option.bind_some, decide_eq_true_eq]
 split
 ·rename_i hg
  have := mul_b ⟨hg.1, hg.2.1⟩ hg.2.2
  rw [w64 (by omega) (by omega)]
 ·rfl

theorem isNode_i (w h n : Int) : impl_isNode.f w h n = some (decide (nodeOk w h n)) := by
 unfold impl_isNode.f nodeOk
 have := ncR_b w h
 simp only [NodeCount_i, inside_f, Option.bind_some]
 rw [w64 (by omega) (by omega)]

def nodeAtR (w h x y : Int) : Int := if gOk w h ∧ (0 ≤ x ∧ x ≤ w - 1) ∧ (0 ≤ y ∧ y ≤ h - 1) then y * w + x else -1
theorem nodeAt_b (w h x y : Int) : nodeAtR w h x y = -1 ∨ nodeOk w h (nodeAtR w h x y) := by
 unfold nodeAtR
 split
 ·rename_i hc
  obtain ⟨hg, hx, hy⟩ := hc
  right
  have hn : ncR w h = w * h := if_pos hg
  rw [nodeOk, hn]
  obtain ⟨g1, g2, g3, g4⟩ := hg
  obtain h1 | h1 | h1 | h1 : w = 1 ∨ w = 2 ∨ w = 3 ∨ w = 4 := by omega
  all_goals
   subst h1
   omega
 ·exact .inl rfl
theorem NodeAt_s (w h x y : Int) : spec_NodeAt.f w h x y = some (nodeAtR w h x y) := by
 unfold spec_NodeAt.f nodeAtR
 simp only [GridOk_s, l01In_f, Option.bind_some, decide_eq_true_eq]
 by_cases hg : gOk w h
 ·have e1 : wrap64 (w - 1) = w - 1 := w64 (by have := hg.1; omega) (by have := hg.2.1; omega)
  have e2 : wrap64 (h - 1) = h - 1 := w64 (by have := hg.2.2.1; omega) (by have := hg.2.2.2; omega)
  rw [if_pos hg, e1, e2]
  by_cases hx : 0 ≤ x ∧ x ≤ w - 1
  ·by_cases hy : 0 ≤ y ∧ y ≤ h - 1
   ·rw [if_pos hx, if_pos hy, if_pos ⟨hg, hx, hy⟩]
    obtain ⟨g1, g2, g3, g4⟩ := hg
    have hm : 0 ≤ y * w ∧ y * w ≤ 12 := by
     obtain h1 | h1 | h1 | h1 : w = 1 ∨ w = 2 ∨ w = 3 ∨ w = 4 := by omega
     all_goals
      subst h1
      omega
    rw [w64 (x := y * w) (by omega) (by omega), w64 (by omega) (by omega)]
   ·rw [if_pos hx, if_neg hy, if_neg (fun hh => hy hh.2.2)]
  ·rw [if_neg hx, if_neg (fun hh => hx hh.2.1)]
 ·rw [if_neg hg, if_neg (fun hh => hg hh.1)]
theorem NodeAt_i (w h x y : Int) : impl_NodeAt.f w h x y = some (nodeAtR w h x y) := by
 have e : impl_NodeAt.f w h x y = spec_NodeAt.f w h x y := by
  unfold impl_NodeAt.f spec_NodeAt.f
  simp only [GridOk_i, GridOk_s, inside_f, l01In_f]
 rw [e, NodeAt_s]
def nextR (w h n p : Int) : Int :=
 if nodeOk w h n then
  (if p = 0 then nodeAtR w h (n % w) (n / w - 1) else if p = 1 then nodeAtR w h (n % w + 1) (n / w) else if p = 2 then nodeAtR w h (n % w) (n / w + 1) else if p = 3 then nodeAtR w h (n % w - 1) (n / w) else if p = 4 then n else -1)
 else -1
theorem nextR_b (w h n p : Int) : nextR w h n p = -1 ∨ nodeOk w h (nextR w h n p) := by
 unfold nextR
 by_cases hn : nodeOk w h n
 ·rw [if_pos hn]
  by_cases h0 : p = 0
  ·rw [if_pos h0]
   exact nodeAt_b _ _ _ _
  rw [if_neg h0]
  by_cases h1 : p = 1
  ·rw [if_pos h1]
   exact nodeAt_b _ _ _ _
  rw [if_neg h1]
  by_cases h2 : p = 2
  ·rw [if_pos h2]
   exact nodeAt_b _ _ _ _
  rw [if_neg h2]
  by_cases h3 : p = 3
  ·rw [if_pos h3]
   exact nodeAt_b _ _ _ _
  rw [if_neg h3]
  by_cases h4 : p = 4
  ·rw [if_pos h4]
   exact .inr hn
  ·rw [if_neg h4]
   exact .inl rfl
 ·rw [if_neg hn]
  exact .inl rfl
theorem nodeOk_g {w h n : Int} (hn : nodeOk w h n) : gOk w h ∧ 0 ≤ n ∧ n ≤ 15 := by
 obtain ⟨h0, h1⟩ := hn
 have hb := ncR_b w h
 by_cases hg : gOk w h
 ·exact ⟨hg, h0, by omega⟩
 ·have e : ncR w h = 0 := if_neg hg
  omega
theorem div_b {w x : Int} (hw : 1 ≤ w ∧ w ≤ 4) (hx : 0 ≤ x ∧ x ≤ 15) : Int.tmod x w = x % w ∧ Int.tdiv x w = x / w ∧ 0 ≤ x % w ∧ x % w < w ∧ 0 ≤ x / w ∧ x / w ≤ 15 := by
 rw [Int.tmod_eq_emod_of_nonneg hx.1, Int.tdiv_eq_ediv_of_nonneg hx.1]
 refine ⟨rfl, rfl, Int.emod_nonneg _ (by omega), Int.emod_lt_of_pos _ (by omega), Int.ediv_nonneg hx.1 (by omega), ?_⟩
 obtain h1 | h1 | h1 | h1 : w = 1 ∨ w = 2 ∨ w = 3 ∨ w = 4 := by omega
 all_goals
  subst h1
  omega
theorem NextNode_s (w h n p : Int) : spec_NextNode.f w h n p = some (nextR w h n p) := by
 unfold spec_NextNode.f nextR
 simp only [l02Has_s, Option.bind_some, decide_eq_true_eq]
 by_cases hn : nodeOk w h n
 ·obtain ⟨hg, h0, h15⟩ := nodeOk_g hn
  obtain ⟨a1, a2, a3, a4, a5, a6⟩ := div_b ⟨hg.1, hg.2.1⟩ ⟨h0, h15⟩
  rw [if_pos hn, if_pos hn, if_neg (by have := hg.1; omega), a1, a2]
  have hw4 := hg.2.1
  generalize n % w = x at *
  generalize n / w = y at *
  have e1 : wrap64 y = y := w64 (by omega) (by omega)
  have e2 : wrap64 (y - 1) = y - 1 := w64 (by omega) (by omega)
  have e3 : wrap64 (y + 1) = y + 1 := w64 (by omega) (by omega)
  have e4 : wrap64 (x - 1) = x - 1 := w64 (by omega) (by omega)
  have e5 : wrap64 (x + 1) = x + 1 := w64 (by omega) (by omega)
  simp only [e1, e2, e3, e4, e5, NodeAt_s, Option.bind_some]
  repeat' split
  all_goals rfl
 ·rw [if_neg hn, if_neg hn]
theorem NextNode_i (w h n p : Int) : impl_NextNode.f w h n p = some (nextR w h n p) := by
 have e : impl_NextNode.f w h n p = spec_NextNode.f w h n p := by
  unfold impl_NextNode.f spec_NextNode.f
  simp only [isNode_i, l02Has_s, NodeAt_i, NodeAt_s]
 rw [e, NextNode_s]
def leadsR (w h c : Int) : Bool := decide (0 ≤ c ∧ c ≤ 4 * ncR w h - 1) && decide (nextR w h (c / 4) (c % 4) ≥ 0)
theorem leads_s (w h c : Int) : spec_l03Leads.f w h c = some (leadsR w h c) := by
 unfold spec_l03Leads.f leadsR
 have hb := ncR_b w h
 simp only [NodeCount_s, l01In_f, Option.bind_some, decide_eq_true_eq]
 rw [w64 (x := 4 * ncR w h) (by omega) (by omega), w64 (x := 4 * ncR w h - 1) (by omega) (by omega)]
 by_cases hc : 0 ≤ c ∧ c ≤ 4 * ncR w h - 1
 ·rw [if_pos hc, Int.tdiv_eq_ediv_of_nonneg hc.1, Int.tmod_eq_emod_of_nonneg hc.1, w64 (x := c / 4) (by omega) (by omega), NextNode_s]
  simp [hc]
 ·rw [if_neg hc]
  simp [hc]
theorem leads_i (w h c : Int) : impl_leads.f w h c = some (leadsR w h c) := by
 have e : impl_leads.f w h c = spec_l03Leads.f w h c := by
  unfold impl_leads.f spec_l03Leads.f
  simp only [NodeCount_i, NodeCount_s, inside_f, l01In_f, NextNode_i, NextNode_s]
 rw [e, leads_s]

/-- The list from an element on, behind what stands ahead of it. -/
def brR (w h : Int) : Option Int → List Int → Bool
 | _, [] => true
 | p, x :: r => leadsR w h x && (match p with | none => true | some y => decide (y < x)) && brR w h (some x) r
def meshR (w h : Int) (br : List Int) : Bool := decide (gOk w h) && brR w h none br
theorem rd_app_last (pre : List Int) (y : Int) (rest : List Int) : rd (pre ++ [y] ++ rest) (((pre ++ [y]).length : Int) - 1) = y := by
 have e : ((pre ++ [y]).length : Int) - 1 = (pre.length : Int) := by
  rw [len_snoc]
  omega
 rw [e, List.append_assoc]
 exact rd_mid pre y rest

/-- A channel of a valid mesh. -/
def hasR (w h : Int) (br : List Int) (c : Int) : Bool := leadsR w h c && !decide (c ∈ br)

theorem idx_b {n x y : Int} (hn : 0 ≤ n ∧ n ≤ 16) (hx : 0 ≤ x ∧ x ≤ n - 1) (hy : 0 ≤ y ∧ y ≤ n - 1) : 0 ≤ x * n ∧ x * n ≤ 256 ∧ x * n + y < n * n ∧ n * n ≤ 256 := by
 have h1 : 0 ≤ x * n := Int.mul_nonneg hx.1 hn.1
 have h2 : (x + 1) * n ≤ n * n := Int.mul_le_mul_of_nonneg_right (by omega) hn.1
 have h3 : n * n ≤ 16 * n := Int.mul_le_mul_of_nonneg_right hn.2 hn.1
 rw [Int.add_mul, Int.one_mul] at h2
 omega
theorem idx_w {n x y : Int} (hn : 0 ≤ n ∧ n ≤ 16) (hx : 0 ≤ x ∧ x ≤ n - 1) (hy : 0 ≤ y ∧ y ≤ n - 1) : wrap64 (wrap64 (x * n) + y) = x * n + y ∧ wrap64 (n * n) = n * n := by
 have hb := idx_b hn hx hy
 generalize x * n = m at *
 generalize n * n = q at *
 rw [w64 (x := m) (by omega) (by omega), w64 (x := m + y) (by omega) (by omega), w64 (x := q) (by omega) (by omega)]
 exact ⟨rfl, rfl⟩
/-- The walk from a node on, d channels at most still allowed. -/
def walkGo (w h : Int) (br ps : List Int) (dst : Int) : Nat → List Int → Int → List Int
 | 0, _, _ => []
 | d + 1, acc, x => if rd ps (x * ncR w h + dst) = 4 then (if x = dst then acc else []) else
   if (0 ≤ rd ps (x * ncR w h + dst) ∧ rd ps (x * ncR w h + dst) ≤ 3) ∧ hasR w h br (4 * x + rd ps (x * ncR w h + dst)) = true then
    walkGo w h br ps dst d (acc ++ [4 * x + rd ps (x * ncR w h + dst)]) (nextR w h x (rd ps (x * ncR w h + dst)))
   else []
def walkR (w h : Int) (br ps : List Int) (x dst : Int) : List Int := walkGo w h br ps dst ((ncR w h).toNat + 1) [] x
theorem walkGo_zero (w h : Int) (br ps : List Int) (dst : Int) (acc : List Int) (x : Int) (hx : ¬ (rd ps (x * ncR w h + dst) = 4)) : walkGo w h br ps dst 1 acc x = [] := by
 unfold walkGo
 rw [if_neg hx]
 split <;> rfl
theorem ch_div {x p : Int} (hp : 0 ≤ p ∧ p ≤ 3) : (4 * x + p) / 4 = x ∧ (4 * x + p) % 4 = p := by omega
theorem has_next {w h : Int} {br : List Int} {x p : Int} (hp : 0 ≤ p ∧ p ≤ 3) (hh : hasR w h br (4 * x + p) = true) : nodeOk w h (nextR w h x p) := by
 unfold hasR leadsR at hh
 obtain ⟨e1, e2⟩ := ch_div (x := x) hp
 rw [e1, e2] at hh
 simp only [Bool.and_eq_true, decide_eq_true_eq] at hh
 rcases nextR_b w h x p with h1 | h1
 ·rw [h1] at hh
  omega
 ·exact h1

def diagOk (w h : Int) (ps : List Int) : Prop := ∀ x : Nat, (x : Int) < ncR w h → rd ps ((x : Int) * ncR w h + (x : Int)) = 4
def walksOk (w h : Int) (br ps : List Int) : Prop := ∀ x y : Nat, (x : Int) < ncR w h → (y : Int) < ncR w h → x ≠ y → walkR w h br ps (x : Int) (y : Int) ≠ []
/-- A table is valid. -/
def tableOk (w h : Int) (br ps : List Int) : Prop := meshR w h br = true ∧ (ps.length : Int) = ncR w h * ncR w h ∧ diagOk w h ps ∧ walksOk w h br ps

theorem rdI_Depend (pre : List S98) (x : S98) (rest : List S98) : rd_T98 (pre ++ x :: rest) (pre.length : Int) = x := getD_mid pre x rest _

abbrev dIn (x : S98) : Prop := (0 ≤ x.f0 ∧ x.f0 ≤ 127) ∧ (0 ≤ x.f1 ∧ x.f1 ≤ 127)
abbrev dLt (a b : S98) : Prop := a.f0 < b.f0 ∨ (a.f0 = b.f0 ∧ a.f1 < b.f1)
def dGo : S98 → List S98 → Bool
 | _, [] => true
 | y, x :: r => decide (dIn x) && (decide (dLt y x) && dGo x r)
/-- The list of depends is valid. -/
def dAll : List S98 → Bool
 | [] => true
 | x :: r => decide (dIn x) && dGo x r
theorem dGo_cons (y x : S98) (r : List S98) : dGo y (x :: r) = (decide (dIn x) && (decide (dLt y x) && dGo x r)) := rfl
theorem dAll_cons (x : S98) (r : List S98) : dAll (x :: r) = (decide (dIn x) && dGo x r) := rfl
theorem prev_rd (p : List S98) (y x : S98) (rest : List S98) (hl : (p ++ [y]).length + rest.length < 1152921504606846976) : wrap64 (((p ++ [y]).length : Int) - 1) = (p.length : Int) ∧ rd_T98 (p ++ [y] ++ x :: rest) (p.length : Int) = y := by
 refine ⟨?_, ?_⟩
 ·simp only [List.length_append, List.length_cons, List.length_nil] at hl ⊢
  rw [w64 (by omega) (by omega)]
  omega
 ·rw [List.append_assoc]
  exact rdI_Depend p y (x :: rest)

theorem dLt_trans {a b c : S98} (h : dLt a b) (k : dLt b c) : dLt a c := by
 unfold dLt at *
 omega
theorem dGo_iff : ∀ (r : List S98) (y : S98), dGo y r = true ↔ (∀ x ∈ r, dIn x) ∧ (y :: r).Pairwise dLt
 | [], y => by simp [dGo]
 | z :: r, y => by
  rw [dGo_cons, Bool.and_eq_true, Bool.and_eq_true, decide_eq_true_eq, decide_eq_true_eq, dGo_iff r z]
  constructor
  ·rintro ⟨h1, h2, h3, h4⟩
   refine ⟨fun x hx => ?_, List.pairwise_cons.2 ⟨fun x hx => ?_, h4⟩⟩
   ·rcases List.mem_cons.1 hx with rfl | hx
    ·exact h1
    ·exact h3 x hx
   ·rcases List.mem_cons.1 hx with rfl | hx
    ·exact h2
    ·exact dLt_trans h2 ((List.pairwise_cons.1 h4).1 x hx)
  ·rintro ⟨h1, h2⟩
   rw [List.pairwise_cons] at h2
   exact ⟨h1 z List.mem_cons_self, h2.1 z List.mem_cons_self, fun x hx => h1 x (List.mem_cons_of_mem _ hx), h2.2⟩
theorem dAll_iff : ∀ (l : List S98), dAll l = true ↔ (∀ x ∈ l, dIn x) ∧ l.Pairwise dLt
 | [] => by simp [dAll]
 | z :: r => by
  rw [dAll_cons, Bool.and_eq_true, decide_eq_true_eq, dGo_iff]
  constructor
  ·rintro ⟨h1, h2, h3⟩
   refine ⟨fun x hx => ?_, h3⟩
   rcases List.mem_cons.1 hx with rfl | hx
   ·exact h1
   ·exact h2 x hx
  ·rintro ⟨h1, h2⟩
   exact ⟨h1 z List.mem_cons_self, fun x hx => h1 x (List.mem_cons_of_mem _ hx), h2⟩
theorem rdD_at (l : List S98) (i : Nat) (h : i < l.length) : rd_T98 l (i : Int) = l[i] := by
 show l.getD (i : Int).toNat _ = _
 rw [Int.toNat_natCast, List.getD_eq_getElem?_getD, List.getElem?_eq_getElem h]
 rfl

theorem sdLe_trans (a b c : SD) (h : sdLe a b = true) (k : sdLe b c = true) : sdLe a c = true := by
 unfold sdLe at *
 rw [decide_eq_true_eq] at *
 omega
theorem sdLe_total (a b : SD) : (sdLe a b || sdLe b a) = true := by
 unfold sdLe
 rw [Bool.or_eq_true, decide_eq_true_eq, decide_eq_true_eq]
 omega
abbrev sdL (a b : SD) : Prop := a.1.val < b.1.val ∨ (a.1.val = b.1.val ∧ a.2.val < b.2.val)
theorem sdL_of {a b : SD} (h : sdLe a b = true) (hne : a ≠ b) : sdL a b := by
 unfold sdLe at h
 rw [decide_eq_true_eq] at h
 have : ¬ (a.1.val = b.1.val ∧ a.2.val = b.2.val) := fun e => hne (Prod.ext (Fin.ext e.1) (Fin.ext e.2))
 unfold sdL
 omega
theorem sdDd_mem : ∀ (l : List SD) (x : SD), x ∈ sdDd l ↔ x ∈ l
 | [], x => Iff.rfl
 | [a], x => Iff.rfl
 | a :: b :: r, x => by
  have ih := sdDd_mem (b :: r) x
  show (x ∈ if a = b then sdDd (b :: r) else a :: sdDd (b :: r)) ↔ x ∈ a :: b :: r
  by_cases h : a = b
  ·rw [if_pos h, ih, h]
   simp
  ·rw [if_neg h, List.mem_cons, ih, List.mem_cons (a := x) (b := a)]
theorem sdDd_len : ∀ (l : List SD), (sdDd l).length ≤ l.length
 | [] => Nat.le_refl _
 | [a] => Nat.le_refl _
 | a :: b :: r => by
  have ih := sdDd_len (b :: r)
  show (if a = b then sdDd (b :: r) else a :: sdDd (b :: r)).length ≤ (a :: b :: r).length
  split
  ·simp only [List.length_cons] at *
   omega
  ·simp only [List.length_cons] at *
   omega
theorem sdDd_sorted : ∀ (l : List SD), l.Pairwise (fun a b => sdLe a b = true) → (sdDd l).Pairwise sdL
 | [], _ => .nil
 | [a], _ => List.pairwise_singleton _ _
 | a :: b :: r, h => by
  have h1 := List.pairwise_cons.1 h
  have ih := sdDd_sorted (b :: r) h1.2
  show (if a = b then sdDd (b :: r) else a :: sdDd (b :: r)).Pairwise sdL
  by_cases e : a = b
  ·rw [if_pos e]
   exact ih
  ·rw [if_neg e]
   refine List.pairwise_cons.2 ⟨fun x hx => ?_, ih⟩
   have hx := (sdDd_mem (b :: r) x).1 hx
   have hab := sdL_of (h1.1 b List.mem_cons_self) e
   rcases List.mem_cons.1 hx with rfl | hx
   ·exact hab
   ·have hbx := (List.pairwise_cons.1 h1.2).1 x hx
    unfold sdLe at hbx
    rw [decide_eq_true_eq] at hbx
    unfold sdL at *
    omega
theorem sdIn_of {x : S98} (h : dIn x) : sdIn x = true := decide_eq_true h
theorem sdTo_in (x : SD) : dIn (sdTo x) := by
 have h0 := x.1.isLt
 have h1 := x.2.isLt
 show (0 ≤ (x.1.val : Int) ∧ (x.1.val : Int) ≤ 127) ∧ (0 ≤ (x.2.val : Int) ∧ (x.2.val : Int) ≤ 127)
 omega
theorem sdTo_of' {x : S98} (h : dIn x) : sdTo (sdOf x) = x := by
 have h : (0 ≤ x.f0 ∧ x.f0 ≤ 127) ∧ (0 ≤ x.f1 ∧ x.f1 ≤ 127) := h
 show (⟨((x.f0.toNat % 128 : Nat) : Int), ((x.f1.toNat % 128 : Nat) : Int)⟩ : S98) = x
 have e0 : ((x.f0.toNat % 128 : Nat) : Int) = x.f0 := by omega
 have e1 : ((x.f1.toNat % 128 : Nat) : Int) = x.f1 := by omega
 rw [e0, e1]
/-- What 'arranged' gives: the same dependencies, in order, each once. -/
theorem arr_i (l : List S98) (hd : ∀ x ∈ l, dIn x) (hl : l.length ≤ 1048576) : ∃ r, impl_arranged.f l = some r ∧ dAll r = true ∧ (∀ x, x ∈ r ↔ x ∈ l) ∧ r.length ≤ l.length := by
 have hp := List.mergeSort_perm (l.map sdOf) sdLe
 have hs := List.pairwise_mergeSort sdLe_trans sdLe_total (l.map sdOf)
 refine ⟨(sdDd ((l.map sdOf).mergeSort sdLe)).map sdTo, ?_, ?_, fun x => ?_, ?_⟩
 ·unfold impl_arranged.f
  rw [if_pos ⟨List.all_eq_true.2 (fun x hx => sdIn_of (hd x hx)), by omega⟩]
 ·refine (dAll_iff _).2 ⟨fun x hx => ?_, ?_⟩
  ·obtain ⟨y, _, rfl⟩ := List.mem_map.1 hx
   exact sdTo_in y
  ·rw [List.pairwise_map]
   refine (sdDd_sorted _ hs).imp fun {a b} h => ?_
   show (a.1.val : Int) < (b.1.val : Int) ∨ ((a.1.val : Int) = (b.1.val : Int) ∧ (a.2.val : Int) < (b.2.val : Int))
   unfold sdL at h
   omega
 ·rw [List.mem_map]
  constructor
  ·rintro ⟨y, hy, rfl⟩
   rw [sdDd_mem, hp.mem_iff, List.mem_map] at hy
   obtain ⟨z, hz, rfl⟩ := hy
   rw [sdTo_of' (hd z hz)]
   exact hz
  ·intro hx
   exact ⟨sdOf x, by rw [sdDd_mem, hp.mem_iff]; exact List.mem_map.2 ⟨x, hx, rfl⟩, sdTo_of' (hd x hx)⟩
 ·rw [List.length_map]
  have := sdDd_len ((l.map sdOf).mergeSort sdLe)
  rw [hp.length_eq, List.length_map] at this
  exact this
/-- Valid dependencies are told by their members. -/
theorem dAll_ext : ∀ (l m : List S98), dAll l = true → dAll m = true → (∀ x, x ∈ l ↔ x ∈ m) → l = m := by
 have irr : ∀ a : S98, ¬ dLt a a := fun a => by unfold dLt; omega
 have asy : ∀ a b : S98, dLt a b → dLt b a → False := fun a b h k => by unfold dLt at *; omega
 have key : ∀ (l m : List S98), l.Pairwise dLt → m.Pairwise dLt → (∀ x, x ∈ l ↔ x ∈ m) → l = m := by
  intro l
  induction l with
  | nil =>
   intro m _ _ h
   cases m with
   | nil => rfl
   | cons b m => exact absurd ((h b).2 List.mem_cons_self) List.not_mem_nil
  | cons a l ih =>
   intro m hl hm h
   cases m with
   | nil => exact absurd ((h a).1 List.mem_cons_self) List.not_mem_nil
   | cons b m =>
    have hl' := List.pairwise_cons.1 hl
    have hm' := List.pairwise_cons.1 hm
    have e : a = b := by
     rcases List.mem_cons.1 ((h a).1 List.mem_cons_self) with e | h1
     ·exact e
     ·rcases List.mem_cons.1 ((h b).2 List.mem_cons_self) with e | h2
      ·exact e.symm
      ·exact (asy a b (hl'.1 b h2) (hm'.1 a h1)).elim
    subst e
    rw [ih m hl'.2 hm'.2 (fun x => ?_)]
    have hx := h x
    rw [List.mem_cons, List.mem_cons] at hx
    constructor
    ·intro h1
     rcases hx.1 (Or.inr h1) with rfl | h2
     ·exact absurd (hl'.1 x h1) (irr x)
     ·exact h2
    ·intro h1
     rcases hx.2 (Or.inr h1) with rfl | h2
     ·exact absurd (hm'.1 x h1) (irr x)
     ·exact h2
 exact fun l m hl hm h => key l m ((dAll_iff l).1 hl).2 ((dAll_iff m).1 hm).2 h

theorem walkGo_b (w h : Int) (br ps : List Int) (dst : Int) : ∀ (d : Nat) (acc : List Int) (x : Int), nodeOk w h x → (∀ c ∈ acc, 0 ≤ c ∧ c ≤ 63) → (∀ c ∈ walkGo w h br ps dst d acc x, 0 ≤ c ∧ c ≤ 63) ∧ (walkGo w h br ps dst d acc x).length ≤ acc.length + d
 | 0, acc, x, _, _ => ⟨fun c hc => (by cases hc), by simp [walkGo]⟩
 | d + 1, acc, x, hx, ha => by
  have hn := ncR_b w h
  have hx15 : 0 ≤ x ∧ x ≤ 15 := ⟨hx.1, by have := hx.2; omega⟩
  unfold walkGo
  generalize rd ps (x * ncR w h + dst) = p
  by_cases h4 : p = 4
  ·rw [if_pos h4]
   split
   ·exact ⟨ha, by omega⟩
   ·exact ⟨fun c hc => (by cases hc), by simp⟩
  ·rw [if_neg h4]
   split
   ·rename_i hc
    have ih := walkGo_b w h br ps dst d (acc ++ [4 * x + p]) (nextR w h x p) (has_next hc.1 hc.2) (fun c hm => by
     rcases List.mem_append.1 hm with hm | hm
     ·exact ha c hm
     ·rw [List.mem_singleton.1 hm]
      have := hc.1
      omega)
    refine ⟨ih.1, ?_⟩
    have := ih.2
    rw [List.length_append, List.length_singleton] at this
    omega
   ·exact ⟨fun c hc => (by cases hc), by simp⟩
theorem walkR_b (w h : Int) (br ps : List Int) (x dst : Int) (hx : nodeOk w h x) : (∀ c ∈ walkR w h br ps x dst, 0 ≤ c ∧ c ≤ 63) ∧ (walkR w h br ps x dst).length ≤ 17 := by
 have hn := ncR_b w h
 have h1 := walkGo_b w h br ps dst ((ncR w h).toNat + 1) [] x hx (fun c hc => by cases hc)
 refine ⟨h1.1, Nat.le_trans h1.2 ?_⟩
 simp only [List.length_nil]
 omega
theorem walkR_self (w h : Int) (br ps : List Int) (x : Int) (hd : rd ps (x * ncR w h + x) = 4) : walkR w h br ps x x = [] := by
 unfold walkR walkGo
 rw [if_pos hd, if_pos rfl]
def stepD (ws : List Int) (t : Nat) : S98 := ⟨rd ws (t : Int), rd ws ((t + 1 : Nat) : Int)⟩
def stepL (ws : List Int) : List S98 := (List.range (ws.length - 1)).map (stepD ws)
theorem stepL_len (ws : List Int) : (stepL ws).length = ws.length - 1 := by
 unfold stepL
 rw [List.length_map, List.length_range]
theorem rdN_mem {ws : List Int} {i : Nat} (h : i < ws.length) : rd ws (i : Int) ∈ ws := by
 have e : rd ws (i : Int) = ws[i] := by
  show ws.getD (i : Int).toNat _ = _
  rw [Int.toNat_natCast, List.getD_eq_getElem?_getD, List.getElem?_eq_getElem h]
  rfl
 rw [e]
 exact List.getElem_mem h
theorem stepL_in {ws : List Int} (hc : ∀ c ∈ ws, 0 ≤ c ∧ c ≤ 63) : ∀ x ∈ stepL ws, (0 ≤ x.f0 ∧ x.f0 ≤ 63) ∧ (0 ≤ x.f1 ∧ x.f1 ≤ 63) := by
 intro x hx
 unfold stepL at hx
 obtain ⟨t, ht, rfl⟩ := List.mem_map.1 hx
 rw [List.mem_range] at ht
 exact ⟨hc _ (rdN_mem (by omega)), hc _ (rdN_mem (by omega))⟩
def depTo (w h : Int) (br ps : List Int) (n m : Nat) : List S98 := (List.range m).flatMap fun i => stepL (walkR w h br ps ((i / n : Nat) : Int) ((i % n : Nat) : Int))
theorem depTo_succ (w h : Int) (br ps : List Int) (n m : Nat) : depTo w h br ps n (m + 1) = depTo w h br ps n m ++ stepL (walkR w h br ps ((m / n : Nat) : Int) ((m % n : Nat) : Int)) := by
 unfold depTo
 rw [List.range_succ, List.flatMap_append]
 simp
theorem node_of {w h : Int} {n i : Nat} (hn : (n : Int) = ncR w h) (hi : i < n * n) : nodeOk w h ((i / n : Nat) : Int) ∧ nodeOk w h ((i % n : Nat) : Int) := by
 have h0 : 0 < n := Nat.pos_of_ne_zero (fun e => by subst e; omega)
 have h1 : i / n < n := Nat.div_lt_of_lt_mul hi
 have h2 : i % n < n := Nat.mod_lt _ h0
 generalize i / n = q at h1 ⊢
 generalize i % n = s at h2 ⊢
 exact ⟨⟨by omega, by omega⟩, ⟨by omega, by omega⟩⟩
theorem depTo_len (w h : Int) (br ps : List Int) (n : Nat) (hn : (n : Int) = ncR w h) : ∀ m : Nat, m ≤ n * n → (depTo w h br ps n m).length ≤ 16 * m
 | 0, _ => by simp [depTo]
 | m + 1, hm => by
  have ih := depTo_len w h br ps n hn m (by omega)
  have h1 := (walkR_b w h br ps ((m / n : Nat) : Int) ((m % n : Nat) : Int) (node_of hn (by omega)).1).2
  have h2 := stepL_len (walkR w h br ps ((m / n : Nat) : Int) ((m % n : Nat) : Int))
  rw [depTo_succ, List.length_append]
  omega
theorem depTo_in (w h : Int) (br ps : List Int) (n : Nat) (hn : (n : Int) = ncR w h) (m : Nat) (hm : m ≤ n * n) : ∀ x ∈ depTo w h br ps n m, (0 ≤ x.f0 ∧ x.f0 ≤ 63) ∧ (0 ≤ x.f1 ∧ x.f1 ≤ 63) := by
 intro x hx
 unfold depTo at hx
 obtain ⟨i, hi, hi2⟩ := List.mem_flatMap.1 hx
 rw [List.mem_range] at hi
 exact stepL_in (walkR_b w h br ps _ _ (node_of hn (by omega)).1).1 x hi2

theorem Index_l0 (x : Int) : ∀ (rest pre : List Int), pre.length + rest.length < 1152921504606846976 → ∃ r, Ev (fun k => slices_Index_int_int.l0 k (pre ++ rest) x ((pre ++ rest).length : Int) (pre.length : Int)) r ∧ (r ≥ 0 ↔ x ∈ rest)
 | [], pre, _ => by
  refine ⟨-1, Ev.suc ?_, by simp⟩
  simp only [slices_Index_int_int.l0]
  exact Ev.ite_neg (by simp) (Ev.now _)
 | y :: rest, pre, hl => by
  simp only [List.length_cons] at hl
  have h1 : (pre.length : Int) < ((pre ++ y :: rest).length : Int) := by simp only [List.length_append, List.length_cons]; omega
  have hw : wrap64 ((pre.length : Int) + 1) = ((pre ++ [y]).length : Int) := by rw [w64 (by omega) (by omega), len_snoc]
  obtain ⟨r, hr, hr2⟩ := Index_l0 x rest (pre ++ [y]) (by simp only [List.length_append, List.length_cons, List.length_nil]; omega)
  rw [← snoc_app pre y rest] at hr
  by_cases h : x = y
  ·refine ⟨(pre.length : Int), Ev.suc ?_, by simp [h]⟩
   simp only [slices_Index_int_int.l0, rd_mid]
   exact Ev.ite_pos h1 (Ev.ite_pos (by omega) (Ev.ite_pos h1 (Ev.ite_pos h (Ev.now _))))
  ·refine ⟨r, Ev.suc ?_, by simp [h, hr2]⟩
   simp only [slices_Index_int_int.l0, rd_mid, hw]
   exact Ev.ite_pos h1 (Ev.ite_pos (by omega) (Ev.ite_pos h1 (Ev.ite_neg h hr)))
theorem Contains_i (l : List Int) (x : Int) (h : l.length < 1152921504606846976) : Ev (fun k => slices_Contains_int_int.f k l x) (decide (x ∈ l)) := by
 obtain ⟨r, hr, hr2⟩ := Index_l0 x l [] (by simpa using h)
 unfold slices_Contains_int_int.f slices_Index_int_int.f
 refine Ev.bind hr (Ev.val ?_)
 rw [decide_eq_decide]
 exact hr2

theorem MeshOk_i_l0 (w h : Int) : ∀ (rest pre : List Int) (y : Int), pre.length + rest.length < 1152921504606846976 → Ev (fun k => impl_MeshOk.l0 k ((pre ++ [y]) ++ rest) (((pre ++ [y]) ++ rest).length : Int) (((pre ++ [y])).length : Int) w h ((pre ++ [y]) ++ rest)) ((brR w h (some y) rest) && decide (gOk w h))
 | [], pre, y, hl => by
  refine Ev.suc ?_
  simp only [impl_MeshOk.l0]
  refine Ev.ite_neg (by simp) ?_
  exact Ev.bindS (GridOk_i w h) (Ev.val (by simp [brR]))
 | x :: rest, pre, y, hl => by
  simp only [List.length_cons] at hl
  have hp : (pre ++ [y]).length = pre.length + 1 := by simp
  have h1 : ((pre ++ [y]).length : Int) < ((pre ++ [y] ++ x :: rest).length : Int) := by simp only [List.length_append, List.length_cons, List.length_nil]; omega
  have hw : wrap64 (((pre ++ [y]).length : Int) + 1) = ((pre ++ [y] ++ [x]).length : Int) := by rw [w64 (by omega) (by omega)]; exact (len_snoc _ _).symm
  have hv : wrap64 (((pre ++ [y]).length : Int) - 1) = ((pre ++ [y]).length : Int) - 1 := w64 (by omega) (by omega)
  have e1 : rd (pre ++ [y] ++ x :: rest) (((pre ++ [y]).length : Int) - 1) = y := rd_app_last pre y (x :: rest)
  have e2 : rd (pre ++ [y] ++ x :: rest) ((pre ++ [y]).length : Int) = x := rd_mid _ _ _
  have ih := MeshOk_i_l0 w h rest (pre ++ [y]) x (by omega)
  rw [← snoc_app (pre ++ [y]) x rest] at ih
  refine Ev.suc ?_
  simp only [impl_MeshOk.l0, e1, e2, hw, hv, leads_i, Option.bind_some]
  refine Ev.ite_pos h1 (Ev.ite_pos (by omega) (Ev.ite_pos h1 (Ev.ite (fun hlx => ?_) (fun hlx => Ev.val ?_))))
  ·refine Ev.ite_pos (by omega) (Ev.ite_pos (by omega) (Ev.ite_pos (by omega) (Ev.ite (fun hc => Ev.val ?_) (fun hc => Ev.eq ih ?_))))
   ·have hc' : ¬ y < x := by omega
    simp [brR, hc']
   ·have hc' : y < x := by omega
    simp [brR, hlx, hc']
  ·simp [brR, hlx]
theorem MeshOk_i (w h : Int) (br : List Int) (hl : br.length < 1152921504606846976) : Ev (fun k => impl_MeshOk.f k w h br) (meshR w h br) := by
 unfold impl_MeshOk.f meshR
 skip
 cases br with
 | nil =>
  refine Ev.suc ?_
  simp only [impl_MeshOk.l0]
  refine Ev.ite_neg (by simp) ?_
  exact Ev.bindS (GridOk_i w h) (Ev.val (by simp [brR]))
 | cons x rest =>
  simp only [List.length_cons] at hl
  have z := MeshOk_i_l0 w h rest [] x (by simp; omega)
  have hw : wrap64 ((0 : Int) + 1) = ((([] : List Int) ++ [x]).length : Int) := by rw [w64 (by omega) (by omega)]; rfl
  have e2 : rd (x :: rest) 0 = x := rfl
  have h1 : (0 : Int) < ((x :: rest).length : Int) := by simp only [List.length_cons]; omega
  refine Ev.suc ?_
  simp only [impl_MeshOk.l0, e2, hw, leads_i, Option.bind_some]
  refine Ev.ite_pos h1 (Ev.ite_pos (by omega) (Ev.ite_pos h1 (Ev.ite (fun hlx => Ev.ite_neg (by omega) (Ev.eq z ?_)) (fun hlx => Ev.val ?_))))
  ·rw [Bool.and_comm]; simp [brR, hlx]
  ·simp [brR, hlx]

theorem HasChannel_i (w h : Int) (br : List Int) (c : Int) (hl : br.length < 1152921504606846976) : Ev (fun k => impl_HasChannel.f k w h br c) (meshR w h br && hasR w h br c) := by
 unfold impl_HasChannel.f hasR
 refine Ev.bind (MeshOk_i w h br hl) (Ev.ite (fun h0 => ?_) (fun h0 => Ev.val (by simp [h0])))
 refine Ev.bindS (leads_i w h c) (Ev.ite (fun h1 => ?_) (fun h1 => Ev.val (by simp [h1])))
 exact Ev.bind (Contains_i br c hl) (Ev.val (by simp [h0, h1]))

theorem PortAt_i (w h : Int) (br ps : List Int) (x dst : Int) (hbr : br.length < 1152921504606846976) (hm : meshR w h br = true) (hps : (ps.length : Int) = ncR w h * ncR w h) (hx : nodeOk w h x) (hd : nodeOk w h dst) :
  Ev (fun k => impl_PortAt.f k w h br ps x dst) (if 0 ≤ rd ps (x * ncR w h + dst) ∧ rd ps (x * ncR w h + dst) ≤ 4 then rd ps (x * ncR w h + dst) else -1) := by
 have hn := ncR_b w h
 have hb := idx_b hn hx hd
 obtain ⟨e1, e2⟩ := idx_w hn hx hd
 have hin1 : 0 ≤ x * ncR w h + dst := by
  have := hd.1
  omega
 have hin2 : x * ncR w h + dst < (ps.length : Int) := by
  rw [hps]
  exact hb.2.2.1
 have e3 : wrap64 (ncR w h - 1) = ncR w h - 1 := w64 (by omega) (by omega)
 unfold impl_PortAt.f
 refine Ev.bindS (NodeCount_i w h) (Ev.bind (MeshOk_i w h br hbr) (Ev.ite_pos hm ?_))
 simp only [inside_f, e1, e2, e3, Option.bind_some, decide_eq_true_eq]
 refine Ev.ite_pos hx (Ev.ite_pos hd (Ev.ite_pos hps (Ev.ite_pos hin1 (Ev.ite_pos hin2 (Ev.ite (fun hp => Ev.val ?_) (fun hp => Ev.val ?_))))))
 ·rw [if_pos hp]
 ·rw [if_neg hp]
theorem endOf_i (w h : Int) (br : List Int) (x p : Int) (hx : 0 ≤ x ∧ x ≤ 15) (hp : 0 ≤ p ∧ p ≤ 3) : impl_endOf.f w h br (4 * x + p) = some (nextR w h x p) := by
 obtain ⟨e1, e2⟩ := ch_div (x := x) hp
 unfold impl_endOf.f
 rw [Int.tdiv_eq_ediv_of_nonneg (by omega), Int.tmod_eq_emod_of_nonneg (by omega), e1, e2, w64 (x := x) (by omega) (by omega), NextNode_i]
 rfl
theorem WalkTable_l0 (w h : Int) (br ps : List Int) (dst : Int) (hbr : br.length < 1152921504606846976) (hm : meshR w h br = true) (hps : (ps.length : Int) = ncR w h * ncR w h) (hd : nodeOk w h dst) : ∀ (d : Nat) (acc : List Int) (x : Int), nodeOk w h x → (acc.length : Int) + d = ncR w h →
  Ev (fun k => impl_WalkTable.l0 k dst acc x w h br ps) (walkGo w h br ps dst (d + 1) acc x)
 | d, acc, x, hx, hl => by
  have hn := ncR_b w h
  have hx15 : 0 ≤ x ∧ x ≤ 15 := ⟨hx.1, by have := hx.2; omega⟩
  refine Ev.suc ?_
  simp only [impl_WalkTable.l0]
  refine Ev.bind (PortAt_i w h br ps x dst hbr hm hps hx hd) ?_
  have hz := walkGo_zero w h br ps dst acc x
  unfold walkGo
  have hacc : acc.length < 17592186044416 := by omega
  generalize rd ps (x * ncR w h + dst) = p at *
  by_cases h4 : p = 4
  ·subst h4
   simp only [show (0 : Int) ≤ 4 ∧ (4 : Int) ≤ 4 from by omega, and_self, if_true]
   refine Ev.ite_neg (by omega) (Ev.ite (fun h5 => Ev.val ?_) (fun h5 => Ev.val ?_))
   ·rw [if_pos h5]
   ·rw [if_neg h5]
  ·rw [if_neg h4]
   by_cases hp : 0 ≤ p ∧ p ≤ 3
   ·have e3 : wrap64 (wrap64 (4 * x) + p) = 4 * x + p := by rw [w64 (x := 4 * x) (by omega) (by omega), w64 (by omega) (by omega)]
    rw [if_pos (show 0 ≤ p ∧ p ≤ 4 by omega)]
    simp only [e3]
    refine Ev.ite_neg (by omega) (Ev.ite_neg h4 (Ev.bind (HasChannel_i w h br (4 * x + p) hbr) ?_))
    rw [hm, Bool.true_and]
    refine Ev.ite (fun hh => Ev.bindS (NodeCount_i w h) ?_) (fun hh => Ev.val ?_)
    ·rw [if_pos ⟨hp, hh⟩]
     cases d with
     | zero => exact Ev.ite_pos (by omega) (Ev.val rfl)
     | succ d =>
      refine Ev.ite_neg (by omega) (Ev.ite_pos hacc (Ev.bindS (endOf_i w h br x p hx15 hp) ?_))
      exact WalkTable_l0 w h br ps dst hbr hm hps hd d _ _ (has_next hp hh) (by simp only [List.length_append, List.length_cons, List.length_nil]; omega)
    ·rw [if_neg (fun z => hh z.2)]
   ·rw [if_neg (show ¬ (0 ≤ p ∧ p ≤ 4) by omega), if_neg (show ¬ ((0 ≤ p ∧ p ≤ 3) ∧ hasR w h br (4 * x + p) = true) from fun z => hp z.1)]
    exact Ev.ite_pos (by omega) (Ev.now _)
theorem WalkTable_i (w h : Int) (br ps : List Int) (x dst : Int) (hbr : br.length < 1152921504606846976) (hm : meshR w h br = true) (hps : (ps.length : Int) = ncR w h * ncR w h) (hx : nodeOk w h x) (hd : nodeOk w h dst) (hne : ¬ x = dst) :
  Ev (fun k => impl_WalkTable.f k w h br ps x dst) (walkR w h br ps x dst) := by
 unfold impl_WalkTable.f walkR
 have hn := ncR_b w h
 refine Ev.ite_neg hne (Ev.bind (MeshOk_i w h br hbr) (Ev.ite_pos hm ?_))
 simp only [isNode_i, Option.bind_some, decide_eq_true hx, decide_eq_true hd]
 refine Ev.ite_pos trivial ?_
 refine Ev.suc ?_
 simp only [impl_WalkTable.j0]
 refine Ev.ite_neg (by simp) ?_
 exact WalkTable_l0 w h br ps dst hbr hm hps hd _ [] x hx (by simp only [List.length_nil]; omega)

theorem TableOk_v (w h : Int) (br ps : List Int) (x y : Int) (hbr : br.length < 1152921504606846976) (hm : meshR w h br = true) (hps : (ps.length : Int) = ncR w h * ncR w h) (hx : nodeOk w h x) (hy : nodeOk w h y) (hne : ¬ x = y) :
  Ev (fun k => impl_TableOk.v k w h br ps x y) (decide (walkR w h br ps x y ≠ [])) := by
 unfold impl_TableOk.v
 refine Ev.bind (WalkTable_i w h br ps x y hbr hm hps hx hy hne) (Ev.val ?_)
 rw [decide_eq_decide]
 cases walkR w h br ps x y with
 | nil => simp
 | cons a l => simp
/-- One row of pairs, then what follows. -/
theorem TableOk_l2 (w h : Int) (br ps : List Int) (hbr : br.length < 1152921504606846976) (hm : meshR w h br = true) (hps : (ps.length : Int) = ncR w h * ncR w h) (n : Nat) (hn : (n : Int) = ncR w h) (x : Nat) (hx : x < n) (P : Prop)
  (hR : ∃ b, Ev (fun k => impl_TableOk.l1 k w h br ps (n : Int) ((x + 1 : Nat) : Int)) b ∧ (b = true ↔ P)) : ∀ (d y : Nat), y + d = n →
  ∃ b, Ev (fun k => impl_TableOk.l2 k w h br ps (n : Int) (x : Int) (y : Int)) b ∧ (b = true ↔ (∀ y' : Nat, y ≤ y' → y' < n → x ≠ y' → walkR w h br ps (x : Int) (y' : Int) ≠ []) ∧ P)
 | 0, y, hd => by
  obtain ⟨b, hb, hb2⟩ := hR
  have hnb := ncR_b w h
  refine ⟨b, Ev.suc ?_, ?_⟩
  ·simp only [impl_TableOk.l2]
   refine Ev.ite_neg (by omega) ?_
   have e : wrap64 ((x : Int) + 1) = ((x + 1 : Nat) : Int) := by rw [w64 (by omega) (by omega)]; omega
   rw [e]
   exact hb
  ·rw [hb2]
   exact ⟨fun hp => ⟨fun y' h1 h2 => absurd h2 (by omega), hp⟩, fun hp => hp.2⟩
 | d + 1, y, hd => by
  obtain ⟨b, hb, hb2⟩ := TableOk_l2 w h br ps hbr hm hps n hn x hx P hR d (y + 1) (by omega)
  have hnb := ncR_b w h
  have e : wrap64 ((y : Int) + 1) = ((y + 1 : Nat) : Int) := by rw [w64 (by omega) (by omega)]; omega
  by_cases hxy : x = y
  ·refine ⟨b, Ev.suc ?_, ?_⟩
   ·simp only [impl_TableOk.l2, e]
    exact Ev.ite_pos (by omega) (Ev.ite_pos (by omega) hb)
   ·rw [hb2]
    refine ⟨fun hp => ⟨fun y' h1 h2 h3 => hp.1 y' (by omega) h2 h3, hp.2⟩, fun hp => ⟨fun y' h1 h2 h3 => hp.1 y' (by omega) h2 h3, hp.2⟩⟩
  ·have hv := TableOk_v w h br ps (x : Int) (y : Int) hbr hm hps ⟨by omega, by omega⟩ ⟨by omega, by omega⟩ (by omega)
   by_cases hw : walkR w h br ps (x : Int) (y : Int) = []
   ·refine ⟨false, Ev.suc ?_, ?_⟩
    ·simp only [impl_TableOk.l2, e]
     refine Ev.ite_pos (by omega) (Ev.ite_neg (by omega) (Ev.bind hv (Ev.ite_neg (by simp [hw]) (Ev.now _))))
    ·refine ⟨fun z => absurd z Bool.false_ne_true, fun hp => absurd hw (hp.1 y (Nat.le_refl _) (by omega) hxy)⟩
   ·refine ⟨b, Ev.suc ?_, ?_⟩
    ·simp only [impl_TableOk.l2, e]
     exact Ev.ite_pos (by omega) (Ev.ite_neg (by omega) (Ev.bind hv (Ev.ite_pos (by simp [hw]) hb)))
    ·rw [hb2]
     refine ⟨fun hp => ⟨fun y' h1 h2 h3 => ?_, hp.2⟩, fun hp => ⟨fun y' h1 h2 h3 => hp.1 y' (by omega) h2 h3, hp.2⟩⟩
     by_cases hy : y' = y
     ·rw [hy]
      exact hw
     ·exact hp.1 y' (by omega) h2 h3
theorem TableOk_l1 (w h : Int) (br ps : List Int) (hbr : br.length < 1152921504606846976) (hm : meshR w h br = true) (hps : (ps.length : Int) = ncR w h * ncR w h) (n : Nat) (hn : (n : Int) = ncR w h) : ∀ (d x : Nat), x + d = n →
  ∃ b, Ev (fun k => impl_TableOk.l1 k w h br ps (n : Int) (x : Int)) b ∧ (b = true ↔ ∀ x' y' : Nat, x ≤ x' → x' < n → y' < n → x' ≠ y' → walkR w h br ps (x' : Int) (y' : Int) ≠ [])
 | 0, x, hd => by
  refine ⟨true, Ev.suc ?_, ?_⟩
  ·simp only [impl_TableOk.l1]
   exact Ev.ite_neg (by omega) (Ev.now _)
  ·exact ⟨fun _ x' y' h1 h2 => absurd h2 (by omega), fun _ => rfl⟩
 | d + 1, x, hd => by
  obtain ⟨b, hb, hb2⟩ := TableOk_l2 w h br ps hbr hm hps n hn x (by omega) _ (TableOk_l1 w h br ps hbr hm hps n hn d (x + 1) (by omega)) n 0 (by omega)
  refine ⟨b, Ev.suc ?_, ?_⟩
  ·simp only [impl_TableOk.l1]
   exact Ev.ite_pos (by omega) hb
  ·rw [hb2]
   refine ⟨fun hp x' y' h1 h2 h3 h4 => ?_, fun hp => ⟨fun y' h1 h2 h3 => hp x y' (Nat.le_refl _) (by omega) h2 h3, fun x' y' h1 h2 h3 h4 => hp x' y' (by omega) h2 h3 h4⟩⟩
   by_cases hx : x' = x
   ·subst hx
    exact hp.1 y' (Nat.zero_le _) h3 h4
   ·exact hp.2 x' y' (by omega) h2 h3 h4
theorem TableOk_l0 (w h : Int) (br ps : List Int) (hbr : br.length < 1152921504606846976) (hm : meshR w h br = true) (hps : (ps.length : Int) = ncR w h * ncR w h) (n : Nat) (hn : (n : Int) = ncR w h) : ∀ (d x : Nat), x + d = n →
  ∃ b, Ev (fun k => impl_TableOk.l0 k w h br ps (n : Int) (x : Int)) b ∧ (b = true ↔ (∀ x' : Nat, x ≤ x' → x' < n → rd ps ((x' : Int) * ncR w h + (x' : Int)) = 4) ∧ walksOk w h br ps)
 | 0, x, hd => by
  obtain ⟨b, hb, hb2⟩ := TableOk_l1 w h br ps hbr hm hps n hn n 0 (by omega)
  refine ⟨b, Ev.suc ?_, ?_⟩
  ·simp only [impl_TableOk.l0]
   refine Ev.ite_neg (by omega) ?_
   unfold impl_TableOk.ps
   refine Ev.bindS (NodeCount_i w h) ?_
   rw [← hn]
   exact hb
  ·rw [hb2]
   unfold walksOk
   rw [← hn]
   exact ⟨fun hp => ⟨fun x' h1 h2 => absurd h2 (by omega), fun x' y' h1 h2 h3 => hp x' y' (Nat.zero_le _) (by omega) (by omega) h3⟩, fun hp x' y' _ h2 h3 h4 => hp.2 x' y' (by omega) (by omega) h4⟩
 | d + 1, x, hd => by
  obtain ⟨b, hb, hb2⟩ := TableOk_l0 w h br ps hbr hm hps n hn d (x + 1) (by omega)
  have hnb := ncR_b w h
  have hxn : 0 ≤ (x : Int) ∧ (x : Int) ≤ ncR w h - 1 := by omega
  have e : wrap64 ((x : Int) + 1) = ((x + 1 : Nat) : Int) := by rw [w64 (by omega) (by omega)]; omega
  have hi := idx_b hnb hxn hxn
  have hi0 : 0 ≤ (x : Int) * ncR w h + (x : Int) := by omega
  have hi1 : (x : Int) * ncR w h + (x : Int) < (ps.length : Int) := by
   rw [hps]
   exact hi.2.2.1
  have ew := (idx_w hnb hxn hxn).1
  have hlt : (x : Int) < (n : Int) := by omega
  by_cases h4 : rd ps ((x : Int) * ncR w h + (x : Int)) = 4
  ·refine ⟨b, Ev.suc ?_, ?_⟩
   ·rw [hn] at hb hlt ⊢
    simp only [impl_TableOk.l0, ew, e]
    exact Ev.ite_pos hlt (Ev.ite_pos hi0 (Ev.ite_pos hi1 (Ev.ite_pos h4 hb)))
   ·rw [hb2]
    clear hi hi0 hi1 ew
    refine ⟨fun hp => ⟨fun x' h1 h2 => ?_, hp.2⟩, fun hp => ⟨fun x' h1 h2 => hp.1 x' (by omega) h2, hp.2⟩⟩
    by_cases hx : x' = x
    ·rw [hx]
     exact h4
    ·exact hp.1 x' (by omega) h2
  ·refine ⟨false, Ev.suc ?_, ?_⟩
   ·rw [hn] at hlt ⊢
    simp only [impl_TableOk.l0, ew, e]
    exact Ev.ite_pos hlt (Ev.ite_pos hi0 (Ev.ite_pos hi1 (Ev.ite_neg h4 (Ev.now _))))
   ·exact ⟨fun z => absurd z Bool.false_ne_true, fun hp => absurd (hp.1 x (Nat.le_refl _) (by omega)) h4⟩
theorem TableOk_i (w h : Int) (br ps : List Int) (hbr : br.length < 1152921504606846976) : ∃ b, Ev (fun k => impl_TableOk.f k w h br ps) b ∧ (b = true ↔ tableOk w h br ps) := by
 have hnb := ncR_b w h
 unfold impl_TableOk.f tableOk
 by_cases hm : meshR w h br = true
 ·have hsq : wrap64 (ncR w h * ncR w h) = ncR w h * ncR w h := by
   have h3 : ncR w h * ncR w h ≤ 16 * ncR w h := Int.mul_le_mul_of_nonneg_right hnb.2 hnb.1
   have h4 : 0 ≤ ncR w h * ncR w h := Int.mul_nonneg hnb.1 hnb.1
   generalize ncR w h * ncR w h = q at *
   exact w64 (by omega) (by omega)
  by_cases hps : (ps.length : Int) = ncR w h * ncR w h
  ·obtain ⟨n, hn⟩ : ∃ n : Nat, (n : Int) = ncR w h := ⟨(ncR w h).toNat, by omega⟩
   obtain ⟨b, hb, hb2⟩ := TableOk_l0 w h br ps hbr hm hps n hn n 0 (by omega)
   refine ⟨b, ?_, ?_⟩
   ·refine Ev.bindS (NodeCount_i w h) (Ev.bind (MeshOk_i w h br hbr) (Ev.ite_pos hm (Ev.ite_pos (by rw [hsq]; exact hps) ?_)))
    rw [← hn]
    exact hb
   ·rw [hb2]
    unfold diagOk
    exact ⟨fun hp => ⟨hm, hps, fun x hx => hp.1 x (Nat.zero_le _) (by omega), hp.2⟩, fun hp => ⟨fun x _ hx => hp.2.2.1 x (by omega), hp.2.2.2⟩⟩
  ·refine ⟨false, ?_, ⟨fun z => absurd z Bool.false_ne_true, fun hp => absurd hp.2.1 hps⟩⟩
   exact Ev.bindS (NodeCount_i w h) (Ev.bind (MeshOk_i w h br hbr) (Ev.ite_pos hm (Ev.ite_neg (by rw [hsq]; exact hps) (Ev.now _))))
 ·refine ⟨false, ?_, ⟨fun z => absurd z Bool.false_ne_true, fun hp => absurd hp.1 hm⟩⟩
  exact Ev.bindS (NodeCount_i w h) (Ev.bind (MeshOk_i w h br hbr) (Ev.ite_neg hm (Ev.now _)))

theorem di_l3 (ws : List Int) (hl : ws.length ≤ 17) (o : List S98) (ho : o.length ≤ 5000) : ∀ d t : Nat, t + d = ws.length - 1 → Ev (fun k => impl_DependsOf.l3 k ws ((t + 1 : Nat) : Int) (o ++ (List.range t).map (stepD ws))) (o ++ stepL ws)
 | 0, t, h => by
  have e : t = ws.length - 1 := by omega
  refine Ev.suc ?_
  simp only [impl_DependsOf.l3]
  refine Ev.ite_neg (by omega) ?_
  rw [e]
  exact Ev.now _
 | d + 1, t, h => by
  have hw : wrap64 (((t + 1 : Nat) : Int) - 1) = (t : Int) := by rw [w64 (by omega) (by omega)]; omega
  have hn : wrap64 (((t + 1 : Nat) : Int) + 1) = ((t + 1 + 1 : Nat) : Int) := by rw [w64 (by omega) (by omega)]; omega
  have ih := di_l3 ws hl o ho d (t + 1) (by omega)
  have hlen : (o ++ (List.range t).map (stepD ws)).length < 8796093022208 := by
   rw [List.length_append, List.length_map, List.length_range]
   omega
  refine Ev.suc ?_
  simp only [impl_DependsOf.l3, hw, hn]
  refine Ev.ite_pos (by omega) (Ev.ite_pos (by omega) (Ev.ite_pos (by omega) (Ev.ite_pos (by omega) (Ev.ite_pos hlen ?_))))
  rw [List.range_succ, List.map_append, ← List.append_assoc] at ih
  exact ih
theorem di_v (w h : Int) (br ps : List Int) (x y : Int) (o : List S98) (ho : o.length ≤ 5000) (hbr : br.length < 1152921504606846976) (hm : meshR w h br = true) (hps : (ps.length : Int) = ncR w h * ncR w h) (hx : nodeOk w h x) (hy : nodeOk w h y) (hne : ¬ x = y) :
  Ev (fun k => impl_DependsOf.v k w h br ps x y o) (o ++ stepL (walkR w h br ps x y)) := by
 have h3 := di_l3 (walkR w h br ps x y) (walkR_b w h br ps x y hx).2 o ho _ 0 (Nat.zero_add _)
 rw [List.range_zero, List.map_nil, List.append_nil] at h3
 unfold impl_DependsOf.v
 exact Ev.bind (WalkTable_i w h br ps x y hbr hm hps hx hy hne) h3
theorem di_l2 (w h : Int) (br ps : List Int) (hbr : br.length < 1152921504606846976) (ht : tableOk w h br ps) (n : Nat) (hn : (n : Int) = ncR w h) (x : Nat) (hx : x < n) (r : List S98)
  (H : Ev (fun k => impl_DependsOf.l1 k w h br ps (n : Int) ((x + 1 : Nat) : Int) (depTo w h br ps n (x * n + n))) r) : ∀ d y : Nat, y + d = n → Ev (fun k => impl_DependsOf.l2 k w h br ps (n : Int) (x : Int) (y : Int) (depTo w h br ps n (x * n + y))) r
 | 0, y, h0 => by
  have hnb := ncR_b w h
  have e : y = n := by omega
  have hw : wrap64 ((x : Int) + 1) = ((x + 1 : Nat) : Int) := by rw [w64 (by omega) (by omega)]; omega
  refine Ev.suc ?_
  simp only [impl_DependsOf.l2, hw]
  refine Ev.ite_neg (by omega) ?_
  rw [e]
  exact H
 | d + 1, y, h0 => by
  have hnb := ncR_b w h
  have ih := di_l2 w h br ps hbr ht n hn x hx r H d (y + 1) (by omega)
  have hw : wrap64 ((y : Int) + 1) = ((y + 1 : Nat) : Int) := by rw [w64 (by omega) (by omega)]; omega
  have e1 : (x * n + y) / n = x := by rw [Nat.add_comm, Nat.add_mul_div_right y x (by omega), Nat.div_eq_of_lt (by omega), Nat.zero_add]
  have e2 : (x * n + y) % n = y := by rw [Nat.add_comm, Nat.add_mul_mod_self_right, Nat.mod_eq_of_lt (by omega)]
  have es : depTo w h br ps n (x * n + (y + 1)) = depTo w h br ps n (x * n + y) ++ stepL (walkR w h br ps (x : Int) (y : Int)) := by
   rw [← Nat.add_assoc, depTo_succ, e1, e2]
  have hq : x * n ≤ 15 * 16 := Nat.mul_le_mul (by omega) (by omega)
  have hq2 : x * n + n ≤ n * n := by
   have := Nat.mul_le_mul_right n (show x + 1 ≤ n by omega)
   rw [Nat.add_mul, Nat.one_mul] at this
   exact this
  have hlen := depTo_len w h br ps n hn (x * n + y) (by omega)
  rw [es, ← hw] at ih
  refine Ev.suc ?_
  simp only [impl_DependsOf.l2]
  refine Ev.ite_pos (by omega) ?_
  by_cases hxy : x = y
  ·subst hxy
   refine Ev.ite_pos rfl ?_
   rw [walkR_self w h br ps (x : Int) (ht.2.2.1 x (by omega)), show stepL [] = [] from rfl, List.append_nil] at ih
   exact ih
  ·refine Ev.ite_neg (by omega) (Ev.bind (di_v w h br ps (x : Int) (y : Int) _ (by omega) hbr ht.1 ht.2.1 ⟨by omega, by omega⟩ ⟨by omega, by omega⟩ (by omega)) ih)
theorem di_l1 (w h : Int) (br ps : List Int) (hbr : br.length < 1152921504606846976) (ht : tableOk w h br ps) (n : Nat) (hn : (n : Int) = ncR w h) : ∀ d x : Nat, x + d = n → Ev (fun k => impl_DependsOf.l1 k w h br ps (n : Int) (x : Int) (depTo w h br ps n (x * n))) (depTo w h br ps n (n * n))
 | 0, x, h0 => by
  have e : x = n := by omega
  subst e
  refine Ev.suc ?_
  simp only [impl_DependsOf.l1]
  exact Ev.ite_neg (by omega) (Ev.now _)
 | d + 1, x, h0 => by
  have ih := di_l1 w h br ps hbr ht n hn d (x + 1) (by omega)
  rw [Nat.add_mul, Nat.one_mul] at ih
  have h1 := di_l2 w h br ps hbr ht n hn x (by omega) _ ih n 0 (Nat.zero_add _)
  refine Ev.suc ?_
  simp only [impl_DependsOf.l1]
  exact Ev.ite_pos (by omega) h1
/-- The dependencies of a table, for the program. -/
theorem depOf_i (w h : Int) (br ps : List Int) (hbr : br.length < 1152921504606846976) : ∃ r, dAll r = true ∧ r.length ≤ 4096 ∧ Ev (fun k => impl_DependsOf.f k w h br ps) r ∧ (¬ tableOk w h br ps → r = []) ∧ (tableOk w h br ps → ∀ n : Nat, (n : Int) = ncR w h → ∀ y, y ∈ r ↔ y ∈ depTo w h br ps n (n * n)) := by
 obtain ⟨b, hb, hb2⟩ := TableOk_i w h br ps hbr
 have hnb := ncR_b w h
 unfold impl_DependsOf.f
 by_cases ht : tableOk w h br ps
 ·obtain ⟨n, hn⟩ : ∃ n : Nat, (n : Int) = ncR w h := ⟨(ncR w h).toNat, by omega⟩
  have hq : n * n ≤ 16 * 16 := Nat.mul_le_mul (by omega) (by omega)
  have hlen := depTo_len w h br ps n hn (n * n) (Nat.le_refl _)
  have hin := depTo_in w h br ps n hn (n * n) (Nat.le_refl _)
  obtain ⟨r, hr, h1, h2, h3⟩ := arr_i (depTo w h br ps n (n * n)) (fun x hx => by have := hin x hx; unfold dIn; omega) (by omega)
  refine ⟨r, h1, by omega, ?_, fun q => absurd ht q, fun _ m hm y => by rw [← show n = m by omega, h2 y]⟩
  refine Ev.bind hb (Ev.ite_pos (hb2.2 ht) (Ev.bind ?_ (by rw [hr]; exact Ev.now _)))
  unfold impl_DependsOf.ps
  have h6 := di_l1 w h br ps hbr ht n hn n 0 (Nat.zero_add _)
  rw [Nat.zero_mul] at h6
  refine Ev.bindS (NodeCount_i w h) ?_
  rw [← hn]
  exact h6
 ·exact ⟨[], rfl, by simp, Ev.bind hb (Ev.ite_neg (fun e => ht (hb2.1 e)) (Ev.now _)), fun _ => rfl, fun q => absurd q ht⟩

theorem l03Find_l0 (x : Int) : ∀ (rest pre : List Int), pre.length + rest.length < 1152921504606846976 → Ev (fun k => spec_l03Find.l0 k (pre ++ rest) x (pre.length : Int)) (decide (x ∈ rest))
 | [], pre, _ => by
  refine Ev.suc ?_
  simp only [spec_l03Find.l0]
  exact Ev.ite_neg (by simp) (Ev.val (by simp))
 | y :: rest, pre, hl => by
  simp only [List.length_cons] at hl
  have h1 : (pre.length : Int) < ((pre ++ y :: rest).length : Int) := by simp only [List.length_append, List.length_cons]; omega
  have hw : wrap64 ((pre.length : Int) + 1) = ((pre ++ [y]).length : Int) := by rw [w64 (by omega) (by omega), len_snoc]
  refine Ev.suc ?_
  simp only [spec_l03Find.l0, rd_mid, hw]
  refine Ev.ite_pos h1 (Ev.ite_pos (by omega) (Ev.ite (fun h => Ev.val ?_) (fun h => ?_)))
  ·simp [h]
  ·rw [snoc_app pre y rest]
   refine Ev.eq (l03Find_l0 x rest (pre ++ [y]) (by simp only [List.length_append, List.length_cons, List.length_nil]; omega)) ?_
   rw [decide_eq_decide]
   simp [show ¬ x = y from fun e => h e.symm]
theorem l03Find_s (l : List Int) (x : Int) (h : l.length < 1152921504606846976) : Ev (fun k => spec_l03Find.f k l x) (decide (x ∈ l)) := by
 unfold spec_l03Find.f
 exact l03Find_l0 x l [] (by simpa using h)

theorem l03Has_s (w h : Int) (br : List Int) (c : Int) (hl : br.length < 1152921504606846976) : Ev (fun k => spec_l03Has.f k w h br c) (hasR w h br c) := by
 unfold spec_l03Has.f hasR
 refine Ev.bindS (leads_s w h c) (Ev.ite (fun h1 => ?_) (fun h1 => Ev.val (by simp [h1])))
 exact Ev.bind (l03Find_s br c hl) (Ev.val (by simp [h1]))

theorem l04Walk_l0 (w h : Int) (br ps : List Int) (dst : Int) (hbr : br.length < 1152921504606846976) (hps : (ps.length : Int) = ncR w h * ncR w h) (hd : nodeOk w h dst) : ∀ (d : Nat) (acc : List Int) (x : Int), nodeOk w h x → (acc.length : Int) + d = ncR w h + 1 →
  Ev (fun k => spec_l04Walk.l0 k dst acc (ncR w h) x w h br ps) (walkGo w h br ps dst d acc x)
 | 0, acc, x, hx, hl => by
  refine Ev.suc ?_
  simp only [spec_l04Walk.l0]
  exact Ev.ite_neg (by omega) (Ev.now _)
 | d + 1, acc, x, hx, hl => by
  have hn := ncR_b w h
  have hb := idx_b hn hx hd
  obtain ⟨e1, e2⟩ := idx_w hn hx hd
  have hx15 : 0 ≤ x ∧ x ≤ 15 := ⟨hx.1, by have := hx.2; omega⟩
  have hin1 : 0 ≤ x * ncR w h + dst := by
   have := hd.1
   omega
  have hin2 : x * ncR w h + dst < (ps.length : Int) := by
   rw [hps]
   exact hb.2.2.1
  refine Ev.suc ?_
  simp only [spec_l04Walk.l0, e1, l01In_f, Option.bind_some, decide_eq_true_eq]
  unfold walkGo
  have hlen : (acc.length : Int) ≤ ncR w h := by omega
  have hacc : acc.length < 17592186044416 := by omega
  clear hb e1 e2
  refine Ev.ite_pos hlen (Ev.ite_pos hin1 (Ev.ite_pos hin2 ?_))
  generalize rd ps (x * ncR w h + dst) = p at *
  by_cases h4 : p = 4
  ·refine Ev.ite_pos h4 ?_
   rw [if_pos h4]
   refine Ev.ite (fun h5 => Ev.val ?_) (fun h5 => Ev.val ?_)
   ·rw [if_pos h5]
   ·rw [if_neg h5]
  ·refine Ev.ite_neg h4 ?_
   rw [if_neg h4]
   by_cases hp : 0 ≤ p ∧ p ≤ 3
   ·have e3 : wrap64 (wrap64 (4 * x) + p) = 4 * x + p := by rw [w64 (x := 4 * x) (by omega) (by omega), w64 (by omega) (by omega)]
    simp only [e3]
    refine Ev.ite_pos hp (Ev.bind (l03Has_s w h br (4 * x + p) hbr) (Ev.ite (fun hh => ?_) (fun hh => Ev.val ?_)))
    ·rw [if_pos ⟨hp, hh⟩]
     refine Ev.ite_pos hacc (Ev.bindS (NextNode_s w h x p) ?_)
     exact l04Walk_l0 w h br ps dst hbr hps hd d _ _ (has_next hp hh) (by simp only [List.length_append, List.length_cons, List.length_nil]; omega)
    ·rw [if_neg (fun z => hh z.2)]
   ·refine Ev.ite_neg hp (Ev.val ?_)
    rw [if_neg (fun z => hp z.1)]
theorem l04Walk_s (w h : Int) (br ps : List Int) (x dst : Int) (hbr : br.length < 1152921504606846976) (hps : (ps.length : Int) = ncR w h * ncR w h) (hx : nodeOk w h x) (hd : nodeOk w h dst) :
  Ev (fun k => spec_l04Walk.f k w h br ps x dst) (walkR w h br ps x dst) := by
 unfold spec_l04Walk.f walkR
 have hn := ncR_b w h
 exact Ev.bindS (NodeCount_s w h) (l04Walk_l0 w h br ps dst hbr hps hd _ [] x hx (by simp only [List.length_nil]; omega))

theorem MeshOk_s_l0 (w h : Int) : ∀ (rest pre : List Int) (y : Int), pre.length + rest.length < 1152921504606846976 → Ev (fun k => spec_MeshOk.l0 k (((pre ++ [y])).length : Int) w h ((pre ++ [y]) ++ rest)) (brR w h (some y) rest)
 | [], pre, y, hl => by
  refine Ev.suc ?_
  simp only [spec_MeshOk.l0]
  refine Ev.ite_neg (by simp) ?_
  exact Ev.val (by simp [brR])
 | x :: rest, pre, y, hl => by
  simp only [List.length_cons] at hl
  have hp : (pre ++ [y]).length = pre.length + 1 := by simp
  have h1 : ((pre ++ [y]).length : Int) < ((pre ++ [y] ++ x :: rest).length : Int) := by simp only [List.length_append, List.length_cons, List.length_nil]; omega
  have hw : wrap64 (((pre ++ [y]).length : Int) + 1) = ((pre ++ [y] ++ [x]).length : Int) := by rw [w64 (by omega) (by omega)]; exact (len_snoc _ _).symm
  have hv : wrap64 (((pre ++ [y]).length : Int) - 1) = ((pre ++ [y]).length : Int) - 1 := w64 (by omega) (by omega)
  have e1 : rd (pre ++ [y] ++ x :: rest) (((pre ++ [y]).length : Int) - 1) = y := rd_app_last pre y (x :: rest)
  have e2 : rd (pre ++ [y] ++ x :: rest) ((pre ++ [y]).length : Int) = x := rd_mid _ _ _
  have ih := MeshOk_s_l0 w h rest (pre ++ [y]) x (by omega)
  rw [← snoc_app (pre ++ [y]) x rest] at ih
  refine Ev.suc ?_
  simp only [spec_MeshOk.l0, e1, e2, hw, hv, leads_s, Option.bind_some]
  refine Ev.ite_pos h1 (Ev.ite_pos (by omega) (Ev.ite (fun hlx => ?_) (fun hlx => Ev.val ?_)))
  ·refine Ev.ite_pos (by omega) (Ev.ite_pos (by omega) (Ev.ite_pos (by omega) (Ev.ite (fun hc => Ev.val ?_) (fun hc => Ev.eq ih ?_))))
   ·have hc' : ¬ y < x := by omega
    simp [brR, hc']
   ·have hc' : y < x := by omega
    simp [brR, hlx, hc']
  ·simp [brR, hlx]
theorem MeshOk_s (w h : Int) (br : List Int) (hl : br.length < 1152921504606846976) : Ev (fun k => spec_MeshOk.f k w h br) (meshR w h br) := by
 unfold spec_MeshOk.f meshR
 refine Ev.bindS (GridOk_s w h) (Ev.ite (fun hg => ?_) (fun hg => Ev.val (by simp [show ¬ gOk w h from fun z => hg (decide_eq_true z)])))
 cases br with
 | nil =>
  refine Ev.suc ?_
  simp only [spec_MeshOk.l0]
  refine Ev.ite_neg (by simp) ?_
  exact Ev.val (by simp [brR, of_decide_eq_true hg])
 | cons x rest =>
  simp only [List.length_cons] at hl
  have z := MeshOk_s_l0 w h rest [] x (by simp; omega)
  have hw : wrap64 ((0 : Int) + 1) = ((([] : List Int) ++ [x]).length : Int) := by rw [w64 (by omega) (by omega)]; rfl
  have e2 : rd (x :: rest) 0 = x := rfl
  have h1 : (0 : Int) < ((x :: rest).length : Int) := by simp only [List.length_cons]; omega
  refine Ev.suc ?_
  simp only [spec_MeshOk.l0, e2, hw, leads_s, Option.bind_some]
  refine Ev.ite_pos h1 (Ev.ite_pos (by omega) (Ev.ite (fun hlx => Ev.ite_neg (by omega) (Ev.eq z ?_)) (fun hlx => Ev.val ?_)))
  ·simp [brR, hlx, of_decide_eq_true hg]
  ·simp [brR, hlx]

theorem TableOk_s_l1 (w h : Int) (br ps : List Int) (hbr : br.length < 1152921504606846976) (hps : (ps.length : Int) = ncR w h * ncR w h) (n : Nat) (hn : (n : Int) = ncR w h) (x : Nat) (hx : x < n) (P : Prop)
  (hR : ∃ b, Ev (fun k => spec_TableOk.l0 k (n : Int) ((x + 1 : Nat) : Int) w h br ps) b ∧ (b = true ↔ P)) : ∀ (d y : Nat), y + d = n →
  ∃ b, Ev (fun k => spec_TableOk.l1 k (n : Int) (x : Int) (y : Int) w h br ps) b ∧ (b = true ↔ (y ≤ x → rd ps ((x : Int) * ncR w h + (x : Int)) = 4) ∧ (∀ y' : Nat, y ≤ y' → y' < n → x ≠ y' → walkR w h br ps (x : Int) (y' : Int) ≠ []) ∧ P)
 | 0, y, hd => by
  obtain ⟨b, hb, hb2⟩ := hR
  have hnb := ncR_b w h
  refine ⟨b, Ev.suc ?_, ?_⟩
  ·simp only [spec_TableOk.l1]
   refine Ev.ite_neg (by omega) ?_
   have e : wrap64 ((x : Int) + 1) = ((x + 1 : Nat) : Int) := by rw [w64 (by omega) (by omega)]; omega
   rw [e]
   exact hb
  ·rw [hb2]
   exact ⟨fun hp => ⟨fun hz => absurd hz (by omega), fun y' h1 h2 => absurd h2 (by omega), hp⟩, fun hp => hp.2.2⟩
 | d + 1, y, hd => by
  obtain ⟨b, hb, hb2⟩ := TableOk_s_l1 w h br ps hbr hps n hn x hx P hR d (y + 1) (by omega)
  have hnb := ncR_b w h
  have e : wrap64 ((y : Int) + 1) = ((y + 1 : Nat) : Int) := by rw [w64 (by omega) (by omega)]; omega
  have hlt : (y : Int) < (n : Int) := by omega
  by_cases hxy : x = y
  ·have hxn : 0 ≤ (x : Int) ∧ (x : Int) ≤ ncR w h - 1 := by omega
   have hi := idx_b hnb hxn hxn
   have hi0 : 0 ≤ (x : Int) * ncR w h + (x : Int) := by omega
   have hi1 : (x : Int) * ncR w h + (x : Int) < (ps.length : Int) := by
    rw [hps]
    exact hi.2.2.1
   have ew := (idx_w hnb hxn hxn).1
   have hxy' : (x : Int) = (y : Int) := by omega
   have hle : y ≤ x := by omega
   have hnle : ¬ y + 1 ≤ x := by omega
   have hrest : (∀ y' : Nat, y + 1 ≤ y' → y' < n → x ≠ y' → walkR w h br ps (x : Int) (y' : Int) ≠ []) ↔ (∀ y' : Nat, y ≤ y' → y' < n → x ≠ y' → walkR w h br ps (x : Int) (y' : Int) ≠ []) := by
    clear hi hi0 hi1 ew
    exact ⟨fun hp y' h1 h2 h3 => hp y' (by omega) h2 h3, fun hp y' h1 h2 h3 => hp y' (by omega) h2 h3⟩
   by_cases h4 : rd ps ((x : Int) * ncR w h + (x : Int)) = 4
   ·refine ⟨b, Ev.suc ?_, ?_⟩
    ·rw [hn] at hb hlt ⊢
     simp only [spec_TableOk.l1, ew, e]
     exact Ev.ite_pos hlt (Ev.ite_pos hxy' (Ev.ite_pos hi0 (Ev.ite_pos hi1 (Ev.ite_pos h4 hb))))
    ·rw [hb2, hrest]
     exact ⟨fun hp => ⟨fun _ => h4, hp.2⟩, fun hp => ⟨fun hz => absurd hz hnle, hp.2⟩⟩
   ·refine ⟨false, Ev.suc ?_, ?_⟩
    ·rw [hn] at hlt ⊢
     simp only [spec_TableOk.l1, ew, e]
     exact Ev.ite_pos hlt (Ev.ite_pos hxy' (Ev.ite_pos hi0 (Ev.ite_pos hi1 (Ev.ite_neg h4 (Ev.now _)))))
    ·exact ⟨fun z => absurd z Bool.false_ne_true, fun hp => absurd (hp.1 hle) h4⟩
  ·have hv := l04Walk_s w h br ps (x : Int) (y : Int) hbr hps ⟨by omega, by omega⟩ ⟨by omega, by omega⟩
   have hneq : ¬ (x : Int) = (y : Int) := by omega
   have hd2 : (y ≤ x → rd ps ((x : Int) * ncR w h + (x : Int)) = 4) ↔ (y + 1 ≤ x → rd ps ((x : Int) * ncR w h + (x : Int)) = 4) := ⟨fun hp hz => hp (by omega), fun hp hz => hp (by omega)⟩
   by_cases hw : walkR w h br ps (x : Int) (y : Int) = []
   ·refine ⟨false, Ev.suc ?_, ?_⟩
    ·simp only [spec_TableOk.l1, e]
     refine Ev.ite_pos hlt (Ev.ite_neg hneq (Ev.bind hv (Ev.ite_pos (by simp [hw]) (Ev.now _))))
    ·refine ⟨fun z => absurd z Bool.false_ne_true, fun hp => absurd hw (hp.2.1 y (Nat.le_refl _) (by omega) hxy)⟩
   ·refine ⟨b, Ev.suc ?_, ?_⟩
    ·simp only [spec_TableOk.l1, e]
     refine Ev.ite_pos hlt (Ev.ite_neg hneq (Ev.bind hv (Ev.ite_neg ?_ hb)))
     cases hc : walkR w h br ps (x : Int) (y : Int) with
     | nil => exact absurd hc hw
     | cons a l => simp only [List.length_cons]; omega
    ·rw [hb2, hd2]
     refine ⟨fun hp => ⟨hp.1, fun y' h1 h2 h3 => ?_, hp.2.2⟩, fun hp => ⟨hp.1, fun y' h1 h2 h3 => hp.2.1 y' (by omega) h2 h3, hp.2.2⟩⟩
     by_cases hy : y' = y
     ·rw [hy]
      exact hw
     ·exact hp.2.1 y' (by omega) h2 h3
theorem TableOk_s_l0 (w h : Int) (br ps : List Int) (hbr : br.length < 1152921504606846976) (hps : (ps.length : Int) = ncR w h * ncR w h) (n : Nat) (hn : (n : Int) = ncR w h) : ∀ (d x : Nat), x + d = n →
  ∃ b, Ev (fun k => spec_TableOk.l0 k (n : Int) (x : Int) w h br ps) b ∧ (b = true ↔ (∀ x' : Nat, x ≤ x' → x' < n → rd ps ((x' : Int) * ncR w h + (x' : Int)) = 4) ∧ ∀ x' y' : Nat, x ≤ x' → x' < n → y' < n → x' ≠ y' → walkR w h br ps (x' : Int) (y' : Int) ≠ [])
 | 0, x, hd => by
  refine ⟨true, Ev.suc ?_, ?_⟩
  ·simp only [spec_TableOk.l0]
   exact Ev.ite_neg (by omega) (Ev.now _)
  ·exact ⟨fun _ => ⟨fun x' h1 h2 => absurd h2 (by omega), fun x' y' h1 h2 => absurd h2 (by omega)⟩, fun _ => rfl⟩
 | d + 1, x, hd => by
  obtain ⟨b, hb, hb2⟩ := TableOk_s_l1 w h br ps hbr hps n hn x (by omega) _ (TableOk_s_l0 w h br ps hbr hps n hn d (x + 1) (by omega)) n 0 (by omega)
  refine ⟨b, Ev.suc ?_, ?_⟩
  ·simp only [spec_TableOk.l0]
   exact Ev.ite_pos (by omega) hb
  ·rw [hb2]
   refine ⟨fun hp => ⟨fun x' h1 h2 => ?_, fun x' y' h1 h2 h3 h4 => ?_⟩, fun hp => ⟨fun _ => hp.1 x (Nat.le_refl _) (by omega), fun y' h1 h2 h3 => hp.2 x y' (Nat.le_refl _) (by omega) h2 h3, fun x' h1 h2 => hp.1 x' (by omega) h2, fun x' y' h1 h2 h3 h4 => hp.2 x' y' (by omega) h2 h3 h4⟩⟩
   ·by_cases hx : x' = x
    ·rw [hx]
     exact hp.1 (Nat.zero_le _)
    ·exact hp.2.2.1 x' (by omega) h2
   ·by_cases hx : x' = x
    ·subst hx
     exact hp.2.1 y' (Nat.zero_le _) h3 h4
    ·exact hp.2.2.2 x' y' (by omega) h2 h3 h4
theorem l04Sized_s (w h : Int) (br ps : List Int) (hbr : br.length < 1152921504606846976) : Ev (fun k => spec_l04Sized.f k w h br ps) (decide (meshR w h br = true ∧ (ps.length : Int) = ncR w h * ncR w h)) := by
 have hnb := ncR_b w h
 have hsq : wrap64 (ncR w h * ncR w h) = ncR w h * ncR w h := by
  have h3 : ncR w h * ncR w h ≤ 16 * ncR w h := Int.mul_le_mul_of_nonneg_right hnb.2 hnb.1
  have h4 : 0 ≤ ncR w h * ncR w h := Int.mul_nonneg hnb.1 hnb.1
  generalize ncR w h * ncR w h = q at *
  exact w64 (by omega) (by omega)
 unfold spec_l04Sized.f
 refine Ev.bindS (NodeCount_s w h) (Ev.bind (MeshOk_s w h br hbr) (Ev.ite (fun hm => Ev.val ?_) (fun hm => Ev.val ?_)))
 ·rw [hsq, hm]
  by_cases he : (ps.length : Int) = ncR w h * ncR w h
  ·simp [he]
  ·simp [he]
 ·simp [hm]
theorem TableOk_s (w h : Int) (br ps : List Int) (hbr : br.length < 1152921504606846976) : ∃ b, Ev (fun k => spec_TableOk.f k w h br ps) b ∧ (b = true ↔ tableOk w h br ps) := by
 have hnb := ncR_b w h
 have hs := l04Sized_s w h br ps hbr
 unfold spec_TableOk.f tableOk
 by_cases hm : meshR w h br = true ∧ (ps.length : Int) = ncR w h * ncR w h
 ·obtain ⟨n, hn⟩ : ∃ n : Nat, (n : Int) = ncR w h := ⟨(ncR w h).toNat, by omega⟩
  obtain ⟨b, hb, hb2⟩ := TableOk_s_l0 w h br ps hbr hm.2 n hn n 0 (by omega)
  refine ⟨b, ?_, ?_⟩
  ·refine Ev.bind hs (Ev.ite_pos (decide_eq_true hm) (Ev.bindS (NodeCount_s w h) ?_))
   rw [← hn]
   exact hb
  ·rw [hb2]
   unfold diagOk walksOk
   rw [← hn] at hm ⊢
   exact ⟨fun hp => ⟨hm.1, hm.2, fun x hx => hp.1 x (Nat.zero_le _) (by omega), fun x y hx hy hne => hp.2 x y (Nat.zero_le _) (by omega) (by omega) hne⟩, fun hp => ⟨fun x _ hx => hp.2.2.1 x (by omega), fun x y _ hx hy hne => hp.2.2.2 x y (by omega) (by omega) hne⟩⟩
 ·refine ⟨false, ?_, ⟨fun z => absurd z Bool.false_ne_true, fun hp => absurd ⟨hp.1, hp.2.1⟩ hm⟩⟩
  exact Ev.bind hs (Ev.ite_neg (fun z => hm (of_decide_eq_true z)) (Ev.now _))

theorem less_f (a b c d : Int) : spec_l08Less.f a b c d = some (decide (a < c ∨ (a = c ∧ b < d))) := by
 unfold spec_l08Less.f
 by_cases h1 : a < c
 ·rw [if_pos h1, decide_eq_true (Or.inl h1)]
 ·rw [if_neg h1]
  by_cases h2 : a = c
  ·rw [if_pos h2]
   congr 1
   rw [decide_eq_decide]
   omega
  ·rw [if_neg h2, decide_eq_false (by omega)]

/-- What 'l08Put' makes: the list with one element more, in its place. -/
def PutOf (l : List S98) (d : S98) (r : List S98) : Prop := dAll r = true ∧ (∀ x, x ∈ r ↔ x = d ∨ x ∈ l) ∧ r.length ≤ l.length + 1
theorem put_l0 (l : List S98) (hl : l.length ≤ 1048576) (ha : dAll l = true) (d : S98) (hd : dIn d) : ∀ (i : Nat), i ≤ l.length → (∀ x ∈ l.drop i, dLt d x) → ∃ r, PutOf l d r ∧ Ev (fun k => spec_l08Put.l0 k l (i : Int) d.f0 d.f1) r := by
 have hs := (dAll_iff l).1 ha
 have fin : ∀ i, i ≤ l.length → (∀ x ∈ l.drop i, dLt d x) → (∀ x ∈ l.take i, dLt x d) → PutOf l d ((([] ++ l.take i) ++ [d]) ++ l.drop i) := fun i hi h1 h2 => by
  have e : (([] ++ l.take i) ++ [d]) ++ l.drop i = l.take i ++ d :: l.drop i := by simp
  rw [e]
  refine ⟨(dAll_iff _).2 ⟨fun x hx => ?_, ?_⟩, fun x => ?_, ?_⟩
  ·rcases List.mem_append.1 hx with hx | hx
   ·exact hs.1 x (List.mem_of_mem_take hx)
   ·rcases List.mem_cons.1 hx with rfl | hx
    ·exact hd
    ·exact hs.1 x (List.mem_of_mem_drop hx)
  ·have h3 := hs.2
   rw [← List.take_append_drop i l, List.pairwise_append] at h3
   rw [List.pairwise_append, List.pairwise_cons]
   refine ⟨h3.1, ⟨h1, h3.2.1⟩, fun x hx y hy => ?_⟩
   rcases List.mem_cons.1 hy with rfl | hy
   ·exact h2 x hx
   ·exact h3.2.2 x hx y hy
  ·rw [List.mem_append, List.mem_cons]
   constructor
   ·rintro (hx | rfl | hx)
    ·exact Or.inr (List.mem_of_mem_take hx)
    ·exact Or.inl rfl
    ·exact Or.inr (List.mem_of_mem_drop hx)
   ·rintro (rfl | hx)
    ·exact Or.inr (Or.inl rfl)
    ·rw [← List.take_append_drop i l, List.mem_append] at hx
     rcases hx with hx | hx
     ·exact Or.inl hx
     ·exact Or.inr (Or.inr hx)
  ·simp
   omega
 have hlt : ∀ i : Nat, (l.take i).length ≤ l.length := fun i => by rw [List.length_take]; omega
 have hdr : ∀ i : Nat, (l.drop i).length ≤ l.length := fun i => by rw [List.length_drop]; omega
 intro i
 induction i with
 | zero =>
  intro hi h1
  refine ⟨_, fin 0 hi h1 (fun x hx => by simp at hx), Ev.suc ?_⟩
  simp only [spec_l08Put.l0, Option.bind_some]
  have := hlt 0
  have := hdr 0
  refine Ev.ite_neg (by omega) (Ev.ite_pos (by omega) (Ev.ite_pos (by omega) ?_))
  refine Ev.ite_pos ?_ (Ev.ite_pos ?_ (Ev.ite_pos ?_ (Ev.now _)))
  ·simp
  ·simp
  ·simp; omega
 | succ i ih =>
  intro hi h1
  have hi' : i < l.length := by omega
  have hw : wrap64 (((i + 1 : Nat) : Int) - 1) = (i : Int) := by rw [w64 (by omega) (by omega)]; omega
  have hx := rdD_at l i hi'
  have hdrop : l.drop i = l[i] :: l.drop (i + 1) := List.drop_eq_getElem_cons hi'
  have hmem : l[i] ∈ l := List.getElem_mem hi'
  by_cases q1 : dLt d l[i]
  ·obtain ⟨r, hr, h⟩ := ih (by omega) (fun x hx => by
    rw [hdrop] at hx
    rcases List.mem_cons.1 hx with rfl | hx
    ·exact q1
    ·exact h1 x hx)
   refine ⟨r, hr, Ev.suc ?_⟩
   simp only [spec_l08Put.l0, hw, hx, less_f, Option.bind_some, decide_eq_true_eq]
   exact Ev.ite_pos (by omega) (Ev.ite_pos (by omega) (Ev.ite_pos (by omega) (Ev.ite_pos q1 h)))
  ·by_cases q2 : l[i] = d
   ·refine ⟨l, ⟨ha, fun x => ⟨fun h => Or.inr h, fun h => h.elim (fun e => e ▸ q2 ▸ hmem) id⟩, by omega⟩, Ev.suc ?_⟩
    simp only [spec_l08Put.l0, hw, hx, less_f, Option.bind_some, decide_eq_true_eq]
    refine Ev.ite_pos (by omega) (Ev.ite_pos (by omega) (Ev.ite_pos (by omega) (Ev.ite_neg q1 (Ev.ite_pos ?_ (Ev.now _)))))
    rw [q2]
    simp
   ·have q3 : dLt l[i] d := by
     have : ¬ (l[i].f0 = d.f0 ∧ l[i].f1 = d.f1) := fun e => q2 (by
      have e1 : l[i] = ⟨l[i].f0, l[i].f1⟩ := rfl
      rw [e1, e.1, e.2])
     unfold dLt at *
     omega
    have h2 : ∀ x ∈ l.take (i + 1), dLt x d := fun x hx => by
     rw [← List.take_append_getElem hi', List.mem_append, List.mem_singleton] at hx
     rcases hx with hx | rfl
     ·have h3 := hs.2
      rw [← List.take_append_drop i l, List.pairwise_append] at h3
      exact dLt_trans (h3.2.2 x hx l[i] (by rw [hdrop]; exact List.mem_cons_self)) q3
     ·exact q3
    refine ⟨_, fin (i + 1) hi h1 h2, Ev.suc ?_⟩
    have := hlt (i + 1)
    have := hdr (i + 1)
    simp only [spec_l08Put.l0, hw, hx, less_f, Option.bind_some, decide_eq_true_eq]
    refine Ev.ite_pos (by omega) (Ev.ite_pos (by omega) (Ev.ite_pos (by omega) (Ev.ite_neg q1 (Ev.ite_neg ?_ (Ev.ite_pos (by omega) (Ev.ite_pos (by omega) ?_))))))
    ·intro z
     rw [Bool.and_eq_true, beq_iff_eq, beq_iff_eq] at z
     exact q2 (by
      have e1 : l[i] = ⟨l[i].f0, l[i].f1⟩ := rfl
      rw [e1, z.1, z.2])
    ·refine Ev.ite_pos ?_ (Ev.ite_pos ?_ (Ev.ite_pos ?_ (Ev.now _)))
     ·simp; omega
     ·simp; omega
     ·simp; omega
theorem put_s (l : List S98) (hl : l.length ≤ 1048576) (ha : dAll l = true) (d : S98) (hd : dIn d) : ∃ r, PutOf l d r ∧ Ev (fun k => spec_l08Put.f k l d.f0 d.f1) r := by
 unfold spec_l08Put.f
 exact put_l0 l hl ha d hd l.length (Nat.le_refl _) (fun x hx => by rw [List.drop_length] at hx; cases hx)

def Built (x S : List S98) : Prop := dAll x = true ∧ (∀ y, y ∈ x ↔ y ∈ S) ∧ x.length ≤ S.length
theorem Built.put {x S x' : List S98} {e : S98} (h : Built x S) (hp : PutOf x e x') : Built x' (S ++ [e]) := by
 refine ⟨hp.1, fun y => ?_, ?_⟩
 ·rw [hp.2.1 y, h.2.1 y, List.mem_append, List.mem_singleton, or_comm]
 ·have := h.2.2
  have := hp.2.2
  rw [List.length_append, List.length_singleton]
  omega

theorem ds_l1 (w h : Int) (br ps : List Int) (n i : Int) (ws : List Int) (hl : ws.length ≤ 17) (hin : ∀ x ∈ stepL ws, dIn x) (S : List S98) (hS : S.length ≤ 5000) (G : List S98 → Prop)
  (H : ∀ x', Built x' (S ++ stepL ws) → ∃ r, G r ∧ Ev (fun k => spec_DependsOf.l0 k x' n (wrap64 (i + 1)) w h br ps) r) : ∀ (d t : Nat) (x : List S98), t + d = ws.length - 1 → Built x (S ++ (List.range t).map (stepD ws)) → ∃ r, G r ∧ Ev (fun k => spec_DependsOf.l1 k x n i ws ((t + 1 : Nat) : Int) w h br ps) r
 | 0, t, x, h0, hb => by
  have e : t = ws.length - 1 := by omega
  rw [e] at hb
  obtain ⟨r, hG, hr⟩ := H x hb
  refine ⟨r, hG, Ev.suc ?_⟩
  simp only [spec_DependsOf.l1]
  exact Ev.ite_neg (by omega) hr
 | d + 1, t, x, h0, hb => by
  have hw : wrap64 (((t + 1 : Nat) : Int) - 1) = (t : Int) := by rw [w64 (by omega) (by omega)]; omega
  have hn : wrap64 (((t + 1 : Nat) : Int) + 1) = ((t + 1 + 1 : Nat) : Int) := by rw [w64 (by omega) (by omega)]; omega
  have hm : stepD ws t ∈ stepL ws := List.mem_map.2 ⟨t, List.mem_range.2 (by omega), rfl⟩
  have hxl := hb.2.2
  rw [List.length_append, List.length_map, List.length_range] at hxl
  obtain ⟨x', hp, hput⟩ := put_s x (by omega) hb.1 (stepD ws t) (hin _ hm)
  have hb' := hb.put hp
  rw [List.append_assoc, show (List.range t).map (stepD ws) ++ [stepD ws t] = (List.range (t + 1)).map (stepD ws) by rw [List.range_succ, List.map_append]; rfl] at hb'
  obtain ⟨r, hG, hr⟩ := ds_l1 w h br ps n i ws hl hin S hS G H d (t + 1) x' (by omega) hb'
  refine ⟨r, hG, Ev.suc ?_⟩
  simp only [spec_DependsOf.l1, hw, hn]
  exact Ev.ite_pos (by omega) (Ev.ite_pos (by omega) (Ev.ite_pos (by omega) (Ev.ite_pos (by omega) (Ev.bind hput hr))))
theorem ds_l0 (w h : Int) (br ps : List Int) (hbr : br.length < 1152921504606846976) (ht : tableOk w h br ps) (n : Nat) (hn : (n : Int) = ncR w h) : ∀ (d i : Nat) (x : List S98), i + d = n * n → Built x (depTo w h br ps n i) → ∃ r, Built r (depTo w h br ps n (n * n)) ∧ Ev (fun k => spec_DependsOf.l0 k x (n : Int) (i : Int) w h br ps) r := by
 have hnb := ncR_b w h
 have hq : n * n ≤ 16 * 16 := Nat.mul_le_mul (by omega) (by omega)
 have hm : wrap64 ((n : Int) * (n : Int)) = ((n * n : Nat) : Int) := by
  rw [← Int.natCast_mul, w64 (by omega) (by omega)]
 have hlen := fun m => depTo_len w h br ps n hn m
 have hnode := fun i => @node_of w h n i hn
 generalize hN : n * n = N at hm hq hlen hnode
 intro d
 induction d with
 | zero =>
  intro i x h0 hb
  have e : i = N := by omega
  subst e
  refine ⟨x, hb, Ev.suc ?_⟩
  simp only [spec_DependsOf.l0, hm]
  exact Ev.ite_neg (by omega) (Ev.now _)
 | succ d ih =>
  intro i x h0 hb
  have hw : wrap64 ((i : Int) + 1) = ((i + 1 : Nat) : Int) := by rw [w64 (by omega) (by omega)]; omega
  obtain ⟨n1, n2⟩ := hnode i (by omega)
  have hl := hlen i (by omega)
  have hwb := walkR_b w h br ps ((i / n : Nat) : Int) ((i % n : Nat) : Int) n1
  have hn0 : 0 < n := Nat.pos_of_ne_zero (fun e => by subst e; omega)
  have hiq : i / n ≤ i := Nat.div_le_self i n
  have e1 : wrap64 (Int.tdiv (i : Int) (n : Int)) = ((i / n : Nat) : Int) := by
   rw [show Int.tdiv (i : Int) (n : Int) = ((i / n : Nat) : Int) from rfl]
   clear n1 n2 hwb
   generalize i / n = q at hiq
   exact w64 (by omega) (by omega)
  have e2 : Int.tmod (i : Int) (n : Int) = ((i % n : Nat) : Int) := rfl
  have hin : ∀ x ∈ stepL (walkR w h br ps ((i / n : Nat) : Int) ((i % n : Nat) : Int)), dIn x := fun x hx => by
   have := stepL_in hwb.1 x hx
   unfold dIn
   omega
  have hwk := l04Walk_s w h br ps ((i / n : Nat) : Int) ((i % n : Nat) : Int) hbr ht.2.1 n1 n2
  obtain ⟨r, hG, hr⟩ := ds_l1 w h br ps (n : Int) (i : Int) (walkR w h br ps ((i / n : Nat) : Int) ((i % n : Nat) : Int)) hwb.2 hin (depTo w h br ps n i) (by omega) (fun r => Built r (depTo w h br ps n N)) (fun x' hx' => by
   rw [hw]
   rw [← depTo_succ] at hx'
   exact ih (i + 1) x' (by omega) hx') _ 0 x (Nat.zero_add _) (by rw [List.range_zero, List.map_nil, List.append_nil]; exact hb)
  refine ⟨r, hG, Ev.suc ?_⟩
  simp only [spec_DependsOf.l0, hm, e1, e2]
  exact Ev.ite_pos (by omega) (Ev.ite_neg (by omega) (Ev.bind hwk hr))
/-- The dependencies of a table: one valid list, for the program and for the reference. -/
theorem depOf (w h : Int) (br ps : List Int) (hbr : br.length < 1152921504606846976) : ∃ r, dAll r = true ∧ r.length ≤ 4096 ∧ Ev (fun k => spec_DependsOf.f k w h br ps) r ∧ Ev (fun k => impl_DependsOf.f k w h br ps) r ∧ (¬ tableOk w h br ps → r = []) ∧ (tableOk w h br ps → ∀ n : Nat, (n : Int) = ncR w h → ∀ y, y ∈ r ↔ y ∈ depTo w h br ps n (n * n)) := by
 obtain ⟨r, ha, hl, hi, h0, hm⟩ := depOf_i w h br ps hbr
 refine ⟨r, ha, hl, ?_, hi, h0, hm⟩
 obtain ⟨b, hb, hb2⟩ := TableOk_s w h br ps hbr
 have hnb := ncR_b w h
 unfold spec_DependsOf.f
 by_cases ht : tableOk w h br ps
 ·obtain ⟨n, hn⟩ : ∃ n : Nat, (n : Int) = ncR w h := ⟨(ncR w h).toNat, by omega⟩
  obtain ⟨r', h4, h5⟩ := ds_l0 w h br ps hbr ht n hn (n * n) 0 [] (Nat.zero_add _) ⟨rfl, fun y => Iff.rfl, Nat.le_refl _⟩
  have e : r' = r := dAll_ext _ _ h4.1 ha (fun y => by rw [h4.2.1 y, hm ht n hn y])
  subst e
  refine Ev.bindS rfl (Ev.bind hb (Ev.ite_pos (hb2.2 ht) (Ev.bindS (NodeCount_s w h) ?_)))
  rw [← hn]
  exact h5
 ·rw [h0 ht]
  exact Ev.bindS rfl (Ev.bind hb (Ev.ite_neg (fun e => ht (hb2.1 e)) (Ev.now _)))

theorem compare_f (a b c d : Int) (ha : 0 ≤ a ∧ a ≤ 127) (hb : 0 ≤ b ∧ b ≤ 127) (hc : 0 ≤ c ∧ c ≤ 127) (hd : 0 ≤ d ∧ d ≤ 127) : ∃ r, impl_compareDepends.f a b c d = some r ∧ (r ≥ 0 ↔ ¬ (a < c ∨ (a = c ∧ b < d))) := by
 unfold impl_compareDepends.f
 by_cases h2 : a = c
 ·refine ⟨b - d, ?_, by omega⟩
  rw [if_pos h2, w64 (by omega) (by omega)]
 ·refine ⟨a - c, ?_, by omega⟩
  rw [if_neg h2, w64 (by omega) (by omega)]
theorem DependsOk_i_go : ∀ (rest p : List S98) (y : S98), dIn y → (p ++ [y]).length + rest.length < 1152921504606846976 →
  Ev (fun k => impl_DependsOk.l0 k (p ++ [y] ++ rest) (p ++ [y] ++ rest) ((p ++ [y] ++ rest).length : Int) ((p ++ [y]).length : Int)) (dGo y rest)
 | [], p, y, _, _ => by
  refine Ev.suc ?_
  simp only [impl_DependsOk.l0]
  exact Ev.ite_neg (by simp) (Ev.val rfl)
 | x :: rest, p, y, hyI, hl => by
  simp only [List.length_cons] at hl
  obtain ⟨hp, hy⟩ := prev_rd p y x rest (by omega)
  have hx := rdI_Depend (p ++ [y]) x rest
  have h1 : ((p ++ [y]).length : Int) < ((p ++ [y] ++ x :: rest).length : Int) := by simp only [List.length_append, List.length_cons]; omega
  have h2 : (p.length : Int) < ((p ++ [y] ++ x :: rest).length : Int) := by simp only [List.length_append, List.length_cons]; omega
  have h3 : ((p ++ [y]).length : Int) > 0 := by simp only [List.length_append, List.length_cons]; omega
  have hw : wrap64 (((p ++ [y]).length : Int) + 1) = ((p ++ [y] ++ [x]).length : Int) := by
   have e : ((p ++ [y] ++ [x]).length : Int) = ((p ++ [y]).length : Int) + 1 := len_snoc (p ++ [y]) x
   rw [e]
   exact w64 (by omega) (by omega)
  refine Ev.suc ?_
  simp only [impl_DependsOk.l0, hp, hy, hx, hw, inside_f, Option.bind_some, decide_eq_true_eq]
  rw [dGo_cons]
  refine Ev.ite_pos h1 (Ev.ite_pos (by omega) (Ev.ite_pos h1 (Ev.ite (fun c1 => Ev.ite (fun c2 => Ev.ite_pos h3 (Ev.ite_pos (by omega) (Ev.ite_pos h2 ?_))) (fun c2 => Ev.val ?_)) (fun c1 => Ev.val ?_))))
  ·obtain ⟨r, e, hr⟩ := compare_f y.f0 y.f1 x.f0 x.f1 hyI.1 hyI.2 c1 c2
   have ih := DependsOk_i_go rest (p ++ [y]) x ⟨c1, c2⟩ (by simp only [List.length_append, List.length_cons, List.length_nil] at hl ⊢; omega)
   rw [← snoc_app (p ++ [y]) x rest] at ih
   simp only [e, Option.bind_some]
   refine Ev.ite (fun c3 => Ev.val ?_) (fun c3 => Ev.eq ih ?_)
   ·rw [decide_eq_false (show ¬ dLt y x from hr.1 c3), Bool.false_and, Bool.and_false]
   ·rw [decide_eq_true (show dIn x from ⟨c1, c2⟩), decide_eq_true (show dLt y x from Decidable.not_not.1 (fun z => c3 (hr.2 z))), Bool.true_and, Bool.true_and]
  ·rw [decide_eq_false (show ¬ dIn x from fun z => c2 z.2), Bool.false_and]
  ·rw [decide_eq_false (show ¬ dIn x from fun z => c1 z.1), Bool.false_and]
theorem DependsOk_i (l : List S98) (hl : l.length ≤ 1048576) : Ev (fun k => impl_DependsOk.f k l) (dAll l) := by
 unfold impl_DependsOk.f
 cases l with
 | nil =>
  refine Ev.suc ?_
  simp only [impl_DependsOk.l0]
  exact Ev.ite_neg (by simp) (Ev.val rfl)
 | cons x r =>
  have hx : rd_T98 (x :: r) 0 = x := rfl
  have hw : wrap64 ((0 : Int) + 1) = (([] ++ [x] : List S98).length : Int) := w64 (by omega) (by omega)
  have h1 : (0 : Int) < ((x :: r).length : Int) := by simp only [List.length_cons]; omega
  refine Ev.suc ?_
  simp only [impl_DependsOk.l0, hx, hw, inside_f, Option.bind_some, decide_eq_true_eq]
  rw [dAll_cons]
  refine Ev.ite_pos h1 (Ev.ite_pos (by omega) (Ev.ite_pos h1 (Ev.ite (fun c1 => Ev.ite (fun c2 => Ev.ite_neg (by omega) (Ev.eq (DependsOk_i_go r [] x ⟨c1, c2⟩ (by simp at hl ⊢; omega)) ?_)) (fun c2 => Ev.val ?_)) (fun c1 => Ev.val ?_))))
  ·rw [decide_eq_true (show dIn x from ⟨c1, c2⟩), Bool.true_and]
  ·rw [decide_eq_false (show ¬ dIn x from fun z => c2 z.2), Bool.false_and]
  ·rw [decide_eq_false (show ¬ dIn x from fun z => c1 z.1), Bool.false_and]

def clsOk (w h : Int) (br p q : List Int) : Prop := tableOk w h br p ∧ tableOk w h br q
theorem ClassesOk_i (w h : Int) (br p q : List Int) (hbr : br.length < 1152921504606846976) : ∃ b, Ev (fun k => impl_ClassesOk.f k w h br p q) b ∧ (b = true ↔ clsOk w h br p q) := by
 obtain ⟨b, hb, hb2⟩ := TableOk_i w h br p hbr
 obtain ⟨c, hc, hc2⟩ := TableOk_i w h br q hbr
 unfold impl_ClassesOk.f clsOk
 by_cases h : b = true
 ·exact ⟨c, Ev.bind hb (Ev.ite_pos h (Ev.bind hc (Ev.now _))), by rw [hc2]; exact ⟨fun z => ⟨hb2.1 h, z⟩, fun z => z.2⟩⟩
 ·exact ⟨false, Ev.bind hb (Ev.ite_neg h (Ev.now _)), ⟨fun z => absurd z Bool.false_ne_true, fun z => absurd (hb2.2 z.1) h⟩⟩

abbrev dLow (l : List S98) : Prop := ∀ x ∈ l, (0 ≤ x.f0 ∧ x.f0 ≤ 63) ∧ (0 ≤ x.f1 ∧ x.f1 ≤ 63)
def shD (x : S98) : S98 := ⟨x.f0 + 64, x.f1 + 64⟩
theorem shD_ok {l : List S98} (ha : dAll l = true) (h : dLow l) : dAll (l.map shD) = true := by
 refine (dAll_iff _).2 ⟨fun x hx => ?_, ?_⟩
 ·obtain ⟨y, hy, rfl⟩ := List.mem_map.1 hx
  have := h y hy
  unfold dIn shD
  simp only
  omega
 ·rw [List.pairwise_map]
  refine ((dAll_iff _).1 ha).2.imp fun {a b} hab => ?_
  unfold dLt at hab ⊢
  unfold shD
  simp only
  omega
theorem join_ok {a b : List S98} (ha : dAll a = true) (hb : dAll b = true) (h1 : dLow a) (h2 : dLow b) : dAll (a ++ b.map shD) = true := by
 have hs := (dAll_iff _).1 (shD_ok hb h2)
 have hp := (dAll_iff _).1 ha
 refine (dAll_iff _).2 ⟨fun x hx => ?_, ?_⟩
 ·rcases List.mem_append.1 hx with hx | hx
  ·exact hp.1 x hx
  ·exact hs.1 x hx
 ·refine List.pairwise_append.2 ⟨hp.2, hs.2, fun x hx y hy => ?_⟩
  obtain ⟨z, hz, rfl⟩ := List.mem_map.1 hy
  have q1 := h1 x hx
  have q2 := h2 z hz
  unfold dLt shD
  simp only
  omega
theorem shift_l0 (l : List S98) (hl : l.length ≤ 4096) (h : dLow l) (ha : dAll l = true) : ∀ (rest pre : List S98), l = pre ++ rest → Ev (fun k => impl_ShiftDepends.l0 k 64 (pre.map shD) l (l.length : Int) (pre.length : Int)) (l.map shD)
 | [], pre, e => by
  have hlen := congrArg List.length e
  rw [List.length_append, List.length_nil] at hlen
  rw [List.append_nil] at e
  have hd := DependsOk_i (l.map shD) (by rw [List.length_map]; omega)
  rw [shD_ok ha h] at hd
  refine Ev.suc ?_
  simp only [impl_ShiftDepends.l0]
  rw [← e]
  exact Ev.ite_neg (by omega) (Ev.bind hd (Ev.ite_pos rfl (Ev.now _)))
 | x :: rest, pre, e => by
  have hlen := congrArg List.length e
  rw [List.length_append, List.length_cons] at hlen
  have hw : wrap64 ((pre.length : Int) + 1) = ((pre ++ [x]).length : Int) := by rw [w64 (by omega) (by omega), len_snoc]
  have hx := h x (by rw [e]; exact List.mem_append.2 (Or.inr List.mem_cons_self))
  have hr : rd_T98 l (pre.length : Int) = x := by rw [e]; exact rdI_Depend pre x rest
  have ih := shift_l0 l hl h ha rest (pre ++ [x]) (by rw [e]; simp)
  rw [List.map_append] at ih
  have hlm : (pre.map shD).length < 8796093022208 := by rw [List.length_map]; omega
  refine Ev.suc ?_
  simp only [impl_ShiftDepends.l0, hr, hw, w64 (x := x.f0 + 64) (by omega) (by omega), w64 (x := x.f1 + 64) (by omega) (by omega)]
  exact Ev.ite_pos (by omega) (Ev.ite_pos (by omega) (Ev.ite_pos (by omega) (Ev.ite_pos hlm ih)))
theorem ShiftDepends_i (l : List S98) (hl : l.length ≤ 4096) (h : dLow l) (ha : dAll l = true) : Ev (fun k => impl_ShiftDepends.f k l 64) (l.map shD) := by
 have hd := DependsOk_i l (by omega)
 rw [ha] at hd
 unfold impl_ShiftDepends.f
 refine Ev.bind hd (Ev.ite_pos rfl (Ev.bindS (inside_f 64 (-1000) 1000) (Ev.suc ?_)))
 simp only [impl_ShiftDepends.j0]
 exact Ev.ite_neg (by decide) (shift_l0 l hl h ha l [] rfl)
theorem MergeDepends_i (a b : List S98) (hla : a.length ≤ 4096) (hlb : b.length ≤ 4096) (ha : dAll a = true) (hb : dAll b = true) (h1 : dLow a) (h2 : dLow b) : Ev (fun k => impl_MergeDepends.f k a (b.map shD)) (a ++ b.map shD) := by
 have hj := join_ok ha hb h1 h2
 have hlm : (b.map shD).length = b.length := List.length_map ..
 have da := DependsOk_i a (by omega)
 have db := DependsOk_i (b.map shD) (by omega)
 rw [ha] at da
 rw [shD_ok hb h2] at db
 obtain ⟨r, hr, hd, hm, _⟩ := arr_i (a ++ b.map shD) (fun x hx => ((dAll_iff _).1 hj).1 x hx) (by rw [List.length_append]; omega)
 have e := dAll_ext r (a ++ b.map shD) hd hj hm
 rw [e] at hr
 unfold impl_MergeDepends.f
 exact Ev.bind da (Ev.ite_pos rfl (Ev.bind db (Ev.ite_pos rfl (Ev.ite_pos (by omega) (by rw [hr]; exact Ev.now _)))))
theorem depOf_low {w h : Int} {br ps : List Int} {l : List S98} (h0 : ¬ tableOk w h br ps → l = []) (h1 : tableOk w h br ps → ∀ n : Nat, (n : Int) = ncR w h → ∀ y, y ∈ l ↔ y ∈ depTo w h br ps n (n * n)) : dLow l := by
 have hnb := ncR_b w h
 intro x hx
 by_cases ht : tableOk w h br ps
 ·have hn : (((ncR w h).toNat : Nat) : Int) = ncR w h := by omega
  exact depTo_in w h br ps (ncR w h).toNat hn _ (Nat.le_refl _) x ((h1 ht _ hn x).1 hx)
 ·rw [h0 ht] at hx
  cases hx
/-- The dependencies of two tables, for the program. -/
theorem classDep_i (w h : Int) (br p q : List Int) (hbr : br.length < 1152921504606846976) : ∃ la lb, (dAll la = true ∧ la.length ≤ 4096 ∧ dLow la ∧ Ev (fun k => impl_DependsOf.f k w h br p) la ∧ (tableOk w h br p → ∀ n : Nat, (n : Int) = ncR w h → ∀ y, y ∈ la ↔ y ∈ depTo w h br p n (n * n))) ∧ (dAll lb = true ∧ lb.length ≤ 4096 ∧ dLow lb ∧ Ev (fun k => impl_DependsOf.f k w h br q) lb ∧ (tableOk w h br q → ∀ n : Nat, (n : Int) = ncR w h → ∀ y, y ∈ lb ↔ y ∈ depTo w h br q n (n * n))) ∧
  (clsOk w h br p q → Ev (fun k => impl_ClassDepends.f k w h br p q) (la ++ lb.map shD)) ∧ (¬ clsOk w h br p q → Ev (fun k => impl_ClassDepends.f k w h br p q) []) := by
 obtain ⟨la, a1, a2, a3, a4, a5⟩ := depOf_i w h br p hbr
 obtain ⟨lb, b1, b2, b3, b4, b5⟩ := depOf_i w h br q hbr
 have la6 := depOf_low a4 a5
 have lb6 := depOf_low b4 b5
 obtain ⟨c, hc, hc2⟩ := ClassesOk_i w h br p q hbr
 refine ⟨la, lb, ⟨a1, a2, la6, a3, a5⟩, ⟨b1, b2, lb6, b3, b5⟩, fun ht => ?_, fun ht => ?_⟩
 ·unfold impl_ClassDepends.f
  exact Ev.bind hc (Ev.ite_pos (hc2.2 ht) (Ev.bind a3 (Ev.bind b3 (Ev.bind (ShiftDepends_i lb b2 lb6 b1) (Ev.bind (MergeDepends_i la lb a2 b2 a1 b1 la6 lb6) (Ev.now _))))))
 ·unfold impl_ClassDepends.f
  exact Ev.bind hc (Ev.ite_neg (fun e => ht (hc2.1 e)) (Ev.now _))

theorem ClassesOk_s (w h : Int) (br p q : List Int) (hbr : br.length < 1152921504606846976) : ∃ b, Ev (fun k => spec_ClassesOk.f k w h br p q) b ∧ (b = true ↔ clsOk w h br p q) := by
 obtain ⟨b, hb, hb2⟩ := TableOk_s w h br p hbr
 obtain ⟨c, hc, hc2⟩ := TableOk_s w h br q hbr
 unfold spec_ClassesOk.f clsOk
 by_cases h : b = true
 ·exact ⟨c, Ev.bind hb (Ev.ite_pos h (Ev.bind hc (Ev.now _))), by rw [hc2]; exact ⟨fun z => ⟨hb2.1 h, z⟩, fun z => z.2⟩⟩
 ·exact ⟨false, Ev.bind hb (Ev.ite_neg h (Ev.now _)), ⟨fun z => absurd z Bool.false_ne_true, fun z => absurd (hb2.2 z.1) h⟩⟩

theorem DependsOk_s_go : ∀ (rest p : List S98) (y : S98), (p ++ [y]).length + rest.length < 1152921504606846976 →
  Ev (fun k => spec_DependsOk.l0 k (p ++ [y] ++ rest) ((p ++ [y]).length : Int)) (dGo y rest)
 | [], p, y, _ => by
  refine Ev.suc ?_
  simp only [spec_DependsOk.l0]
  exact Ev.ite_neg (by simp) (Ev.val rfl)
 | x :: rest, p, y, hl => by
  simp only [List.length_cons] at hl
  obtain ⟨hp, hy⟩ := prev_rd p y x rest (by omega)
  have hx := rdI_Depend (p ++ [y]) x rest
  have h1 : ((p ++ [y]).length : Int) < ((p ++ [y] ++ x :: rest).length : Int) := by simp only [List.length_append, List.length_cons]; omega
  have h2 : (p.length : Int) < ((p ++ [y] ++ x :: rest).length : Int) := by simp only [List.length_append, List.length_cons]; omega
  have h3 : ((p ++ [y]).length : Int) > 0 := by simp only [List.length_append, List.length_cons]; omega
  have hw : wrap64 (((p ++ [y]).length : Int) + 1) = ((p ++ [y] ++ [x]).length : Int) := by
   have e : ((p ++ [y] ++ [x]).length : Int) = ((p ++ [y]).length : Int) + 1 := len_snoc (p ++ [y]) x
   rw [e]
   exact w64 (by omega) (by omega)
  have ih := DependsOk_s_go rest (p ++ [y]) x (by simp only [List.length_append, List.length_cons, List.length_nil] at hl ⊢; omega)
  rw [← snoc_app (p ++ [y]) x rest] at ih
  refine Ev.suc ?_
  simp only [spec_DependsOk.l0, hp, hy, hx, hw, l01In_f, less_f, Option.bind_some, decide_eq_true_eq]
  rw [dGo_cons]
  refine Ev.ite_pos h1 (Ev.ite_pos (by omega) (Ev.ite (fun c1 => Ev.ite (fun c2 => Ev.ite_pos h3 (Ev.ite_pos (by omega) (Ev.ite_pos h2 (Ev.ite (fun c3 => Ev.eq ih ?_) (fun c3 => Ev.val ?_))))) (fun c2 => Ev.val ?_)) (fun c1 => Ev.val ?_)))
  ·rw [decide_eq_true (show dIn x from ⟨c1, c2⟩), decide_eq_true (show dLt y x from c3), Bool.true_and, Bool.true_and]
  ·rw [decide_eq_false (show ¬ dLt y x from c3), Bool.false_and, Bool.and_false]
  ·rw [decide_eq_false (show ¬ dIn x from fun z => c2 z.2), Bool.false_and]
  ·rw [decide_eq_false (show ¬ dIn x from fun z => c1 z.1), Bool.false_and]
theorem DependsOk_s (l : List S98) (hl : l.length ≤ 1048576) : Ev (fun k => spec_DependsOk.f k l) (dAll l) := by
 unfold spec_DependsOk.f
 cases l with
 | nil =>
  refine Ev.suc ?_
  simp only [spec_DependsOk.l0]
  exact Ev.ite_neg (by simp) (Ev.val rfl)
 | cons x r =>
  have hx : rd_T98 (x :: r) 0 = x := rfl
  have hw : wrap64 ((0 : Int) + 1) = (([] ++ [x] : List S98).length : Int) := w64 (by omega) (by omega)
  have h1 : (0 : Int) < ((x :: r).length : Int) := by simp only [List.length_cons]; omega
  have ih := DependsOk_s_go r [] x (by simp at hl ⊢; omega)
  refine Ev.suc ?_
  simp only [spec_DependsOk.l0, hx, hw, l01In_f, Option.bind_some, decide_eq_true_eq]
  rw [dAll_cons]
  refine Ev.ite_pos h1 (Ev.ite_pos (by omega) (Ev.ite (fun c1 => Ev.ite (fun c2 => Ev.ite_neg (by omega) (Ev.eq ih ?_)) (fun c2 => Ev.val ?_)) (fun c1 => Ev.val ?_)))
  ·rw [decide_eq_true (show dIn x from ⟨c1, c2⟩), Bool.true_and]
  ·rw [decide_eq_false (show ¬ dIn x from fun z => c2 z.2), Bool.false_and]
  ·rw [decide_eq_false (show ¬ dIn x from fun z => c1 z.1), Bool.false_and]

theorem shift_s0 (l : List S98) (hl : l.length ≤ 4096) (h : dLow l) (ha : dAll l = true) : ∀ (rest pre : List S98), l = pre ++ rest → Ev (fun k => spec_ShiftDepends.l0 k l 64 (pre.map shD) (pre.length : Int)) (l.map shD)
 | [], pre, e => by
  have hlen := congrArg List.length e
  rw [List.length_append, List.length_nil] at hlen
  rw [List.append_nil] at e
  have hd := DependsOk_s (l.map shD) (by rw [List.length_map]; omega)
  rw [shD_ok ha h] at hd
  refine Ev.suc ?_
  simp only [spec_ShiftDepends.l0]
  rw [← e]
  exact Ev.ite_neg (by omega) (Ev.bind hd (Ev.ite_pos rfl (Ev.now _)))
 | x :: rest, pre, e => by
  have hlen := congrArg List.length e
  rw [List.length_append, List.length_cons] at hlen
  have hw : wrap64 ((pre.length : Int) + 1) = ((pre ++ [x]).length : Int) := by rw [w64 (by omega) (by omega), len_snoc]
  have hx := h x (by rw [e]; exact List.mem_append.2 (Or.inr List.mem_cons_self))
  have hr : rd_T98 l (pre.length : Int) = x := by rw [e]; exact rdI_Depend pre x rest
  have ih := shift_s0 l hl h ha rest (pre ++ [x]) (by rw [e]; simp)
  rw [List.map_append] at ih
  have hlm : (pre.map shD).length < 8796093022208 := by rw [List.length_map]; omega
  refine Ev.suc ?_
  simp only [spec_ShiftDepends.l0, hr, hw, w64 (x := x.f0 + 64) (by omega) (by omega), w64 (x := x.f1 + 64) (by omega) (by omega)]
  exact Ev.ite_pos (by omega) (Ev.ite_pos (by omega) (Ev.ite_pos hlm ih))
theorem ShiftDepends_s (l : List S98) (hl : l.length ≤ 4096) (h : dLow l) (ha : dAll l = true) : Ev (fun k => spec_ShiftDepends.f k l 64) (l.map shD) := by
 have hd := DependsOk_s l (by omega)
 rw [ha] at hd
 unfold spec_ShiftDepends.f
 refine Ev.bindS rfl (Ev.bind hd (Ev.ite_pos rfl (Ev.bindS (l01In_f 64 (-1000) 1000) (Ev.suc ?_))))
 simp only [spec_ShiftDepends.j0]
 exact Ev.ite_neg (by decide) (shift_s0 l hl h ha l [] rfl)
theorem merge_s0 (a b : List S98) (hla : a.length ≤ 4096) (hlb : b.length ≤ 4096) (hb : ∀ x ∈ b, dIn x) (hj : dAll (a ++ b) = true) : ∀ (rest pre x : List S98), b = pre ++ rest → Built x (a ++ pre) → Ev (fun k => spec_MergeDepends.l0 k b x (pre.length : Int)) (a ++ b)
 | [], pre, x, e, hx => by
  have hlen := congrArg List.length e
  rw [List.length_append, List.length_nil] at hlen
  rw [List.append_nil] at e
  rw [← e] at hx
  refine Ev.suc ?_
  simp only [spec_MergeDepends.l0]
  exact Ev.ite_neg (by omega) (Ev.val (dAll_ext _ _ hx.1 hj hx.2.1))
 | y :: rest, pre, x, e, hx => by
  have hlen := congrArg List.length e
  rw [List.length_append, List.length_cons] at hlen
  have hxl := hx.2.2
  rw [List.length_append] at hxl
  have hw : wrap64 ((pre.length : Int) + 1) = ((pre ++ [y]).length : Int) := by rw [w64 (by omega) (by omega), len_snoc]
  have hr : rd_T98 b (pre.length : Int) = y := by rw [e]; exact rdI_Depend pre y rest
  obtain ⟨x', hp, hput⟩ := put_s x (by omega) hx.1 y (hb y (by rw [e]; exact List.mem_append.2 (Or.inr List.mem_cons_self)))
  have hx' := hx.put hp
  rw [List.append_assoc] at hx'
  have ih := merge_s0 a b hla hlb hb hj rest (pre ++ [y]) x' (by rw [e]; simp) hx'
  refine Ev.suc ?_
  simp only [spec_MergeDepends.l0, hr, hw]
  exact Ev.ite_pos (by omega) (Ev.ite_pos (by omega) (Ev.bind hput ih))
theorem MergeDepends_s (a b : List S98) (hla : a.length ≤ 4096) (hlb : b.length ≤ 4096) (ha : dAll a = true) (hb : dAll b = true) (h1 : dLow a) (h2 : dLow b) : Ev (fun k => spec_MergeDepends.f k a (b.map shD)) (a ++ b.map shD) := by
 have hj := join_ok ha hb h1 h2
 have hlm : (b.map shD).length = b.length := List.length_map ..
 have da := DependsOk_s a (by omega)
 have db := DependsOk_s (b.map shD) (by omega)
 rw [ha] at da
 rw [shD_ok hb h2] at db
 unfold spec_MergeDepends.f
 refine Ev.bindS rfl (Ev.ite_pos (by simp only [List.length_nil]; omega) (Ev.bindS rfl (Ev.bind da (Ev.ite_pos rfl (Ev.bind db (Ev.suc ?_))))))
 simp only [spec_MergeDepends.j0]
 refine Ev.ite_neg (by decide) (merge_s0 a (b.map shD) hla (by omega) (fun x hx => ((dAll_iff _).1 (shD_ok hb h2)).1 x hx) hj (b.map shD) [] ([] ++ a) rfl ?_)
 rw [List.nil_append, List.append_nil]
 exact ⟨ha, fun y => Iff.rfl, Nat.le_refl _⟩
/-- The dependencies of two tables: one valid list, for the program and for the reference. -/
theorem classDep (w h : Int) (br p q : List Int) (hbr : br.length < 1152921504606846976) : ∃ r, dAll r = true ∧ r.length ≤ 8192 ∧ Ev (fun k => spec_ClassDepends.f k w h br p q) r ∧ Ev (fun k => impl_ClassDepends.f k w h br p q) r := by
 obtain ⟨la, a1, a2, sa, a3, a4, a5⟩ := depOf w h br p hbr
 obtain ⟨lb, b1, b2, sb, b3, b4, b5⟩ := depOf w h br q hbr
 have la6 := depOf_low a4 a5
 have lb6 := depOf_low b4 b5
 obtain ⟨c, hc, hc2⟩ := ClassesOk_i w h br p q hbr
 obtain ⟨d, hd, hd2⟩ := ClassesOk_s w h br p q hbr
 unfold impl_ClassDepends.f spec_ClassDepends.f
 by_cases ht : clsOk w h br p q
 ·refine ⟨la ++ lb.map shD, join_ok a1 b1 la6 lb6, by rw [List.length_append, List.length_map]; omega, ?_, ?_⟩
  ·exact Ev.bind hd (Ev.ite_pos (hd2.2 ht) (Ev.bind sa (Ev.bind sb (Ev.bind (ShiftDepends_s lb b2 lb6 b1) (Ev.bind (MergeDepends_s la lb a2 b2 a1 b1 la6 lb6) (Ev.now _))))))
  ·exact Ev.bind hc (Ev.ite_pos (hc2.2 ht) (Ev.bind a3 (Ev.bind b3 (Ev.bind (ShiftDepends_i lb b2 lb6 b1) (Ev.bind (MergeDepends_i la lb a2 b2 a1 b1 la6 lb6) (Ev.now _))))))
 ·exact ⟨[], rfl, by decide, Ev.bind hd (Ev.ite_neg (fun e => ht (hd2.1 e)) (Ev.now _)), Ev.bind hc (Ev.ite_neg (fun e => ht (hc2.1 e)) (Ev.now _))⟩

/-- A walk of n edges. -/
def Wk (adj : Int → Int → Prop) : Nat → Int → Int → Prop
 | 0, a, c => a = c
 | n + 1, a, c => ∃ b, adj a b ∧ Wk adj n b c
theorem Wk.snoc {adj : Int → Int → Prop} {b c : Int} (h : adj b c) : ∀ {n : Nat} {a : Int}, Wk adj n a b → Wk adj (n + 1) a c
 | 0, a, hw => ⟨c, (show a = b from hw) ▸ h, rfl⟩
 | n + 1, a, ⟨x, hx, hw⟩ => ⟨x, hx, Wk.snoc h hw⟩
theorem Wk.append {adj : Int → Int → Prop} {b c : Int} {m : Nat} (h : Wk adj m b c) : ∀ {n : Nat} {a : Int}, Wk adj n a b → Wk adj (n + m) a c
 | 0, a, hw => by
  have e : a = b := hw
  rw [e, Nat.zero_add]
  exact h
 | n + 1, a, ⟨x, hx, hw⟩ => by
  rw [Nat.add_right_comm]
  exact ⟨x, hx, Wk.append h hw⟩
theorem Wk.last {adj : Int → Int → Prop} {c : Int} : ∀ {n : Nat} {a : Int}, Wk adj (n + 1) a c → ∃ b, Wk adj n a b ∧ adj b c
 | 0, a, ⟨x, hx, hw⟩ => ⟨a, rfl, (show x = c from hw) ▸ hx⟩
 | n + 1, a, ⟨x, hx, hw⟩ => by
  obtain ⟨b, h1, h2⟩ := Wk.last hw
  exact ⟨b, ⟨x, hx, h1⟩, h2⟩
theorem Wk.split {adj : Int → Int → Prop} {c : Int} {m : Nat} : ∀ {n : Nat} {a : Int}, Wk adj (n + m) a c → ∃ b, Wk adj n a b ∧ Wk adj m b c
 | 0, a, h => by
  rw [Nat.zero_add] at h
  exact ⟨a, rfl, h⟩
 | n + 1, a, h => by
  rw [Nat.add_right_comm] at h
  obtain ⟨x, hx, hw⟩ := h
  obtain ⟨b, h1, h2⟩ := Wk.split hw
  exact ⟨b, ⟨x, hx, h1⟩, h2⟩
theorem Wk.mono {adj adj' : Int → Int → Prop} (h : ∀ a b, adj a b → adj' a b) {c : Int} : ∀ {n : Nat} {a : Int}, Wk adj n a c → Wk adj' n a c
 | 0, _, hw => hw
 | _ + 1, _, ⟨x, hx, hw⟩ => ⟨x, h _ _ hx, Wk.mono h hw⟩
/-- The least number of edges, at least one. -/
def PD (adj : Int → Int → Prop) (a b : Int) (m : Nat) : Prop := 0 < m ∧ Wk adj m a b ∧ ∀ j, 0 < j → j < m → ¬ Wk adj j a b
/-- What 'steps between' says: -1 for none. -/
def SB (adj : Int → Int → Prop) (a b v : Int) : Prop := (v = -1 ∧ ∀ n, 0 < n → ¬ Wk adj n a b) ∨ ∃ m : Nat, v = (m : Int) ∧ PD adj a b m
theorem PD.unique {adj : Int → Int → Prop} {a b : Int} {m n : Nat} (h : PD adj a b m) (k : PD adj a b n) : m = n := by
 obtain ⟨h1, h2, h3⟩ := h
 obtain ⟨k1, k2, k3⟩ := k
 rcases Nat.lt_trichotomy m n with h | h | h
 ·exact absurd h2 (k3 m h1 h)
 ·exact h
 ·exact absurd k2 (h3 n k1 h)
theorem SB.unique {adj : Int → Int → Prop} {a b v u : Int} (h : SB adj a b v) (k : SB adj a b u) : v = u := by
 rcases h with ⟨rfl, h⟩ | ⟨m, rfl, h⟩
 ·rcases k with ⟨rfl, _⟩ | ⟨n, rfl, k⟩
  ·rfl
  ·exact absurd k.2.1 (h n k.1)
 ·rcases k with ⟨rfl, k⟩ | ⟨n, rfl, k⟩
  ·exact absurd h.2.1 (k m h.1)
  ·rw [h.unique k]
/-- A least one of what holds somewhere. -/
theorem least {P : Nat → Prop} (n : Nat) : P n → ∃ m, P m ∧ m ≤ n ∧ ∀ j, j < m → ¬ P j := by
 induction n using Nat.strongRecOn with
 | _ n ih =>
  intro h
  by_cases hs : ∃ j, j < n ∧ P j
  ·obtain ⟨j, hj, hp⟩ := hs
   obtain ⟨m, hm, hmn, hl⟩ := ih j hj hp
   exact ⟨m, hm, by omega, hl⟩
  ·exact ⟨n, h, Nat.le_refl _, fun j hj hp => hs ⟨j, hj, hp⟩⟩
theorem PD.of {adj : Int → Int → Prop} {a b : Int} {n : Nat} (h0 : 0 < n) (h : Wk adj n a b) : ∃ m, PD adj a b m ∧ m ≤ n := by
 obtain ⟨m, ⟨h1, h2⟩, hmn, hl⟩ := least (P := fun n => 0 < n ∧ Wk adj n a b) n ⟨h0, h⟩
 exact ⟨m, ⟨h1, h2, fun j hj hjm hw => hl j hjm ⟨hj, hw⟩⟩, hmn⟩

/-- The successors of a channel, in the order of the list. -/
def su (l : List S98) (a : Int) : List Int := (l.filter (fun x => decide (x.f0 = a))).map (fun x => x.f1)
abbrev adjL (l : List S98) (a b : Int) : Prop := ∃ x, x ∈ l ∧ x.f0 = a ∧ x.f1 = b
theorem su_mem (l : List S98) (a b : Int) : b ∈ su l a ↔ adjL l a b := by
 unfold su adjL
 rw [List.mem_map]
 constructor
 ·rintro ⟨x, hx, rfl⟩
  rw [List.mem_filter, decide_eq_true_eq] at hx
  exact ⟨x, hx.1, hx.2, rfl⟩
 ·rintro ⟨x, hx, rfl, rfl⟩
  exact ⟨x, List.mem_filter.2 ⟨hx, decide_eq_true rfl⟩, rfl⟩
theorem su_cons_pos (x : S98) (r : List S98) (a : Int) (h : x.f0 = a) : su (x :: r) a = x.f1 :: su r a := by
 unfold su
 rw [List.filter_cons, if_pos (decide_eq_true h), List.map_cons]
theorem su_cons_neg (x : S98) (r : List S98) (a : Int) (h : ¬ x.f0 = a) : su (x :: r) a = su r a := by
 unfold su
 rw [List.filter_cons, if_neg (by rw [decide_eq_true_eq]; exact h)]
theorem su_len (l : List S98) (a : Int) : (su l a).length ≤ l.length := by
 unfold su
 rw [List.length_map]
 exact List.length_filter_le _ _
theorem dGo_in : ∀ (r : List S98) (y : S98), dGo y r = true → ∀ x ∈ r, dIn x
 | [], _, _, x, hx => by cases hx
 | z :: r, y, h, x, hx => by
  rw [dGo_cons, Bool.and_eq_true, Bool.and_eq_true] at h
  rcases List.mem_cons.1 hx with rfl | hx
  ·exact of_decide_eq_true h.1
  ·exact dGo_in r z h.2.2 x hx
theorem dAll_in : ∀ (l : List S98), dAll l = true → ∀ x ∈ l, dIn x
 | [], _, x, hx => by cases hx
 | z :: r, h, x, hx => by
  rw [dAll_cons, Bool.and_eq_true] at h
  rcases List.mem_cons.1 hx with rfl | hx
  ·exact of_decide_eq_true h.1
  ·exact dGo_in r z h.2 x hx
theorem adjL_in {l : List S98} (hd : ∀ x ∈ l, dIn x) {a b : Int} (h : adjL l a b) : (0 ≤ a ∧ a ≤ 127) ∧ (0 ≤ b ∧ b ≤ 127) := by
 obtain ⟨x, hx, rfl, rfl⟩ := h
 exact hd x hx
theorem rd_eq (l : List Int) (i : Int) : rd l i = l.getD i.toNat 0 := rfl
theorem rd_setI (D : List Int) (v n u : Int) (h0 : 0 ≤ v) (h1 : v < (D.length : Int)) (hu : 0 ≤ u) : rd (D.set v.toNat n) u = if u = v then n else rd D u := by
 rw [rd_eq, rd_eq, List.getD_eq_getElem?_getD, List.getD_eq_getElem?_getD, List.getElem?_set]
 by_cases h : u = v
 ·subst h
  rw [if_pos rfl, if_pos (by omega), if_pos rfl]
  rfl
 ·rw [if_neg h, if_neg (by omega)]
theorem count_setI (D : List Int) (v n b : Int) (h0 : 0 ≤ v) (h1 : v < (D.length : Int)) (he : rd D v = b) (hn : n ≠ b) : (D.set v.toNat n).count b + 1 = D.count b := by
 have hl : v.toNat < D.length := by omega
 have e : D[v.toNat] = b := by
  rw [rd_eq, List.getD_eq_getElem?_getD, List.getElem?_eq_getElem hl] at he
  exact he
 have hp : 0 < D.count b := List.count_pos_iff.2 (e ▸ List.getElem_mem hl)
 rw [List.count_set hl, e, if_pos (by simp), if_neg (by simpa using hn)]
 omega

theorem Wk.cons {adj : Int → Int → Prop} {n : Nat} {a b c : Int} (h : adj a b) (w : Wk adj n b c) : Wk adj (n + 1) a c := ⟨b, h, w⟩
/-- How far a goal is: the least number of edges, -1 for none. -/
def DT (adj : Int → Int → Prop) (goal v x : Int) : Prop := (x = -1 ∧ ∀ n, ¬ Wk adj n v goal) ∨ ∃ m : Nat, x = (m : Int) ∧ Wk adj m v goal ∧ ∀ j, j < m → ¬ Wk adj j v goal
/-- How far a channel is: the least positive number of edges, 0 for none. -/
def D0 (adj : Int → Int → Prop) (a b x : Int) : Prop := (x = 0 ∧ ∀ n, 0 < n → ¬ Wk adj n a b) ∨ ∃ m : Nat, x = (m : Int) ∧ PD adj a b m
theorem DT.ge {adj : Int → Int → Prop} {a b x : Int} (h : DT adj a b x) : -1 ≤ x := by
 rcases h with ⟨rfl, _⟩ | ⟨m, rfl, _⟩ <;> omega
theorem DT.walk {adj : Int → Int → Prop} {g v x : Int} (h : DT adj g v x) (h0 : 0 ≤ x) : Wk adj x.toNat v g := by
 rcases h with ⟨rfl, _⟩ | ⟨m, rfl, h, _⟩
 ·omega
 ·exact h
theorem DT.le {adj : Int → Int → Prop} {g v x : Int} (h : DT adj g v x) {n : Nat} (hw : Wk adj n v g) : 0 ≤ x ∧ x ≤ (n : Int) := by
 rcases h with ⟨_, h⟩ | ⟨m, rfl, _, h⟩
 ·exact absurd hw (h n)
 ·refine ⟨by omega, ?_⟩
  rcases Nat.lt_or_ge n m with hl | hl
  ·exact absurd hw (h n hl)
  ·omega
theorem D0.walk {adj : Int → Int → Prop} {a b x : Int} (h : D0 adj a b x) (h0 : 0 < x) : Wk adj x.toNat a b := by
 rcases h with ⟨rfl, _⟩ | ⟨m, rfl, h⟩
 ·omega
 ·exact h.2.1
theorem D0.le {adj : Int → Int → Prop} {a b x : Int} (h : D0 adj a b x) {n : Nat} (hn : 0 < n) (hw : Wk adj n a b) : 0 < x ∧ x ≤ (n : Int) := by
 rcases h with ⟨_, h⟩ | ⟨m, rfl, h⟩
 ·exact absurd hw (h n hn)
 ·refine ⟨by have := h.1; omega, ?_⟩
  rcases Nat.lt_or_ge n m with hl | hl
  ·exact absurd hw (h.2.2 n hn hl)
  ·omega
theorem DT.self {adj : Int → Int → Prop} {g x : Int} (h : DT adj g g x) : x = 0 := by
 have := h.le (n := 0) rfl
 omega
theorem DT.zero {adj : Int → Int → Prop} {g v : Int} (h : DT adj g v 0) : v = g := h.walk (by omega)
/-- The edges out of channels not below a least one. -/
def adjF (adj : Int → Int → Prop) (s : Int) (a b : Int) : Prop := adj a b ∧ s ≤ a
theorem adjF.lift {adj : Int → Int → Prop} {s : Int} {n : Nat} {a b : Int} (h : Wk (adjF adj s) n a b) : Wk adj n a b := Wk.mono (fun _ _ h => h.1) h
/-- A shortest closed walk: its length is g, its first channel the least that any such one has. -/
structure Girth (adj : Int → Int → Prop) (s : Int) (g : Nat) : Prop where
 pos : 0 < g
 wk : Wk adj g s s
 least : ∀ c n, 0 < n → Wk adj n c c → g ≤ n
 first : ∀ c n, c < s → 0 < n → Wk adj n c c → g < n
theorem Girth.on {adj : Int → Int → Prop} {s v : Int} {g p q : Nat} (h : Girth adj s g) (h1 : Wk adj p s v) (h2 : Wk adj q v s) (e : p + q = g) : s ≤ v := by
 rcases Int.lt_or_le v s with hl | hl
 ·have := h.first v (q + p) hl (by have := h.pos; omega) (Wk.append h1 h2)
  omega
 ·exact hl
theorem Girth.restrict {adj : Int → Int → Prop} {s : Int} {g : Nat} (h : Girth adj s g) : ∀ (q p : Nat) (v : Int), Wk adj p s v → Wk adj q v s → p + q = g → Wk (adjF adj s) q v s
 | 0, _, _, _, h2, _ => h2
 | q + 1, p, v, h1, ⟨b, hb, h2⟩, e => ⟨b, ⟨hb, h.on h1 (Wk.cons hb h2) e⟩, h.restrict q (p + 1) b (Wk.snoc hb h1) h2 (by omega)⟩
theorem Girth.ge {adj : Int → Int → Prop} {s a c x : Int} {g i n : Nat} (h : Girth adj s g) (e : i + n + 1 = g) (h1 : Wk adj i s a) (hc : adj a c) (hx : DT (adjF adj s) s c x) (h0 : 0 ≤ x) : (n : Int) ≤ x := by
 have hw := adjF.lift (hx.walk h0)
 have := h.least s (i + (x.toNat + 1)) (by omega) (Wk.append (Wk.cons hc hw) h1)
 omega
theorem Girth.same {adj : Int → Int → Prop} {s a c x y : Int} {g i n : Nat} (h : Girth adj s g) (e : i + n + 1 = g) (h1 : Wk adj i s a) (hc : adj a c) (hx : DT (adjF adj s) s c x) (hy : D0 adj c s y) :
  (s ≤ c ∧ x = (n : Int)) ↔ ((n = 0 ∧ c = s) ∨ (0 < n ∧ c ≠ s ∧ y = (n : Int))) := by
 constructor
 ·rintro ⟨h2, rfl⟩
  rcases Nat.eq_zero_or_pos n with h0 | h0
  ·subst h0
   exact Or.inl ⟨rfl, hx.zero⟩
  ·have hw := adjF.lift (hx.walk (by omega))
   rw [Int.toNat_natCast] at hw
   obtain ⟨y0, y1⟩ := hy.le h0 hw
   have hw2 := hy.walk y0
   have := h.least s (i + (y.toNat + 1)) (by omega) (Wk.append (Wk.cons hc hw2) h1)
   refine Or.inr ⟨h0, fun hcs => ?_, by omega⟩
   subst hcs
   have := hx.self
   omega
 ·rintro (⟨rfl, rfl⟩ | ⟨h0, hne, rfl⟩)
  ·exact ⟨Int.le_refl _, by rw [hx.self]; rfl⟩
  ·have hw := hy.walk (by omega)
   rw [Int.toNat_natCast] at hw
   have h3 := Wk.snoc hc h1
   have := hx.le (h.restrict n (i + 1) c h3 hw (by omega))
   have := h.ge e h1 hc hx (by omega)
   exact ⟨h.on h3 hw (by omega), by omega⟩
theorem Girth.near {adj : Int → Int → Prop} {s a : Int} {g i n : Nat} (h : Girth adj s g) (e : i + n + 1 = g) (h1 : Wk adj i s a) (h2 : Wk adj (n + 1) a s) :
  ∃ c, adj a c ∧ s ≤ c ∧ Wk adj n c s ∧ Wk adj (i + 1) s c ∧ ∀ x, DT (adjF adj s) s c x → x = (n : Int) := by
 obtain ⟨c, hc, hw⟩ := h2
 have h3 := Wk.snoc hc h1
 refine ⟨c, hc, h.on h3 hw (by omega), hw, h3, fun x hx => ?_⟩
 have := hx.le (h.restrict n (i + 1) c h3 hw (by omega))
 have := h.ge e h1 hc hx (by omega)
 omega
/-- The channels of a shortest cycle, each the first successor that is near enough. -/
def pathF (su : Int → List Int) (ok : Nat → Int → Bool) : Nat → Int → List Int
 | 0, _ => []
 | n + 1, a => a :: (match (su a).find? (ok n) with
  | some c => pathF su ok n c
  | none => [])
theorem pathF_succ (su : Int → List Int) (ok : Nat → Int → Bool) (n : Nat) (a : Int) : pathF su ok (n + 1) a = a :: (match (su a).find? (ok n) with
  | some c => pathF su ok n c
  | none => []) := rfl
theorem pathF_some {su : Int → List Int} {ok : Nat → Int → Bool} {n : Nat} {a c : Int} (h : (su a).find? (ok n) = some c) : pathF su ok (n + 1) a = a :: pathF su ok n c := by
 rw [pathF_succ, h]
theorem find_some {α : Type} {p : α → Bool} {l : List α} (h : ∃ x, x ∈ l ∧ p x = true) : ∃ x, l.find? p = some x ∧ x ∈ l ∧ p x = true := by
 cases e : l.find? p with
 | none =>
  obtain ⟨x, hx, hp⟩ := h
  exact absurd hp (List.find?_eq_none.1 e x hx)
 | some x => exact ⟨x, rfl, List.mem_of_find?_eq_some e, List.find?_some e⟩
theorem find_congr {α : Type} {p q : α → Bool} : ∀ {l : List α}, (∀ x ∈ l, p x = q x) → l.find? p = l.find? q
 | [], _ => rfl
 | x :: l, h => by
  rw [List.find?_cons, List.find?_cons, h x List.mem_cons_self, find_congr (fun y hy => h y (List.mem_cons_of_mem _ hy))]

theorem filter_ne_len (a : Int) : ∀ (l : List Int), l.Nodup → l.length ≤ (l.filter (fun x => decide (x ≠ a))).length + 1
 | [], _ => by simp
 | x :: l, h => by
  rw [List.nodup_cons] at h
  have ih := filter_ne_len a l h.2
  by_cases hx : x = a
  ·subst hx
   have e : (l.filter (fun y => decide (y ≠ x))) = l := List.filter_eq_self.2 (fun y hy => decide_eq_true (fun z => h.1 (z ▸ hy)))
   rw [List.filter_cons_of_neg (by simp), e, List.length_cons]
   omega
  ·have e : decide (x ≠ a) = true := decide_eq_true hx
   rw [List.filter_cons, if_pos e, List.length_cons, List.length_cons]
   omega
theorem nodup_len : ∀ (n : Nat) (l : List Int), l.Nodup → (∀ x ∈ l, 0 ≤ x ∧ x < (n : Int)) → l.length ≤ n
 | 0, l, _, h => by
  cases l with
  | nil => simp
  | cons x l => have := h x List.mem_cons_self; omega
 | n + 1, l, hd, h => by
  have h1 := filter_ne_len (n : Int) l hd
  have h2 := nodup_len n (l.filter (fun x => decide (x ≠ (n : Int)))) (List.Pairwise.filter _ hd) (fun x hx => by
   rw [List.mem_filter, decide_eq_true_eq] at hx
   have := h x hx.1
   omega)
  omega
/-- The channels along a walk backwards, newest first. -/
inductive Back (adj : Int → Int → Prop) : List Int → Prop
 | one (a : Int) : Back adj [a]
 | more {a b : Int} {l : List Int} (h : adj a b) (t : Back adj (b :: l)) : Back adj (a :: b :: l)
theorem Back.wk {adj : Int → Int → Prop} {l : List Int} (h : Back adj l) : ∀ {a : Int} {r : List Int}, l = a :: r → ∀ x ∈ r, ∃ n, 0 < n ∧ Wk adj n a x := by
 induction h with
 | one a =>
  intro b r e x hx
  cases e
  cases hx
 | more h t ih =>
  intro c r e x hx
  cases e
  rcases List.mem_cons.1 hx with rfl | hx
  ·exact ⟨1, by omega, Wk.cons h rfl⟩
  ·obtain ⟨n, hn, hw⟩ := ih rfl x hx
   exact ⟨n + 1, by omega, Wk.cons h hw⟩
theorem Back.nodup {adj : Int → Int → Prop} (hc : ∀ a n, 0 < n → ¬ Wk adj n a a) {l : List Int} (h : Back adj l) : l.Nodup := by
 induction h with
 | one a => exact List.nodup_cons.2 ⟨List.not_mem_nil, List.nodup_nil⟩
 | @more a b l h t ih =>
  refine List.nodup_cons.2 ⟨fun hm => ?_, ih⟩
  obtain ⟨n, hn, hw⟩ := (Back.more h t).wk rfl a hm
  exact hc a n hn hw
theorem back_long {adj : Int → Int → Prop} {U : Int → Prop} (hp : ∀ c, U c → ∃ b, adj b c ∧ U b) {c : Int} (h : U c) : ∀ n : Nat, ∃ a l, Back adj (a :: l) ∧ l.length = n ∧ U a ∧ ∀ x ∈ a :: l, U x
 | 0 => ⟨c, [], .one c, rfl, h, fun x hx => by rw [List.mem_singleton.1 hx]; exact h⟩
 | n + 1 => by
  obtain ⟨a, l, hb, hl, hu, ha⟩ := back_long hp h n
  obtain ⟨b, hab, hub⟩ := hp a hu
  exact ⟨b, a :: l, .more hab hb, by simp [hl], hub, fun x hx => (List.mem_cons.1 hx).elim (fun e => e ▸ hub) (ha x)⟩
/-- Where each channel of a set has a predecessor in it, there is a closed walk. -/
theorem closed_of_preds {adj : Int → Int → Prop} {U : Int → Prop} (hr : ∀ c, U c → 0 ≤ c ∧ c ≤ 127) (hp : ∀ c, U c → ∃ b, adj b c ∧ U b) {c : Int} (h : U c) : ∃ a n, 0 < n ∧ Wk adj n a a := by
 refine Classical.byContradiction fun hn => ?_
 have hc : ∀ a n, 0 < n → ¬ Wk adj n a a := fun a n h0 hw => hn ⟨a, n, h0, hw⟩
 obtain ⟨a, l, hb, hl, _, hu⟩ := back_long hp h 128
 have h1 := nodup_len 128 (a :: l) (hb.nodup hc) (fun x hx => by have := hr x (hu x hx); omega)
 rw [List.length_cons] at h1
 omega

/-- A channel that is not ranked, and to which no element leads from one that is not ranked. -/
def freeC (l : List S98) (R : List Int) (c : Int) : Prop := rd R c < 0 ∧ ∀ x ∈ l, x.f1 = c → ¬ rd R x.f0 < 0
/-- The least such channel, -1 where there is none. -/
def Pick (l : List S98) (R : List Int) (b : Int) : Prop := (b = -1 ∧ ∀ c, 0 ≤ c → c ≤ 127 → ¬ freeC l R c) ∨ ((0 ≤ b ∧ b ≤ 127) ∧ freeC l R b ∧ ∀ c, 0 ≤ c → c < b → ¬ freeC l R c)
theorem Pick.unique {l : List S98} {R : List Int} {a b : Int} (h : Pick l R a) (k : Pick l R b) : a = b := by
 rcases h with ⟨rfl, h⟩ | ⟨h1, h2, h3⟩
 ·rcases k with ⟨rfl, _⟩ | ⟨k1, k2, _⟩
  ·rfl
  ·exact absurd k2 (h b k1.1 k1.2)
 ·rcases k with ⟨rfl, k⟩ | ⟨k1, k2, k3⟩
  ·exact absurd h2 (k a h1.1 h1.2)
  ·rcases Int.lt_trichotomy a b with e | e | e
   ·exact absurd h2 (k3 a h1.1 e)
   ·exact e
   ·exact absurd k2 (h3 b k1.1 e)
theorem pick_ex (l : List S98) (R : List Int) : ∃ b, Pick l R b := by
 by_cases h : ∃ n : Nat, n ≤ 127 ∧ freeC l R (n : Int)
 ·obtain ⟨n, hn⟩ := h
  obtain ⟨m, hm, hmn, hl⟩ := least (P := fun n => n ≤ 127 ∧ freeC l R (n : Int)) n hn
  refine ⟨(m : Int), Or.inr ⟨⟨by omega, by omega⟩, hm.2, fun c c0 c1 hc => hl c.toNat (by omega) ⟨by omega, by rw [show ((c.toNat : Nat) : Int) = c by omega]; exact hc⟩⟩⟩
 ·exact ⟨-1, Or.inl ⟨rfl, fun c c0 c1 hc => h ⟨c.toNat, by omega, by rw [show ((c.toNat : Nat) : Int) = c by omega]; exact hc⟩⟩⟩
/-- The ranks, given one by one. -/
inductive Ord (l : List S98) : Nat → List Int → List Int × Bool → Prop
 | done (R : List Int) : Ord l 0 R (R, true)
 | fail {d : Nat} {R : List Int} (h : Pick l R (-1)) : Ord l (d + 1) R ([], false)
 | step {d : Nat} {R : List Int} {b : Int} {r : List Int × Bool} (h : Pick l R b) (h0 : 0 ≤ b) (t : Ord l d (R.set b.toNat (127 - (d : Int))) r) : Ord l (d + 1) R r
theorem Ord.unique {l : List S98} {d : Nat} {R : List Int} {r s : List Int × Bool} (h : Ord l d R r) : Ord l d R s → r = s := by
 induction h with
 | done R => intro k; cases k; rfl
 | fail h =>
  intro k
  cases k with
  | fail k => rfl
  | step k k0 t => have := h.unique k; omega
 | step h h0 t ih =>
  intro k
  cases k with
  | fail k => have := h.unique k; omega
  | step k k0 t' =>
   have e := h.unique k
   subst e
   exact ih t'
/-- What holds when r ranks are given. -/
structure RI (l : List S98) (r : Int) (R : List Int) : Prop where
 len : R.length = 128
 val : ∀ c, 0 ≤ c → c ≤ 127 → -1 ≤ rd R c ∧ rd R c < r
 rise : ∀ x ∈ l, 0 ≤ rd R x.f1 → 0 ≤ rd R x.f0 ∧ rd R x.f0 < rd R x.f1
 all : ∀ q, 0 ≤ q → q < r → ∃ c, (0 ≤ c ∧ c ≤ 127) ∧ rd R c = q
 cnt : (R.count (-1) : Int) + r = 128
theorem RI.put {l : List S98} {r b : Int} {R : List Int} (hd : ∀ x ∈ l, dIn x) (h : RI l r R) (hb : 0 ≤ b ∧ b ≤ 127) (hf : freeC l R b) (h0 : 0 ≤ r) : RI l (r + 1) (R.set b.toNat r) := by
 have hl := h.len
 have hG : ∀ u, 0 ≤ u → rd (R.set b.toNat r) u = if u = b then r else rd R u := fun u hu => rd_setI R b r u hb.1 (by omega) hu
 have hb1 : rd R b = -1 := by have := (h.val b hb.1 hb.2).1; have := hf.1; omega
 refine ⟨by rw [List.length_set]; exact hl, fun c c0 c1 => ?_, fun x hx hx1 => ?_, fun q q0 q1 => ?_, ?_⟩
 ·rw [hG c c0]
  split
  ·omega
  ·have := h.val c c0 c1
   omega
 ·have hxr := hd x hx
  rw [hG x.f1 hxr.2.1] at hx1 ⊢
  rw [hG x.f0 hxr.1.1]
  by_cases e1 : x.f1 = b
  ·rw [if_pos e1]
   have hn := hf.2 x hx e1
   have hv := h.val x.f0 hxr.1.1 hxr.1.2
   rw [if_neg (by intro e; rw [e] at hn; omega)]
   omega
  ·rw [if_neg e1] at hx1 ⊢
   have := h.rise x hx hx1
   have hv := h.val x.f0 hxr.1.1 hxr.1.2
   rw [if_neg (by intro e; rw [e] at this; omega)]
   exact this
 ·by_cases e : q = r
  ·refine ⟨b, hb, ?_⟩
   rw [hG b hb.1, if_pos rfl, e]
  ·obtain ⟨c, hc, e2⟩ := h.all q q0 (by omega)
   refine ⟨c, hc, ?_⟩
   rw [hG c hc.1, if_neg (by intro e3; rw [e3] at e2; omega)]
   exact e2
 ·have := count_setI R b r (-1) hb.1 (by omega) hb1 (by omega)
  have := h.cnt
  omega
theorem rd_repl (c : Int) (h0 : 0 ≤ c) (h1 : c ≤ 127) : rd (List.replicate 128 (-1 : Int)) c = -1 := by
 rw [rd_eq, List.getD_eq_getElem?_getD, List.getElem?_replicate, if_pos (by omega)]
 rfl
theorem RI.start {l : List S98} (hd : ∀ x ∈ l, dIn x) : RI l 0 (List.replicate 128 (-1)) := by
 refine ⟨by simp, fun c c0 c1 => ?_, fun x hx hx1 => ?_, fun q q0 q1 => by omega, ?_⟩
 ·rw [rd_repl c c0 c1]; omega
 ·have hxr := hd x hx
  rw [rd_repl x.f1 hxr.2.1 hxr.2.2] at hx1
  omega
 ·rw [List.count_replicate_self]; omega
/-- What comes of it: an order, or a closed walk. -/
theorem Ord.good {l : List S98} (hd : ∀ x ∈ l, dIn x) {d : Nat} {R : List Int} {r : List Int × Bool} (h : Ord l d R r) : RI l (128 - (d : Int)) R → d ≤ 128 → (r.2 = true ∧ RI l 128 r.1) ∨ (r = ([], false) ∧ ∃ a n, 0 < n ∧ Wk (adjL l) n a a) := by
 induction h with
 | done R =>
  intro hi _
  exact Or.inl ⟨rfl, by simpa using hi⟩
 | @fail d R h =>
  intro hi hdl
  refine Or.inr ⟨rfl, ?_⟩
  rcases h with ⟨_, h⟩ | ⟨h, _⟩
  ·have hc : 0 < R.count (-1) := by have := hi.cnt; omega
   have hm := List.count_pos_iff.1 hc
   obtain ⟨i, hi2, e⟩ := List.getElem_of_mem hm
   have hl := hi.len
   have hri : rd R (i : Int) = -1 := by
    rw [rd_eq, Int.toNat_natCast, List.getD_eq_getElem?_getD, List.getElem?_eq_getElem hi2, e]
    rfl
   refine closed_of_preds (adj := adjL l) (U := fun c => (0 ≤ c ∧ c ≤ 127) ∧ rd R c < 0) (fun c hc => hc.1) (fun c hc => ?_) (c := (i : Int)) ⟨⟨by omega, by omega⟩, by omega⟩
   have hn := h c hc.1.1 hc.1.2
   refine Classical.byContradiction fun hno => hn ⟨hc.2, fun x hx e hx0 => hno ⟨x.f0, ⟨x, hx, rfl, e⟩, (hd x hx).1, hx0⟩⟩
  ·omega
 | @step d R b r h h0 t ih =>
  intro hi hdl
  rcases h with ⟨rfl, _⟩ | ⟨h1, h2, _⟩
  ·omega
  ·have e1 : (127 : Int) - (d : Int) = 128 - ((d + 1 : Nat) : Int) := by omega
   have := hi.put hd h1 h2 (by omega)
   rw [← e1] at this
   exact ih (by rw [show (128 : Int) - (d : Int) = 127 - (d : Int) + 1 by omega]; exact this) (by omega)
/-- What the program writes beside the ranks: -2 for what may be taken, so far. -/
theorem ordI_l1 (l : List S98) (R : List Int) (hR : R.length = 128) (q z : Int) (r : List Int × Bool)
  (hk : ∀ F : List Int, F.length = 128 → (∀ c, 0 ≤ c → c ≤ 127 → rd F c = if rd R c < 0 then -2 else rd R c) → Ev (fun k => impl_OrderOf.l2 k l R q F z l (l.length : Int) 0) r) :
  ∀ (d : Nat) (i : Int) (F : List Int), 0 ≤ i → 128 - i = (d : Int) → F.length = 128 → (∀ c, 0 ≤ c → c ≤ 127 → rd F c = if c < i then (if rd R c < 0 then -2 else rd R c) else rd R c) → Ev (fun k => impl_OrderOf.l1 k l R q F z R (R.length : Int) i) r
 | 0, i, F, h0, hi, hF, hv => by
  have := hk F hF (fun c c0 c1 => by rw [hv c c0 c1, if_pos (by omega)])
  refine Ev.suc ?_
  simp only [impl_OrderOf.l1]
  exact Ev.ite_neg (by omega) this
 | d + 1, i, F, h0, hi, hF, hv => by
  have hw : wrap64 (i + 1) = i + 1 := w64 (by omega) (by omega)
  refine Ev.suc ?_
  simp only [impl_OrderOf.l1, hw]
  refine Ev.ite_pos (by omega) (Ev.ite_pos h0 (Ev.ite_pos (by omega) (Ev.ite (fun q1 => Ev.ite_pos (by omega) ?_) (fun q1 => ?_))))
  ·refine ordI_l1 l R hR q z r hk d (i + 1) (F.set i.toNat (-2)) (by omega) (by omega) (by rw [List.length_set]; exact hF) (fun c c0 c1 => ?_)
   rw [rd_setI F i (-2) c h0 (by omega) c0, hv c c0 c1]
   by_cases e : c = i
   ·rw [if_pos e, e, if_pos (by omega), if_pos q1]
   ·rw [if_neg e]
    by_cases e2 : c < i
    ·rw [if_pos e2, if_pos (show c < i + 1 by omega)]
    ·rw [if_neg e2, if_neg (show ¬ c < i + 1 by omega)]
  ·refine ordI_l1 l R hR q z r hk d (i + 1) F (by omega) (by omega) hF (fun c c0 c1 => ?_)
   rw [hv c c0 c1]
   by_cases e : c = i
   ·rw [e, if_neg (by omega), if_pos (by omega), if_neg q1]
   ·by_cases e2 : c < i
    ·rw [if_pos e2, if_pos (show c < i + 1 by omega)]
    ·rw [if_neg e2, if_neg (show ¬ c < i + 1 by omega)]
/-- What stands beside the ranks behind the elements 'pre'. -/
def FI (R F : List Int) (pre : List S98) : Prop := F.length = 128 ∧ ∀ c, 0 ≤ c → c ≤ 127 → ((rd R c < 0 ∧ (∃ x, x ∈ pre ∧ x.f1 = c ∧ rd R x.f0 < 0) ∧ rd F c = -1) ∨ (rd R c < 0 ∧ (∀ x ∈ pre, x.f1 = c → ¬ rd R x.f0 < 0) ∧ rd F c = -2) ∨ (¬ rd R c < 0 ∧ rd F c = rd R c))
theorem ordI_l2 (l : List S98) (hl : l.length ≤ 1048576) (hd : ∀ x ∈ l, dIn x) (R : List Int) (hR : R.length = 128) (q z : Int) (r : List Int × Bool)
  (hk : ∀ F : List Int, FI R F l → Ev (fun k => (impl_nextRanked.f k l F).bind fun t143 => (if t143 < 0 then (some (([] : List Int), false)) else (if 0 ≤ t143 then (if t143 < (R.length : Int) then (impl_OrderOf.l0 k l (R.set (t143 : Int).toNat q) (wrap64 (z + 1))) else (none)) else (none)))) r) :
  ∀ (rest pre : List S98) (F : List Int), l = pre ++ rest → FI R F pre → Ev (fun k => impl_OrderOf.l2 k l R q F z l (l.length : Int) (pre.length : Int)) r
 | [], pre, F, e, hF => by
  rw [List.append_nil] at e
  have := hk F (e ▸ hF)
  refine Ev.suc ?_
  simp only [impl_OrderOf.l2]
  exact Ev.ite_neg (by rw [e]; omega) this
 | x :: rest, pre, F, e, hF => by
  have hlen : pre.length + (rest.length + 1) = l.length := by rw [e]; simp
  have hxr := hd x (by rw [e]; exact List.mem_append.2 (Or.inr List.mem_cons_self))
  have hw : wrap64 ((pre.length : Int) + 1) = ((pre ++ [x]).length : Int) := by rw [w64 (by omega) (by omega), len_snoc]
  have hx : rd_T98 l (pre.length : Int) = x := by rw [e]; exact rdI_Depend pre x rest
  have go := fun F' hF' => ordI_l2 l hl hd R hR q z r hk rest (pre ++ [x]) F' (by rw [e]; simp) hF'
  obtain ⟨hFl, hFv⟩ := hF
  have keep : (¬ (rd R x.f0 < 0 ∧ rd R x.f1 < 0)) → FI R F (pre ++ [x]) := fun hn => ⟨hFl, fun c c0 c1 => by
   rcases hFv c c0 c1 with ⟨h1, ⟨y, hy, hy1, hy2⟩, h3⟩ | ⟨h1, h2, h3⟩ | ⟨h1, h2⟩
   ·exact Or.inl ⟨h1, ⟨y, List.mem_append.2 (Or.inl hy), hy1, hy2⟩, h3⟩
   ·refine Or.inr (Or.inl ⟨h1, fun y hy hy1 hy2 => ?_, h3⟩)
    rcases List.mem_append.1 hy with hy | hy
    ·exact h2 y hy hy1 hy2
    ·rw [List.mem_singleton.1 hy] at hy1 hy2
     exact hn ⟨hy2, by rw [hy1]; exact h1⟩
   ·exact Or.inr (Or.inr ⟨h1, h2⟩)⟩
  refine Ev.suc ?_
  simp only [impl_OrderOf.l2, hx, hw]
  refine Ev.ite_pos (by omega) (Ev.ite_pos (by omega) (Ev.ite_pos (by omega) (Ev.ite_pos hxr.1.1 (Ev.ite_pos (by omega) (Ev.ite (fun q1 => Ev.ite_pos hxr.2.1 (Ev.ite_pos (by omega) (Ev.ite (fun q2 => Ev.ite_pos (by omega) ?_) (fun q2 => go F (keep (fun h => q2 h.2)))))) (fun q1 => go F (keep (fun h => q1 h.1))))))))
  refine go _ ⟨by rw [List.length_set]; exact hFl, fun c c0 c1 => ?_⟩
  rw [rd_setI F x.f1 (-1) c hxr.2.1 (by omega) c0]
  by_cases ec : c = x.f1
  ·rw [if_pos ec, ec]
   exact Or.inl ⟨q2, ⟨x, List.mem_append.2 (Or.inr (List.mem_singleton.2 rfl)), rfl, q1⟩, rfl⟩
  ·rw [if_neg ec]
   rcases hFv c c0 c1 with ⟨h1, ⟨y, hy, hy1, hy2⟩, h3⟩ | ⟨h1, h2, h3⟩ | ⟨h1, h2⟩
   ·exact Or.inl ⟨h1, ⟨y, List.mem_append.2 (Or.inl hy), hy1, hy2⟩, h3⟩
   ·refine Or.inr (Or.inl ⟨h1, fun y hy hy1 hy2 => ?_, h3⟩)
    rcases List.mem_append.1 hy with hy | hy
    ·exact h2 y hy hy1 hy2
    ·rw [List.mem_singleton.1 hy] at hy1
     exact ec hy1.symm
   ·exact Or.inr (Or.inr ⟨h1, h2⟩)
theorem next_l0 (l : List S98) (R F : List Int) (hF : FI R F l) (hv : ∀ c, 0 ≤ c → c ≤ 127 → -1 ≤ rd R c) : ∀ (d : Nat) (c : Int), 0 ≤ c → 128 - c = (d : Int) → (∀ c', 0 ≤ c' → c' < c → ¬ freeC l R c') → ∃ b, Pick l R b ∧ Ev (fun k => impl_nextRanked.l0 k F c) b
 | 0, c, h0, hc, hn => by
  refine ⟨-1, Or.inl ⟨rfl, fun c' c0 c1 => hn c' c0 (by omega)⟩, Ev.suc ?_⟩
  simp only [impl_nextRanked.l0]
  exact Ev.ite_neg (by have := hF.1; omega) (Ev.now _)
 | d + 1, c, h0, hc, hn => by
  have hw : wrap64 (c + 1) = c + 1 := w64 (by omega) (by omega)
  have hFl := hF.1
  have hv' := hv c h0 (by omega)
  by_cases q : rd F c = -2
  ·refine ⟨c, Or.inr ⟨⟨h0, by omega⟩, ?_, hn⟩, Ev.suc ?_⟩
   ·rcases hF.2 c h0 (by omega) with ⟨_, _, h3⟩ | ⟨h1, h2, _⟩ | ⟨h1, h2⟩
    ·omega
    ·exact ⟨h1, h2⟩
    ·omega
   ·simp only [impl_nextRanked.l0]
    exact Ev.ite_pos (by omega) (Ev.ite_pos h0 (Ev.ite_pos q (Ev.now _)))
  ·obtain ⟨b, hb, hr⟩ := next_l0 l R F hF hv d (c + 1) (by omega) (by omega) (fun c' h1 h2 hf => by
    by_cases e : c' = c
    ·rw [e] at hf
     rcases hF.2 c h0 (by omega) with ⟨_, ⟨y, hy, hy1, hy2⟩, _⟩ | ⟨_, _, h3⟩ | ⟨h1, _⟩
     ·exact hf.2 y hy hy1 hy2
     ·exact q h3
     ·exact h1 hf.1
    ·exact hn c' h1 (by omega) hf)
   refine ⟨b, hb, Ev.suc ?_⟩
   simp only [impl_nextRanked.l0, hw]
   exact Ev.ite_pos (by omega) (Ev.ite_pos h0 (Ev.ite_neg q hr))
theorem ordI_step (l : List S98) (hl : l.length ≤ 1048576) (hd : ∀ x ∈ l, dIn x) (q : Int) (R : List Int) (hi : RI l q R) (hq0 : 0 ≤ q) (hq : q < 128) (b : Int) (hb : Pick l R b) (r : List Int × Bool) (hk : Ev (fun k => if b < 0 then (some (([] : List Int), false)) else (if 0 ≤ b then (if b < (R.length : Int) then (impl_OrderOf.l0 k l (R.set (b : Int).toNat q) (wrap64 (q + 1))) else (none)) else (none))) r) : Ev (fun k => impl_OrderOf.l0 k l R q) r := by
 have hR := hi.len
 have h := ordI_l1 l R hR q q r (fun F hF hv => ordI_l2 l hl hd R hR _ _ r (fun F' hF' => by
  obtain ⟨b', hb', hr'⟩ := next_l0 l R F' hF' (fun c c0 c1 => (hi.val c c0 c1).1) 128 0 (by omega) (by omega) (fun c' h0 h1 => by omega)
  obtain rfl := hb.unique hb'
  unfold impl_nextRanked.f
  exact Ev.bind hr' hk) l [] F rfl ⟨hF, fun c c0 c1 => by
   rw [hv c c0 c1]
   by_cases e : rd R c < 0
   ·rw [if_pos e]
    exact Or.inr (Or.inl ⟨e, fun y hy => (by cases hy), rfl⟩)
   ·rw [if_neg e]
    exact Or.inr (Or.inr ⟨e, rfl⟩)⟩) 128 0 R (by omega) (by omega) hR (fun c c0 c1 => by rw [if_neg (by omega)])
 refine Ev.suc ?_
 simp only [impl_OrderOf.l0]
 refine Ev.ite_pos (by omega) (Ev.bind (a := R) ?_ h)
 unfold slices_Clone_int_int.f
 rw [if_pos ⟨by omega, by omega⟩]
 exact Ev.now _
theorem ordI_l0 (l : List S98) (hl : l.length ≤ 1048576) (hd : ∀ x ∈ l, dIn x) : ∀ (d : Nat) (R : List Int), d ≤ 128 → RI l (128 - (d : Int)) R → ∃ r, Ord l d R r ∧ Ev (fun k => impl_OrderOf.l0 k l R (128 - (d : Int))) r := by
 intro d
 induction d with
 | zero =>
  intro R _ hi
  refine ⟨(R, true), .done R, Ev.suc ?_⟩
  simp only [impl_OrderOf.l0]
  exact Ev.ite_neg (by omega) (Ev.now _)
 | succ d ih =>
  intro R hdl hi
  have hR := hi.len
  obtain ⟨b, hb⟩ := pick_ex l R
  have fin : ∀ r, Ev (fun k => if b < 0 then (some (([] : List Int), false)) else (if 0 ≤ b then (if b < (R.length : Int) then (impl_OrderOf.l0 k l (R.set (b : Int).toNat (128 - ((d + 1 : Nat) : Int))) (wrap64 (128 - ((d + 1 : Nat) : Int) + 1))) else (none)) else (none))) r → Ev (fun k => impl_OrderOf.l0 k l R (128 - ((d + 1 : Nat) : Int))) r := fun r hk => by
   exact ordI_step l hl hd _ R hi (by omega) (by omega) b hb r hk
  by_cases q : b < 0
  ·have e : b = -1 := by
    rcases hb with ⟨h, _⟩ | ⟨h, _⟩
    ·exact h
    ·omega
   subst e
   exact ⟨([], false), .fail hb, fin _ (Ev.ite_pos q (Ev.now _))⟩
  ·have hf : (0 ≤ b ∧ b ≤ 127) ∧ freeC l R b := by
    rcases hb with ⟨h, _⟩ | ⟨h, h2, _⟩
    ·omega
    ·exact ⟨h, h2⟩
   have hi' := hi.put hd hf.1 hf.2 (by omega)
   rw [show (128 : Int) - ((d + 1 : Nat) : Int) = 127 - (d : Int) by omega, show (127 : Int) - (d : Int) + 1 = 128 - (d : Int) by omega] at hi'
   obtain ⟨r, ho, hr⟩ := ih (R.set b.toNat (127 - (d : Int))) (by omega) hi'
   refine ⟨r, .step hb (by omega) ho, fin _ (Ev.ite_neg q (Ev.ite_pos (by omega) (Ev.ite_pos (by omega) ?_)))⟩
   rw [show (128 : Int) - ((d + 1 : Nat) : Int) = 127 - (d : Int) by omega, w64 (by omega) (by omega), show (127 : Int) - (d : Int) + 1 = 128 - (d : Int) by omega]
   exact hr
theorem OrderOf_i (l : List S98) (hl : l.length ≤ 1048576) : ∃ r, Ev (fun k => impl_OrderOf.f k l) r ∧ (if dAll l = true then Ord l 128 (List.replicate 128 (-1)) r else r = ([], false)) := by
 have hok := DependsOk_i l hl
 by_cases h : dAll l = true
 ·rw [h] at hok
  obtain ⟨r, ho, hr⟩ := ordI_l0 l hl (dAll_in l h) 128 (List.replicate 128 (-1)) (by omega) (RI.start (dAll_in l h))
  refine ⟨r, ?_, by rw [if_pos h]; exact ho⟩
  unfold impl_OrderOf.f slices_Repeat_int_int.f
  rw [if_pos ⟨rfl, rfl⟩]
  simp only [Option.bind_some]
  exact Ev.bind hok (Ev.ite_pos rfl hr)
 ·refine ⟨([], false), ?_, by rw [if_neg h]⟩
  unfold impl_OrderOf.f
  exact Ev.bind hok (Ev.ite_neg h (Ev.now _))

/-- What the step says: a successor that is near enough. -/
abbrev okF (fr : Int → Int) (s : Int) (n : Nat) (c : Int) : Bool := decide (s ≤ c ∧ fr c = (n : Int))
theorem Girth.step {adj : Int → Int → Prop} {s a : Int} {g i n : Nat} {su : Int → List Int} {fr : Int → Int} (h : Girth adj s g) (hsu : ∀ a c, c ∈ su a ↔ adj a c) (hfr : ∀ a c, adj a c → DT (adjF adj s) s c (fr c))
  (e : i + (n + 1) = g) (h1 : Wk adj i s a) (h2 : Wk adj (n + 1) a s) : ∃ c, (su a).find? (okF fr s n) = some c ∧ adj a c ∧ Wk adj (i + 1) s c ∧ Wk adj n c s ∧ s ≤ c ∧ fr c = (n : Int) := by
 obtain ⟨c0, hc0, hs0, hw0, _, hx0⟩ := h.near (n := n) (by omega) h1 h2
 obtain ⟨c, hf, hm, hp⟩ := find_some (p := okF fr s n) ⟨c0, (hsu a c0).2 hc0, decide_eq_true ⟨hs0, hx0 _ (hfr a c0 hc0)⟩⟩
 have hp' := of_decide_eq_true hp
 have hc := (hsu a c).1 hm
 have hw := adjF.lift ((hfr a c hc).walk (by omega))
 rw [hp'.2, Int.toNat_natCast] at hw
 exact ⟨c, hf, hc, Wk.snoc hc h1, hw, hp'.1, hp'.2⟩
theorem Girth.path {adj : Int → Int → Prop} {s : Int} {g : Nat} {su : Int → List Int} {fr : Int → Int} (h : Girth adj s g) (hsu : ∀ a c, c ∈ su a ↔ adj a c) (hfr : ∀ a c, adj a c → DT (adjF adj s) s c (fr c)) :
  ∀ (n i : Nat) (a : Int), i + n = g → Wk adj i s a → Wk adj n a s → (pathF su (okF fr s) n a).length = n ∧ (pathF su (okF fr s) n a).getD 0 s = a ∧
   ∀ j, j < n → Wk adj (i + j) s ((pathF su (okF fr s) n a).getD j s) ∧ Wk adj (n - j) ((pathF su (okF fr s) n a).getD j s) s ∧ adj ((pathF su (okF fr s) n a).getD j s) ((pathF su (okF fr s) n a).getD (j + 1) s)
 | 0, i, a, e, h1, h2 => ⟨rfl, (show a = s from h2).symm, fun j hj => by omega⟩
 | n + 1, i, a, e, h1, h2 => by
  obtain ⟨c, hf, hc, h3, h4, _, _⟩ := h.step hsu hfr e h1 h2
  obtain ⟨l1, l2, l3⟩ := h.path hsu hfr n (i + 1) c (by omega) h3 h4
  rw [pathF_some hf]
  refine ⟨by rw [List.length_cons, l1], rfl, fun j hj => ?_⟩
  cases j with
  | zero =>
   refine ⟨h1, h2, ?_⟩
   rw [List.getD_cons_succ, l2]
   exact hc
  | succ j =>
   obtain ⟨m1, m2, m3⟩ := l3 j (by omega)
   simp only [List.getD_cons_succ]
   exact ⟨by rw [show i + (j + 1) = i + 1 + j by omega]; exact m1, by rw [show n + 1 - (j + 1) = n - j by omega]; exact m2, m3⟩
theorem Girth.inj {adj : Int → Int → Prop} {s a : Int} {g i j : Nat} (h : Girth adj s g) (hij : i < j) (hj : j < g) (h1 : Wk adj i s a) (h2 : Wk adj (g - j) a s) : False := by
 have := h.least s (i + (g - j)) (by omega) (Wk.append h2 h1)
 omega

/-- What the shortest cycle is: nothing where there is no closed walk, else the channels of a shortest one from its least channel on. -/
def IsShort (l : List S98) (P : List Int) : Prop := (P = [] ∧ ∀ c n, 0 < n → ¬ Wk (adjL l) n c c) ∨ ∃ (s : Int) (g : Nat) (fr : Int → Int), Girth (adjL l) s g ∧ (∀ a c, adjL l a c → DT (adjF (adjL l) s) s c (fr c)) ∧ P = pathF (su l) (okF fr s) g s
theorem DT.unique {adj : Int → Int → Prop} {g v x y : Int} (h : DT adj g v x) (k : DT adj g v y) : x = y := by
 rcases h with ⟨rfl, h⟩ | ⟨m, rfl, h1, h2⟩
 ·rcases k with ⟨rfl, _⟩ | ⟨n, rfl, k1, _⟩
  ·rfl
  ·exact absurd k1 (h n)
 ·rcases k with ⟨rfl, k⟩ | ⟨n, rfl, k1, k2⟩
  ·exact absurd h1 (k m)
  ·rcases Nat.lt_trichotomy m n with h | h | h
   ·exact absurd h1 (k2 m h)
   ·rw [h]
   ·exact absurd k1 (h2 n h)
theorem pathF_congr {su : Int → List Int} {ok ok' : Nat → Int → Bool} (h : ∀ a c n, c ∈ su a → ok n c = ok' n c) : ∀ (n : Nat) (a : Int), pathF su ok n a = pathF su ok' n a
 | 0, _ => rfl
 | n + 1, a => by
  rw [pathF_succ, pathF_succ, find_congr (fun c hc => h a c n hc)]
  split
  ·rw [pathF_congr h n]
  ·rfl
theorem Girth.unique {adj : Int → Int → Prop} {s s' : Int} {g g' : Nat} (h : Girth adj s g) (k : Girth adj s' g') : s = s' ∧ g = g' := by
 have h1 := h.least s' g' k.pos k.wk
 have h2 := k.least s g h.pos h.wk
 refine ⟨?_, by omega⟩
 rcases Int.lt_trichotomy s s' with e | e | e
 ·have := k.first s g e h.pos h.wk
  omega
 ·exact e
 ·have := h.first s' g' e k.pos k.wk
  omega
theorem IsShort.unique {l : List S98} {P Q : List Int} (h : IsShort l P) (k : IsShort l Q) : P = Q := by
 rcases h with ⟨rfl, h⟩ | ⟨s, g, fr, hg, hf, rfl⟩
 ·rcases k with ⟨rfl, _⟩ | ⟨s, g, fr, hg, _, _⟩
  ·rfl
  ·exact absurd hg.wk (h s g hg.pos)
 ·rcases k with ⟨rfl, k⟩ | ⟨s', g', fr', hg', hf', rfl⟩
  ·exact absurd hg.wk (k s g hg.pos)
  ·obtain ⟨rfl, rfl⟩ := hg.unique hg'
   exact pathF_congr (fun a c n hc => by
    have hc' := (su_mem l a c).1 hc
    unfold okF
    rw [(hf a c hc').unique (hf' a c hc')]) g s
theorem wk_in {l : List S98} (hd : ∀ x ∈ l, dIn x) {n : Nat} {c e : Int} (hn : 0 < n) (h : Wk (adjL l) n c e) : 0 ≤ c ∧ c ≤ 127 := by
 obtain ⟨m, rfl⟩ : ∃ m, n = m + 1 := ⟨n - 1, by omega⟩
 obtain ⟨b, hb, _⟩ := h
 exact (adjL_in hd hb).1
theorem girth_ex {l : List S98} (hd : ∀ x ∈ l, dIn x) {c : Int} {n : Nat} (hn : 0 < n) (h : Wk (adjL l) n c c) : ∃ s g, Girth (adjL l) s g := by
 obtain ⟨g, ⟨h1, c1, h2⟩, _, h3⟩ := least (P := fun n => 0 < n ∧ ∃ c, Wk (adjL l) n c c) n ⟨hn, c, h⟩
 have hr := wk_in hd h1 h2
 obtain ⟨q, h4, _, h5⟩ := least (P := fun q => Wk (adjL l) g (q : Int) (q : Int)) c1.toNat (by rw [show ((c1.toNat : Nat) : Int) = c1 by omega]; exact h2)
 refine ⟨(q : Int), g, h1, h4, fun d m hm hw => ?_, fun d m hdq hm hw => ?_⟩
 ·rcases Nat.lt_or_ge m g with e | e
  ·exact absurd ⟨hm, d, hw⟩ (h3 m e)
  ·exact e
 ·have hdr := wk_in hd hm hw
  rcases Nat.lt_or_ge g m with e | e
  ·exact e
  ·rcases Nat.lt_or_ge m g with e2 | e2
   ·exact absurd ⟨hm, d, hw⟩ (h3 m e2)
   ·have e3 : m = g := by omega
    subst e3
    exact absurd (by rw [show ((d.toNat : Nat) : Int) = d by omega]; exact hw) (h5 d.toNat (by omega))
theorem dt_fun (adj : Int → Int → Prop) (s : Int) : ∃ fr : Int → Int, ∀ c, DT adj s c (fr c) := by
 have h : ∀ c, ∃ x, DT adj s c x := fun c => by
  by_cases hx : ∃ n, Wk adj n c s
  ·obtain ⟨n, hx⟩ := hx
   obtain ⟨m, hm, _, hml⟩ := least (P := fun n => Wk adj n c s) n hx
   exact ⟨(m : Int), Or.inr ⟨m, rfl, hm, hml⟩⟩
  ·exact ⟨-1, Or.inl ⟨rfl, fun n hn => hx ⟨n, hn⟩⟩⟩
 exact ⟨fun c => Classical.choose (h c), fun c => Classical.choose_spec (h c)⟩
theorem getD_lt (P : List Int) (j : Nat) (s : Int) (h : j < P.length) : P.getD j s = P[j] := by
 rw [List.getD_eq_getElem?_getD, List.getElem?_eq_getElem h]
 rfl
theorem path_nodup {l : List S98} {s : Int} {g : Nat} {fr : Int → Int} (hG : Girth (adjL l) s g) (hfr : ∀ a c, adjL l a c → DT (adjF (adjL l) s) s c (fr c)) : (pathF (su l) (okF fr s) g s).Nodup := by
 obtain ⟨h1, _, h3⟩ := hG.path (su_mem l) hfr g 0 s (by omega) rfl hG.wk
 refine List.pairwise_iff_getElem.2 fun i j hi hj hij e => ?_
 have a1 := h3 i (by omega)
 have a2 := h3 j (by omega)
 rw [getD_lt _ i s hi, Nat.zero_add] at a1
 rw [getD_lt _ j s hj] at a2
 exact hG.inj hij (by omega) (e ▸ a1.1) a2.2.1
theorem girth_le {l : List S98} (hd : ∀ x ∈ l, dIn x) {s : Int} {g : Nat} (hG : Girth (adjL l) s g) : g ≤ 128 := by
 obtain ⟨fr, hfr⟩ := dt_fun (adjF (adjL l) s) s
 obtain ⟨h1, _, h3⟩ := hG.path (su_mem l) (fun _ c _ => hfr c) g 0 s (by omega) rfl hG.wk
 have := nodup_len 128 _ (path_nodup hG (fun _ c _ => hfr c)) (fun x hx => by
  obtain ⟨j, hj, rfl⟩ := List.getElem_of_mem hx
  have a1 := (h3 j (by omega)).2.2
  rw [getD_lt _ j s hj] at a1
  have := (adjL_in hd a1).1
  omega)
 omega

/-- What holds while the channels that lead to a goal are found: O the numbers so far, P the channels gone through, T those still to be gone through. -/
structure QI (E : Int → Int → Prop) (goal : Int) (O P T : List Int) : Prop where
 len : O.length = 128
 val : ∀ v, 0 ≤ v → v ≤ 127 → -1 ≤ rd O v ∧ rd O v < ((P ++ T).length : Int) ∧ (0 ≤ rd O v → Wk E (rd O v).toNat v goal)
 mem : ∀ v, 0 ≤ v → v ≤ 127 → (v ∈ P ++ T ↔ 0 ≤ rd O v)
 nin : ∀ v, v ∈ P ++ T → 0 ≤ v ∧ v ≤ 127
 srt : (P ++ T).Pairwise (fun x y => rd O x ≤ rd O y)
 top : ∀ c R, T = c :: R → ∀ v, v ∈ P ++ T → rd O v ≤ rd O c + 1
 clo : ∀ v, v ∈ P → ∀ u, E u v → 0 ≤ rd O u ∧ rd O u ≤ rd O v + 1
 goal0 : rd O goal = 0
 cnt : O.count (-1) + (P ++ T).length = 128
theorem QI.put {E : Int → Int → Prop} {goal : Int} {O P R : List Int} {c s : Int} (h : QI E goal O P (c :: R)) (hE : ∀ x y, E x y → 0 ≤ x ∧ x ≤ 127) (hg : 0 ≤ goal ∧ goal ≤ 127) (hs : E s c) (h0 : rd O s < 0) :
  QI E goal (O.set s.toNat (rd O c + 1)) P (c :: (R ++ [s])) := by
 have hr := hE s c hs
 have hl := h.len
 have hcm : c ∈ P ++ (c :: R) := List.mem_append.2 (Or.inr List.mem_cons_self)
 have hcr := h.nin c hcm
 have hc0 := (h.mem c hcr.1 hcr.2).1 hcm
 have hcv := h.val c hcr.1 hcr.2
 have hsn : s ∉ P ++ (c :: R) := fun z => by have := (h.mem s hr.1 hr.2).1 z; omega
 have hG : ∀ u, 0 ≤ u → rd (O.set s.toNat (rd O c + 1)) u = if u = s then rd O c + 1 else rd O u := fun u hu => rd_setI O s _ u hr.1 (by omega) hu
 have hsame : ∀ u, u ∈ P ++ (c :: R) → rd (O.set s.toNat (rd O c + 1)) u = rd O u := fun u hu => by
  rw [hG u (h.nin u hu).1, if_neg (by rintro rfl; exact hsn hu)]
 have happ : P ++ (c :: (R ++ [s])) = (P ++ (c :: R)) ++ [s] := by simp
 have hcs : c ≠ s := fun e => hsn (e ▸ hcm)
 have h1 : rd O s = -1 := by have := (h.val s hr.1 hr.2).1; omega
 refine ⟨by rw [List.length_set]; exact hl, fun v v0 v1 => ?_, fun v v0 v1 => ?_, fun v hv => ?_, ?_, fun c' R' e v hv => ?_, fun v hv u hu => ?_, ?_, ?_⟩
 ·rw [hG v v0, happ, List.length_append, List.length_singleton]
  by_cases e : v = s
  ·rw [if_pos e]
   refine ⟨by omega, by omega, fun _ => ?_⟩
   rw [e, show (rd O c + 1).toNat = (rd O c).toNat + 1 by omega]
   exact Wk.cons hs (hcv.2.2 hc0)
  ·rw [if_neg e]
   have := h.val v v0 v1
   exact ⟨this.1, by omega, this.2.2⟩
 ·rw [hG v v0, happ, List.mem_append, List.mem_singleton, h.mem v v0 v1]
  by_cases e : v = s
  ·simp only [e, if_pos, or_true, true_iff]
   omega
  ·simp [e]
 ·rw [happ] at hv
  rcases List.mem_append.1 hv with hv | hv
  ·exact h.nin v hv
  ·rw [List.mem_singleton.1 hv]
   exact hr
 ·rw [happ, List.pairwise_append]
  refine ⟨List.Pairwise.imp_of_mem (fun {x y} hx hy hxy => by rw [hsame x hx, hsame y hy]; exact hxy) h.srt, List.pairwise_singleton _ _, fun x hx y hy => ?_⟩
  rw [List.mem_singleton.1 hy, hsame x hx, hG s hr.1, if_pos rfl]
  exact h.top c R rfl x hx
 ·injection e with e1 e2
  subst e1
  rw [hsame c hcm]
  rw [happ] at hv
  rcases List.mem_append.1 hv with hv | hv
  ·rw [hsame v hv]
   exact h.top c R rfl v hv
  ·rw [List.mem_singleton.1 hv, hG s hr.1, if_pos rfl]
   omega
 ·have := h.clo v hv u hu
  rw [hsame v (List.mem_append.2 (Or.inl hv)), hG u (hE u v hu).1, if_neg (by rintro rfl; omega)]
  exact this
 ·rw [hG goal hg.1, if_neg (by rintro rfl; have := h.goal0; omega)]
  exact h.goal0
 ·have := count_setI O s (rd O c + 1) (-1) hr.1 (by omega) h1 (by omega)
  have := h.cnt
  rw [happ, List.length_append, List.length_singleton]
  omega
theorem QI.next {E : Int → Int → Prop} {goal : Int} {O P R : List Int} {c : Int} (h : QI E goal O P (c :: R)) (hs : ∀ u, E u c → 0 ≤ rd O u ∧ rd O u ≤ rd O c + 1) : QI E goal O (P ++ [c]) R := by
 have happ : (P ++ [c]) ++ R = P ++ (c :: R) := by simp
 refine ⟨h.len, by rw [happ]; exact h.val, by rw [happ]; exact h.mem, by rw [happ]; exact h.nin, by rw [happ]; exact h.srt, fun c' R' e v hv => ?_, fun v hv u hu => ?_, h.goal0, by rw [happ]; exact h.cnt⟩
 ·rw [happ] at hv
  have h1 := h.top c R rfl v hv
  have h2 := h.srt
  rw [e, List.pairwise_append] at h2
  have h3 := (List.pairwise_cons.1 h2.2.1).1 c' List.mem_cons_self
  omega
 ·rcases List.mem_append.1 hv with hv | hv
  ·exact h.clo v hv u hu
  ·rw [List.mem_singleton.1 hv] at hu ⊢
   exact hs u hu
theorem QI.close {E : Int → Int → Prop} {goal : Int} {O P : List Int} (h : QI E goal O P []) (hE : ∀ x y, E x y → 0 ≤ x ∧ x ≤ 127) (hg : 0 ≤ goal ∧ goal ≤ 127) : ∀ (n : Nat) (v : Int), Wk E n v goal → (0 ≤ v ∧ v ≤ 127) ∧ 0 ≤ rd O v ∧ rd O v ≤ (n : Int)
 | 0, v, hw => by
  have e : v = goal := hw
  rw [e, h.goal0]
  exact ⟨hg, by omega, by omega⟩
 | n + 1, v, ⟨b, hb, hw⟩ => by
  obtain ⟨h1, h2, h3⟩ := h.close hE hg n b hw
  have hm := (h.mem b h1.1 h1.2).2 h2
  rw [List.append_nil] at hm
  have := h.clo b hm v hb
  exact ⟨hE v b hb, this.1, by omega⟩
theorem QI.dt {E : Int → Int → Prop} {goal : Int} {O P : List Int} (h : QI E goal O P []) (hE : ∀ x y, E x y → 0 ≤ x ∧ x ≤ 127) (hg : 0 ≤ goal ∧ goal ≤ 127) (v : Int) (v0 : 0 ≤ v) (v1 : v ≤ 127) : DT E goal v (rd O v) ∧ rd O v ≤ 127 := by
 have hv := h.val v v0 v1
 have hc := h.cnt
 refine ⟨?_, by omega⟩
 by_cases h0 : 0 ≤ rd O v
 ·refine Or.inr ⟨(rd O v).toNat, by omega, hv.2.2 h0, fun j hj hw => ?_⟩
  have := (h.close hE hg j v hw).2
  omega
 ·refine Or.inl ⟨by omega, fun n hw => ?_⟩
  have := (h.close hE hg n v hw).2
  omega
theorem dist_l1 (l : List S98) (hl : l.length ≤ 1048576) (hd : ∀ x ∈ l, dIn x) (goal least : Int) (hg : 0 ≤ goal ∧ goal ≤ 127) (c : Int) (P : List Int) (G : List Int → Prop) : ∀ (rest pre : List S98) (O R : List Int), l = pre ++ rest →
  QI (adjF (adjL l) least) goal O P (c :: R) → (∀ x ∈ pre, x.f1 = c → least ≤ x.f0 → 0 ≤ rd O x.f0 ∧ rd O x.f0 ≤ rd O c + 1) →
  (∀ O' R', QI (adjF (adjL l) least) goal O' P (c :: R') → (∀ x ∈ l, x.f1 = c → least ≤ x.f0 → 0 ≤ rd O' x.f0 ∧ rd O' x.f0 ≤ rd O' c + 1) → ∃ r, G r ∧ Ev (fun k => impl_distancesTo.l0 k l least O' (P ++ c :: R') (wrap64 ((P.length : Int) + 1))) r) →
  ∃ r, G r ∧ Ev (fun k => impl_distancesTo.l1 k l least O (P ++ c :: R) (P.length : Int) l (l.length : Int) (pre.length : Int)) r
 | [], pre, O, R, e, hi, hp, hk => by
  rw [List.append_nil] at e
  obtain ⟨r, hG, this⟩ := hk O R hi (by rw [e]; exact e ▸ hp)
  refine ⟨r, hG, Ev.suc ?_⟩
  simp only [impl_distancesTo.l1]
  exact Ev.ite_neg (by rw [e]; omega) this
 | x :: rest, pre, O, R, e, hi, hp, hk => by
  have hlen : pre.length + (rest.length + 1) = l.length := by rw [e]; simp
  have h1 : (pre.length : Int) < (l.length : Int) := by omega
  have hw : wrap64 ((pre.length : Int) + 1) = ((pre ++ [x]).length : Int) := by rw [w64 (by omega) (by omega), len_snoc]
  have hx : rd_T98 l (pre.length : Int) = x := by rw [e]; exact rdI_Depend pre x rest
  have hxm : x ∈ l := by rw [e]; exact List.mem_append.2 (Or.inr List.mem_cons_self)
  have hxr := hd x hxm
  have hE : ∀ x y, adjF (adjL l) least x y → 0 ≤ x ∧ x ≤ 127 := fun x y h => (adjL_in hd h.1).1
  have hq : rd (P ++ c :: R) (P.length : Int) = c := rd_mid P c R
  have hql : (P.length : Int) < ((P ++ c :: R).length : Int) := by simp only [List.length_append, List.length_cons]; omega
  have hOl := hi.len
  have hcm : c ∈ P ++ (c :: R) := List.mem_append.2 (Or.inr List.mem_cons_self)
  have hcr := hi.nin c hcm
  have hcnt := hi.cnt
  have hcv := hi.val c hcr.1 hcr.2
  have e' : l = (pre ++ [x]) ++ rest := by rw [e]; simp
  have hskip : (x.f1 = c → least ≤ x.f0 → 0 ≤ rd O x.f0 ∧ rd O x.f0 ≤ rd O c + 1) → ∃ r, G r ∧ Ev (fun k => impl_distancesTo.l1 k l least O (P ++ c :: R) (P.length : Int) l (l.length : Int) ((pre ++ [x]).length : Int)) r := fun hx' =>
   dist_l1 l hl hd goal least hg c P G rest (pre ++ [x]) O R e' hi (fun y hy => by
    rcases List.mem_append.1 hy with hy | hy
    ·exact hp y hy
    ·rw [List.mem_singleton.1 hy]
     exact hx') hk
  by_cases q1 : x.f1 = c
  ·by_cases q2 : least ≤ x.f0
   ·by_cases q3 : rd O x.f0 < 0
    ·have hs : adjF (adjL l) least x.f0 c := ⟨⟨x, hxm, rfl, q1⟩, q2⟩
     have hi' := hi.put hE hg hs q3
     have hG' : ∀ u, 0 ≤ u → rd (O.set x.f0.toNat (rd O c + 1)) u = if u = x.f0 then rd O c + 1 else rd O u := fun u hu => rd_setI O x.f0 _ u hxr.1.1 (by omega) hu
     have hc0 := (hi.mem c hcr.1 hcr.2).1 hcm
     have hcx : ¬ c = x.f0 := by rintro rfl; omega
     obtain ⟨r, hG, ih⟩ := dist_l1 l hl hd goal least hg c P G rest (pre ++ [x]) (O.set x.f0.toNat (rd O c + 1)) (R ++ [x.f0]) e' hi' (fun y hy hy1 hy2 => by
      have hyl : y ∈ l := by rw [e']; exact List.mem_append.2 (Or.inl hy)
      have hyr := hd y hyl
      rw [hG' c hcr.1, if_neg hcx, hG' y.f0 hyr.1.1]
      by_cases ey : y.f0 = x.f0
      ·rw [if_pos ey]; omega
      ·rw [if_neg ey]
       rcases List.mem_append.1 hy with hy | hy
       ·exact hp y hy hy1 hy2
       ·rw [List.mem_singleton.1 hy] at ey
        exact absurd rfl ey) hk
     refine ⟨r, hG, Ev.suc ?_⟩
     have hw2 : wrap64 (rd O c + 1) = rd O c + 1 := w64 (by omega) (by omega)
     have happ : (P ++ c :: R) ++ [x.f0] = P ++ c :: (R ++ [x.f0]) := by simp
     simp only [impl_distancesTo.l1, hx, hw, hq, hw2, happ]
     exact Ev.ite_pos h1 (Ev.ite_pos (by omega) (Ev.ite_pos h1 (Ev.ite_pos (by omega) (Ev.ite_pos hql (Ev.ite_pos q1 (Ev.ite_pos q2 (Ev.ite_pos hxr.1.1 (Ev.ite_pos (by omega) (Ev.ite_pos q3 (Ev.ite_pos hcr.1 (Ev.ite_pos (by omega) (Ev.ite_pos (by omega) ih))))))))))))
    ·obtain ⟨r, hG, ih⟩ := hskip (fun _ _ => ⟨by omega, by
      have hm := (hi.mem x.f0 hxr.1.1 hxr.1.2).2 (by omega)
      exact hi.top c R rfl _ hm⟩)
     refine ⟨r, hG, Ev.suc ?_⟩
     simp only [impl_distancesTo.l1, hx, hw, hq]
     exact Ev.ite_pos h1 (Ev.ite_pos (by omega) (Ev.ite_pos h1 (Ev.ite_pos (by omega) (Ev.ite_pos hql (Ev.ite_pos q1 (Ev.ite_pos q2 (Ev.ite_pos hxr.1.1 (Ev.ite_pos (by omega) (Ev.ite_neg q3 ih)))))))))
   ·obtain ⟨r, hG, ih⟩ := hskip (fun _ h => absurd h q2)
    refine ⟨r, hG, Ev.suc ?_⟩
    simp only [impl_distancesTo.l1, hx, hw, hq]
    exact Ev.ite_pos h1 (Ev.ite_pos (by omega) (Ev.ite_pos h1 (Ev.ite_pos (by omega) (Ev.ite_pos hql (Ev.ite_pos q1 (Ev.ite_neg q2 ih))))))
  ·obtain ⟨r, hG, ih⟩ := hskip (fun h => absurd h q1)
   refine ⟨r, hG, Ev.suc ?_⟩
   simp only [impl_distancesTo.l1, hx, hw, hq]
   exact Ev.ite_pos h1 (Ev.ite_pos (by omega) (Ev.ite_pos h1 (Ev.ite_pos (by omega) (Ev.ite_pos hql (Ev.ite_neg q1 ih)))))
theorem dist_l0 (l : List S98) (hl : l.length ≤ 1048576) (hd : ∀ x ∈ l, dIn x) (goal least : Int) (hg : 0 ≤ goal ∧ goal ≤ 127) (d : Nat) : ∀ (O P T : List Int), P.length + d = 128 → QI (adjF (adjL l) least) goal O P T →
  ∃ O', (O'.length = 128 ∧ ∀ v, 0 ≤ v → v ≤ 127 → DT (adjF (adjL l) least) goal v (rd O' v) ∧ rd O' v ≤ 127) ∧ Ev (fun k => impl_distancesTo.l0 k l least O (P ++ T) (P.length : Int)) O' := by
 have hE : ∀ x y, adjF (adjL l) least x y → 0 ≤ x ∧ x ≤ 127 := fun x y h => (adjL_in hd h.1).1
 induction d with
 | zero =>
  intro O P T hd0 hi
  have hc := hi.cnt
  rw [List.length_append] at hc
  have e : T = [] := List.eq_nil_of_length_eq_zero (by omega)
  subst e
  refine ⟨O, ⟨hi.len, hi.dt hE hg⟩, Ev.suc ?_⟩
  simp only [impl_distancesTo.l0]
  exact Ev.ite_neg (by simp) (Ev.now _)
 | succ d ih =>
  intro O P T hd0 hi
  cases T with
  | nil =>
   refine ⟨O, ⟨hi.len, hi.dt hE hg⟩, Ev.suc ?_⟩
   simp only [impl_distancesTo.l0]
   exact Ev.ite_neg (by simp) (Ev.now _)
  | cons c R =>
   have hw : wrap64 ((P.length : Int) + 1) = ((P ++ [c]).length : Int) := by rw [w64 (by omega) (by omega), len_snoc]
   have hql : (P.length : Int) < ((P ++ c :: R).length : Int) := by simp only [List.length_append, List.length_cons]; omega
   obtain ⟨r, hG, hr⟩ := dist_l1 l hl hd goal least hg c P (fun O' => O'.length = 128 ∧ ∀ v, 0 ≤ v → v ≤ 127 → DT (adjF (adjL l) least) goal v (rd O' v) ∧ rd O' v ≤ 127) l [] O R rfl hi (fun x hx => by cases hx) (fun O' R' hi' hp' => by
    rw [hw, show P ++ c :: R' = (P ++ [c]) ++ R' by simp]
    exact ih O' (P ++ [c]) R' (by rw [List.length_append, List.length_singleton]; omega) (hi'.next (fun u hu => by
     obtain ⟨⟨x, hx, rfl, hx1⟩, hx2⟩ := hu
     exact hp' x hx hx1 hx2)))
   refine ⟨r, hG, Ev.suc ?_⟩
   simp only [impl_distancesTo.l0]
   exact Ev.ite_pos hql hr
theorem dist_i (l : List S98) (hl : l.length ≤ 1048576) (hd : ∀ x ∈ l, dIn x) (goal least : Int) (hg : 0 ≤ goal ∧ goal ≤ 127) :
  ∃ O, (O.length = 128 ∧ ∀ v, 0 ≤ v → v ≤ 127 → DT (adjF (adjL l) least) goal v (rd O v) ∧ rd O v ≤ 127) ∧ Ev (fun k => impl_distancesTo.f k l goal least) O := by
 have hz : ∀ v, 0 ≤ v → v ≤ 127 → rd (List.replicate 128 (-1 : Int)) v = -1 := fun v h0 h1 => by
  rw [rd_eq, List.getD_eq_getElem?_getD, List.getElem?_replicate, if_pos (by omega)]
  rfl
 have hlr : ((List.replicate 128 (-1 : Int)).length : Int) = 128 := by simp
 have hG : ∀ u, 0 ≤ u → rd ((List.replicate 128 (-1 : Int)).set goal.toNat 0) u = if u = goal then 0 else rd (List.replicate 128 (-1 : Int)) u := fun u hu => rd_setI _ goal _ u hg.1 (by omega) hu
 have hi : QI (adjF (adjL l) least) goal ((List.replicate 128 (-1 : Int)).set goal.toNat 0) [] [goal] := by
  refine ⟨by simp, fun v v0 v1 => ?_, fun v v0 v1 => ?_, fun v hv => ?_, by simp, fun c R e v hv => ?_, fun v hv => (by cases hv), ?_, ?_⟩
  ·rw [hG v v0]
   by_cases e : v = goal
   ·rw [if_pos e]
    exact ⟨by omega, by simp, fun _ => e⟩
   ·rw [if_neg e, hz v v0 v1]
    exact ⟨by omega, by simp, fun h => by omega⟩
  ·rw [hG v v0]
   by_cases e : v = goal
   ·simp [e]
   ·rw [if_neg e, hz v v0 v1]
    simp [e]
  ·rw [List.nil_append, List.mem_singleton] at hv
   rw [hv]
   exact hg
  ·injection e with e1 e2
   rw [List.nil_append, List.mem_singleton] at hv
   rw [← e1, hv]
   omega
  ·rw [hG goal hg.1, if_pos rfl]
  ·have := count_setI (List.replicate 128 (-1 : Int)) goal 0 (-1) hg.1 (by omega) (hz goal hg.1 hg.2) (by omega)
   rw [List.count_replicate_self] at this
   simp only [List.nil_append, List.length_singleton]
   omega
 obtain ⟨O, hO, hr⟩ := dist_l0 l hl hd goal least hg 128 _ [] [goal] (by simp) hi
 refine ⟨O, hO, ?_⟩
 unfold impl_distancesTo.f slices_Repeat_int_int.f
 rw [if_pos ⟨rfl, rfl⟩]
 simp only [Option.bind_some]
 exact Ev.ite_pos hg.1 (Ev.ite_pos (by omega) hr)

theorem succ_i_l0 (a : Int) : ∀ (rest pre : List S98) (acc : List Int), pre.length + rest.length ≤ 1048576 → acc.length + rest.length ≤ 1048576 → Ev (fun k => impl_SuccessorsOf.l0 k a acc (pre ++ rest) ((pre ++ rest).length : Int) (pre.length : Int)) (acc ++ su rest a)
 | [], pre, acc, _, _ => by
  refine Ev.suc ?_
  simp only [impl_SuccessorsOf.l0]
  exact Ev.ite_neg (by simp) (Ev.val (by simp [su]))
 | x :: rest, pre, acc, hl, ha => by
  simp only [List.length_cons] at hl ha
  have h1 : (pre.length : Int) < ((pre ++ x :: rest).length : Int) := by simp only [List.length_append, List.length_cons]; omega
  have hw : wrap64 ((pre.length : Int) + 1) = ((pre ++ [x]).length : Int) := by rw [w64 (by omega) (by omega), len_snoc]
  refine Ev.suc ?_
  simp only [impl_SuccessorsOf.l0, rdI_Depend, hw]
  refine Ev.ite_pos h1 (Ev.ite_pos (by omega) (Ev.ite_pos h1 (Ev.ite (fun c => Ev.ite_pos (by omega) ?_) (fun c => ?_))))
  ·have ih := succ_i_l0 a rest (pre ++ [x]) (acc ++ [x.f1]) (by simp only [List.length_append, List.length_cons, List.length_nil]; omega) (by simp only [List.length_append, List.length_cons, List.length_nil]; omega)
   rw [← snoc_app pre x rest] at ih
   exact Ev.eq ih (by rw [su_cons_pos x rest a c, List.append_assoc]; rfl)
  ·have ih := succ_i_l0 a rest (pre ++ [x]) acc (by simp only [List.length_append, List.length_cons, List.length_nil]; omega) (by omega)
   rw [← snoc_app pre x rest] at ih
   exact Ev.eq ih (by rw [su_cons_neg x rest a c])
theorem succ_i (l : List S98) (a : Int) (hl : l.length ≤ 1048576) : Ev (fun k => impl_SuccessorsOf.f k l a) (su l a) := by
 unfold impl_SuccessorsOf.f
 exact succ_i_l0 a l [] [] (by simpa using hl) (by simpa using hl)

/-- The nearest successor so far, the first of those as near. -/
def Near (fr : Int → Int) (s : Int) (S : List Int) (b : Int) : Prop := (b = -1 ∧ ∀ c ∈ S, s ≤ c → fr c < 0) ∨ (b ∈ S ∧ s ≤ b ∧ 0 ≤ fr b ∧ (∀ c ∈ S, s ≤ c → 0 ≤ fr c → fr b ≤ fr c) ∧ S.find? (okF fr s (fr b).toNat) = some b)
theorem Near.skip {fr : Int → Int} {s b u : Int} {S : List Int} (h : Near fr s S b) (hu : s ≤ u → 0 ≤ fr u → b ≠ -1 ∧ fr b ≤ fr u) (hs : 0 ≤ s) : Near fr s (S ++ [u]) b := by
 rcases h with ⟨rfl, h⟩ | ⟨h1, h2, h3, h4, h5⟩
 ·refine Or.inl ⟨rfl, fun c hc hsc => ?_⟩
  rcases List.mem_append.1 hc with hc | hc
  ·exact h c hc hsc
  ·rw [List.mem_singleton.1 hc] at hsc ⊢
   rcases Int.lt_or_le (fr u) 0 with e | e
   ·exact e
   ·exact absurd rfl (hu hsc e).1
 ·refine Or.inr ⟨List.mem_append.2 (Or.inl h1), h2, h3, fun c hc hsc hc0 => ?_, ?_⟩
  ·rcases List.mem_append.1 hc with hc | hc
   ·exact h4 c hc hsc hc0
   ·rw [List.mem_singleton.1 hc] at hsc hc0 ⊢
    exact (hu hsc hc0).2
  ·rw [List.find?_append, h5]
   rfl
theorem Near.take {fr : Int → Int} {s b u : Int} {S : List Int} (h : Near fr s S b) (hs : s ≤ u) (hu : 0 ≤ fr u) (hb : b = -1 ∨ fr u < fr b) (hs0 : 0 ≤ s) : Near fr s (S ++ [u]) u := by
 refine Or.inr ⟨List.mem_append.2 (Or.inr (List.mem_singleton.2 rfl)), hs, hu, fun c hc hsc hc0 => ?_, ?_⟩
 ·rcases List.mem_append.1 hc with hc | hc
  ·rcases h with ⟨_, h⟩ | ⟨h1, h2, h3, h4, h5⟩
   ·have := h c hc hsc
    omega
   ·have := h4 c hc hsc hc0
    rcases hb with hb | hb
    ·subst hb
     omega
    ·omega
  ·rw [List.mem_singleton.1 hc]
   omega
 ·have e : S.find? (okF fr s (fr u).toNat) = none := List.find?_eq_none.2 fun c hc hp => by
   have hp' := of_decide_eq_true hp
   rcases h with ⟨_, h⟩ | ⟨h1, h2, h3, h4, h5⟩
   ·have := h c hc hp'.1
    omega
   ·have := h4 c hc hp'.1 (by omega)
    rcases hb with hb | hb
    ·subst hb
     omega
    ·omega
  rw [List.find?_append, e]
  have hp : okF fr s (fr u).toNat u = true := decide_eq_true ⟨hs, by omega⟩
  simp only [List.find?_cons, hp, Option.none_or]
theorem Near.noneg {fr : Int → Int} {s b : Int} {S : List Int} (h : Near fr s S b) (hs : 0 ≤ s) : b = -1 ∨ 0 ≤ b := by
 rcases h with ⟨rfl, _⟩ | ⟨_, h2, _⟩
 ·exact Or.inl rfl
 ·exact Or.inr (by omega)
theorem cyc_l1 (l : List S98) (s : Int) (hs : 0 ≤ s) (O : List Int) (hO : O.length = 128) (out : List Int) (a : Int) (r : List Int) (S : List Int)
  (hk : ∀ b, Near (rd O) s S b → Ev (fun k => if b < 0 then (some ([] : List Int)) else (if out.length < 17592186044416 then ((some (out ++ [a] : List Int)).bind fun y => (if b = s then (some y) else (impl_cycleFrom.l0 k l s O y b))) else none)) r) :
  ∀ (rest pre : List Int) (b : Int), S = pre ++ rest → S.length ≤ 1048576 → (∀ u ∈ S, 0 ≤ u ∧ u ≤ 127) → Near (rd O) s pre b → Ev (fun k => impl_cycleFrom.l1 k l s O out a b S (S.length : Int) (pre.length : Int)) r
 | [], pre, b, e, hl, hr, hb => by
  rw [List.append_nil] at e
  refine Ev.suc ?_
  simp only [impl_cycleFrom.l1]
  exact Ev.ite_neg (by rw [e]; omega) (hk b (e ▸ hb))
 | u :: rest, pre, b, e, hl, hr, hb => by
  have hlen : pre.length + (rest.length + 1) = S.length := by rw [e]; simp
  have hu := hr u (by rw [e]; exact List.mem_append.2 (Or.inr List.mem_cons_self))
  have h1 : (pre.length : Int) < (S.length : Int) := by omega
  have hw : wrap64 ((pre.length : Int) + 1) = ((pre ++ [u]).length : Int) := by rw [w64 (by omega) (by omega), len_snoc]
  have hx : rd S (pre.length : Int) = u := by rw [e]; exact rd_mid pre u rest
  have e' : S = (pre ++ [u]) ++ rest := by rw [e]; simp
  have go := fun b' hb' => cyc_l1 l s hs O hO out a r S hk rest (pre ++ [u]) b' e' hl hr hb'
  have hn := hb.noneg hs
  refine Ev.suc ?_
  simp only [impl_cycleFrom.l1, hx, hw]
  refine Ev.ite_pos h1 (Ev.ite_pos (by omega) (Ev.ite_pos h1 (Ev.ite (fun q1 => Ev.ite_pos hu.1 (Ev.ite_pos (by omega) (Ev.ite (fun q2 => Ev.ite (fun q3 => go u (hb.take q1 q2 (Or.inl (by omega)) hs)) (fun q3 => ?_)) (fun q2 => go b (hb.skip (fun _ h => absurd h q2) hs))))) (fun q1 => go b (hb.skip (fun h _ => absurd h q1) hs)))))
  have hb127 : b ≤ 127 := by
   rcases hb with ⟨h, _⟩ | ⟨h, _⟩
   ·omega
   ·exact (hr b (by rw [e]; exact List.mem_append.2 (Or.inl h))).2
  exact Ev.ite_pos (by omega) (Ev.ite_pos (by omega) (Ev.ite (fun q4 => go u (hb.take q1 q2 (Or.inr q4) hs)) (fun q4 => go b (hb.skip (fun _ _ => ⟨by omega, by omega⟩) hs))))
theorem adjF_ge {adj : Int → Int → Prop} {s : Int} : ∀ {n : Nat} {c : Int}, Wk (adjF adj s) n c s → s ≤ c
 | 0, c, h => by
  have e : c = s := h
  omega
 | _ + 1, _, ⟨_, hx, _⟩ => hx.2
theorem cyc_l0 (l : List S98) (hl : l.length ≤ 1048576) (hd : ∀ x ∈ l, dIn x) (s : Int) (hs : 0 ≤ s ∧ s ≤ 127) (O : List Int) (hO : O.length = 128) (hv : ∀ v, 0 ≤ v → v ≤ 127 → DT (adjF (adjL l) s) s v (rd O v) ∧ rd O v ≤ 127) :
  ∀ (n : Nat) (out : List Int) (a : Int), 0 ≤ a → a ≤ 127 → s ≤ a → rd O a = ((n + 1 : Nat) : Int) → out.length + n ≤ 1048576 → Ev (fun k => impl_cycleFrom.l0 k l s O out a) (out ++ pathF (su l) (okF (rd O) s) (n + 1) a)
 | n, out, a, h0, h1, hsa, hn, ho => by
  have hsu := succ_i l a hl
  have ha := (hv a h0 h1).1
  have hw := ha.walk (by omega)
  rw [hn, Int.toNat_natCast] at hw
  obtain ⟨c0, hc0, hw0⟩ := hw
  have hr0 := (adjL_in hd hc0.1).2
  have hc0' := (hv c0 hr0.1 hr0.2).1.le hw0
  have hsc0 := adjF_ge hw0
  refine Ev.suc ?_
  simp only [impl_cycleFrom.l0]
  refine Ev.bind hsu (cyc_l1 l s hs.1 O hO out a _ (su l a) (fun b hb => ?_) (su l a) [] (-1) rfl (by have := su_len l a; omega) (fun u hu => (adjL_in hd ((su_mem l a u).1 hu)).2) (Or.inl ⟨rfl, fun c hc => by cases hc⟩))
  rcases hb with ⟨rfl, hb⟩ | ⟨b1, b2, b3, b4, b5⟩
  ·have := hb c0 ((su_mem l a c0).2 hc0.1) hsc0
   omega
  ·have hbr := (adjL_in hd ((su_mem l a b).1 b1)).2
   have hle := b4 c0 ((su_mem l a c0).2 hc0.1) hsc0 hc0'.1
   have hge := ha.le (Wk.cons (adj := adjF (adjL l) s) ⟨(su_mem l a b).1 b1, hsa⟩ ((hv b hbr.1 hbr.2).1.walk b3))
   have hbn : rd O b = (n : Int) := by omega
   rw [hbn, Int.toNat_natCast] at b5
   rw [pathF_some b5]
   have hlt : out.length < 17592186044416 := Nat.lt_of_le_of_lt (Nat.le_trans (Nat.le_add_right _ _) ho) (by decide)
   refine Ev.ite_neg (by omega) (Ev.ite_pos hlt ?_)
   simp only [Option.bind_some]
   cases n with
   | zero =>
    have e : b = s := by
     have h9 := (hv b hbr.1 hbr.2).1
     rw [hbn] at h9
     exact h9.zero
    exact Ev.ite_pos e (Ev.val (by simp [pathF]))
   | succ n =>
    have hne : b ≠ s := fun e => by
     have h9 := (hv b hbr.1 hbr.2).1
     rw [e] at h9 hbn
     have := h9.self
     omega
    refine Ev.ite_neg hne ?_
    have ih := cyc_l0 l hl hd s hs O hO hv n (out ++ [a]) b hbr.1 hbr.2 b2 hbn (by rw [List.length_append, List.length_singleton]; omega)
    rw [List.append_assoc] at ih
    exact ih
theorem path_len (l : List S98) (hd : ∀ x ∈ l, dIn x) (s : Int) (O : List Int) (hv : ∀ v, 0 ≤ v → v ≤ 127 → DT (adjF (adjL l) s) s v (rd O v) ∧ rd O v ≤ 127) :
  ∀ (n : Nat) (a : Int), 0 ≤ a → a ≤ 127 → s ≤ a → rd O a = (n : Int) → (pathF (su l) (okF (rd O) s) n a).length = n
 | 0, _, _, _, _, _ => rfl
 | n + 1, a, h0, h1, hsa, hn => by
  have ha := (hv a h0 h1).1
  have hw := ha.walk (by omega)
  rw [hn, Int.toNat_natCast] at hw
  obtain ⟨c0, hc0, hw0⟩ := hw
  have hr0 := (adjL_in hd hc0.1).2
  have hc0' := (hv c0 hr0.1 hr0.2).1.le hw0
  have hge := ha.le (Wk.cons hc0 ((hv c0 hr0.1 hr0.2).1.walk hc0'.1))
  obtain ⟨b, hb5, hb1, hbp⟩ := find_some (p := okF (rd O) s n) ⟨c0, (su_mem l a c0).2 hc0.1, decide_eq_true ⟨adjF_ge hw0, by omega⟩⟩
  have hbp' := of_decide_eq_true hbp
  have hbr := (adjL_in hd ((su_mem l a b).1 hb1)).2
  rw [pathF_some hb5, List.length_cons, path_len l hd s O hv n b hbr.1 hbr.2 hbp'.1 hbp'.2]
theorem cyc_len (l : List S98) (hd : ∀ x ∈ l, dIn x) (s : Int) (O : List Int) (hv : ∀ v, 0 ≤ v → v ≤ 127 → DT (adjF (adjL l) s) s v (rd O v) ∧ rd O v ≤ 127) (d : Nat) (a b : Int) (h : (su l a).find? (okF (rd O) s d) = some b) : (pathF (su l) (okF (rd O) s) (d + 1) a).length = d + 1 := by
 have hbp : okF (rd O) s d b = true := List.find?_some h
 have hbp' := of_decide_eq_true hbp
 have hbr := (adjL_in hd ((su_mem l a b).1 (List.mem_of_find?_eq_some h))).2
 rw [pathF_some h, List.length_cons, path_len l hd s O hv d b hbr.1 hbr.2 hbp'.1 hbp'.2]
/-- What 'cycleFrom' gives. -/
def CF (l : List S98) (s : Int) (P : List Int) : Prop := (P = [] ∧ ∀ n, 0 < n → ¬ Wk (adjF (adjL l) s) n s s) ∨
 (0 < P.length ∧ P.length ≤ 1048576 ∧ Wk (adjL l) P.length s s ∧ (∀ n, 0 < n → Wk (adjF (adjL l) s) n s s → P.length ≤ n) ∧ ∃ fr : Int → Int, (∀ a c, adjL l a c → DT (adjF (adjL l) s) s c (fr c)) ∧ P = pathF (su l) (okF fr s) P.length s)
theorem cyc_i (l : List S98) (hl : l.length ≤ 1048576) (hd : ∀ x ∈ l, dIn x) (s : Int) (hs : 0 ≤ s ∧ s ≤ 127) : ∃ P, Ev (fun k => impl_cycleFrom.f k l s) P ∧ CF l s P := by
 obtain ⟨O, ⟨hO, hv⟩, hOe⟩ := dist_i l hl hd s s hs
 have hsu := succ_i l s hl
 have fin : ∀ P, Ev (fun k => impl_cycleFrom.l0 k l s O [] s) P → Ev (fun k => impl_cycleFrom.f k l s) P := fun P h => by
  unfold impl_cycleFrom.f
  exact Ev.bind hOe h
 have hfr : ∀ a c, adjL l a c → DT (adjF (adjL l) s) s c (rd O c) := fun a c h => (hv c (adjL_in hd h).2.1 (adjL_in hd h).2.2).1
 by_cases hc : ∃ c, c ∈ su l s ∧ s ≤ c ∧ 0 ≤ rd O c
 ·obtain ⟨c0, hc0, hsc0, hf0⟩ := hc
  -- the least
  obtain ⟨d, ⟨c1, hc1, hsc1, hf1⟩, _, hmin⟩ := least (P := fun d => ∃ c, c ∈ su l s ∧ s ≤ c ∧ rd O c = ((d : Nat) : Int)) (rd O c0).toNat ⟨c0, hc0, hsc0, by omega⟩
  obtain ⟨b, hb5, hb1, hbp⟩ := find_some (p := okF (rd O) s d) ⟨c1, hc1, decide_eq_true ⟨hsc1, hf1⟩⟩
  have hbp' := of_decide_eq_true hbp
  have hbr := (adjL_in hd ((su_mem l s b).1 hb1)).2
  have hbl := (hv b hbr.1 hbr.2).2
  have hbw := adjF.lift ((hv b hbr.1 hbr.2).1.walk (by omega))
  rw [hbp'.2, Int.toNat_natCast] at hbw
  have hall : ∀ c ∈ su l s, s ≤ c → 0 ≤ rd O c → (d : Int) ≤ rd O c := fun c h1 h2 h3 => by
   rcases Nat.lt_or_ge (rd O c).toNat d with e | e
   ·exact absurd ⟨c, h1, h2, by omega⟩ (hmin _ e)
   ·omega
  have hlen : (pathF (su l) (okF (rd O) s) (d + 1) s).length = d + 1 ∧ Ev (fun k => impl_cycleFrom.l0 k l s O [] s) (pathF (su l) (okF (rd O) s) (d + 1) s) := by
   refine ⟨?_, ?_⟩
   ·exact cyc_len l hd s O hv d s b hb5
   ·refine Ev.suc ?_
    simp only [impl_cycleFrom.l0]
    refine Ev.bind hsu (cyc_l1 l s hs.1 O hO [] s _ (su l s) (fun b' hb' => ?_) (su l s) [] (-1) rfl (by have := su_len l s; omega) (fun u hu => (adjL_in hd ((su_mem l s u).1 hu)).2) (Or.inl ⟨rfl, fun c hc => by cases hc⟩))
    rcases hb' with ⟨rfl, hb'⟩ | ⟨k1, k2, k3, k4, k5⟩
    ·have := hb' b hb1 hbp'.1
     omega
    ·have e1 := k4 b hb1 hbp'.1 (by omega)
     have e2 := hall b' k1 k2 k3
     have e3 : rd O b' = (d : Int) := by omega
     rw [e3, Int.toNat_natCast, hb5] at k5
     obtain rfl : b = b' := Option.some.inj k5
     rw [pathF_some hb5]
     refine Ev.ite_neg (by omega) (Ev.ite_pos (by decide) ?_)
     simp only [Option.bind_some]
     cases d with
     | zero =>
      have e : b = s := by
       have h9 := (hv b hbr.1 hbr.2).1
       rw [e3] at h9
       exact h9.zero
      exact Ev.ite_pos e (Ev.val (by simp [pathF]))
     | succ d =>
      have hne : b ≠ s := fun e => by
       have h9 := (hv b hbr.1 hbr.2).1
       rw [e] at h9 e3
       have := h9.self
       omega
      refine Ev.ite_neg hne ?_
      have := cyc_l0 l hl hd s hs O hO hv d ([] ++ [s]) b hbr.1 hbr.2 k2 e3 (by simp; omega)
      exact this
  refine ⟨_, fin _ hlen.2, Or.inr ?_⟩
  rw [hlen.1]
  refine ⟨by omega, by omega, Wk.cons ((su_mem l s b).1 hb1) hbw, fun n hn hw => ?_, rd O, hfr, rfl⟩
  obtain ⟨m, rfl⟩ : ∃ m, n = m + 1 := ⟨n - 1, by omega⟩
  obtain ⟨c, hc, hw⟩ := hw
  have hcr := (adjL_in hd hc.1).2
  have h9 := (hv c hcr.1 hcr.2).1.le hw
  have := hall c ((su_mem l s c).2 hc.1) (adjF_ge hw) h9.1
  omega
 ·refine ⟨[], fin _ (Ev.suc ?_), Or.inl ⟨rfl, fun n hn hw => ?_⟩⟩
  ·simp only [impl_cycleFrom.l0]
   refine Ev.bind hsu (cyc_l1 l s hs.1 O hO [] s _ (su l s) (fun b hb => ?_) (su l s) [] (-1) rfl (by have := su_len l s; omega) (fun u hu => (adjL_in hd ((su_mem l s u).1 hu)).2) (Or.inl ⟨rfl, fun c hc => by cases hc⟩))
   rcases hb with ⟨rfl, _⟩ | ⟨k1, k2, k3, _⟩
   ·exact Ev.ite_pos (by omega) (Ev.now _)
   ·exact absurd ⟨b, k1, k2, k3⟩ hc
  ·obtain ⟨m, rfl⟩ : ∃ m, n = m + 1 := ⟨n - 1, by omega⟩
   obtain ⟨c, hc1, hw⟩ := hw
   have hcr := (adjL_in hd hc1.1).2
   exact hc ⟨c, (su_mem l s c).2 hc1.1, adjF_ge hw, ((hv c hcr.1 hcr.2).1.le hw).1⟩
/-- What is known of the starts below x. -/
def SO (l : List S98) (x : Int) (out : List Int) : Prop := (out = [] ∧ ∀ s, 0 ≤ s → s < x → ∀ n, 0 < n → ¬ Wk (adjF (adjL l) s) n s s) ∨
 ∃ s0, out ≠ [] ∧ 0 ≤ s0 ∧ s0 < x ∧ CF l s0 out ∧ (∀ s n, 0 ≤ s → s < x → 0 < n → Wk (adjF (adjL l) s) n s s → out.length ≤ n) ∧ (∀ s n, 0 ≤ s → s < s0 → 0 < n → Wk (adjF (adjL l) s) n s s → out.length < n)
theorem CF.nil {l : List S98} {s : Int} (h : CF l s []) : ∀ n, 0 < n → ¬ Wk (adjF (adjL l) s) n s s := by
 rcases h with ⟨_, h⟩ | ⟨h, _⟩
 ·exact h
 ·simp at h
theorem CF.min {l : List S98} {s : Int} {P : List Int} (h : CF l s P) (hP : P ≠ []) : ∀ n, 0 < n → Wk (adjF (adjL l) s) n s s → P.length ≤ n := by
 rcases h with ⟨h, _⟩ | ⟨_, _, _, h, _⟩
 ·exact absurd h hP
 ·exact h
theorem SO.skip {l : List S98} {x : Int} {out : List Int} (h : SO l x out) (hx : ∀ n, 0 < n → Wk (adjF (adjL l) x) n x x → out ≠ [] ∧ out.length ≤ n) : SO l (x + 1) out := by
 rcases h with ⟨rfl, h⟩ | ⟨s0, h1, h2, h3, h4, h5, h6⟩
 ·refine Or.inl ⟨rfl, fun s hs0 hs n hn hw => ?_⟩
  by_cases e : s = x
  ·subst e
   exact (hx n hn hw).1 rfl
  ·exact h s hs0 (by omega) n hn hw
 ·refine Or.inr ⟨s0, h1, h2, by omega, h4, fun s n hs0 hs hn hw => ?_, h6⟩
  by_cases e : s = x
  ·subst e
   exact (hx n hn hw).2
  ·exact h5 s n hs0 (by omega) hn hw
theorem SO.take {l : List S98} {x : Int} {out own : List Int} (h : SO l x out) (h0 : 0 ≤ x) (hc : CF l x own) (hn : own ≠ []) (hlt : out = [] ∨ own.length < out.length) : SO l (x + 1) own := by
 have hlow : ∀ s n, 0 ≤ s → s < x → 0 < n → Wk (adjF (adjL l) s) n s s → own.length < n := fun s n s0 hs hn0 hw => by
  rcases h with ⟨rfl, h⟩ | ⟨_, h1, h2, h3, h4, h5, h6⟩
  ·exact absurd hw (h s s0 hs n hn0)
  ·have := h5 s n s0 hs hn0 hw
   rcases hlt with e | e
   ·exact absurd e h1
   ·omega
 refine Or.inr ⟨x, hn, h0, by omega, hc, fun s n s0 hs hn0 hw => ?_, hlow⟩
 by_cases e : s = x
 ·subst e
  exact hc.min hn n hn0 hw
 ·have := hlow s n s0 (by omega) hn0 hw
  omega
theorem SO.short {l : List S98} (hd : ∀ x ∈ l, dIn x) {out : List Int} (h : SO l 128 out) : IsShort l out := by
 have back : ∀ s g, Girth (adjL l) s g → Wk (adjF (adjL l) s) g s s := fun s g hG => hG.restrict g 0 s rfl hG.wk (by omega)
 rcases h with ⟨rfl, h⟩ | ⟨s0, h1, h2, h3, h4, h5, h6⟩
 ·refine Or.inl ⟨rfl, fun c n hn hw => ?_⟩
  obtain ⟨s, g, hG⟩ := girth_ex hd hn hw
  have hr := wk_in hd hG.pos hG.wk
  exact h s hr.1 (by omega) g hG.pos (back s g hG)
 ·rcases h4 with ⟨e, _⟩ | ⟨k1, k2, k3, k4, fr, k5, k6⟩
  ·exact absurd e h1
  ·obtain ⟨s, g, hG⟩ := girth_ex hd k1 k3
   have hr := wk_in hd hG.pos hG.wk
   have a1 := h5 s g hr.1 (by omega) hG.pos (back s g hG)
   have a2 := hG.least s0 _ k1 k3
   have e : s = s0 := by
    rcases Int.lt_trichotomy s s0 with e | e | e
    ·have := h6 s g hr.1 e hG.pos (back s g hG)
     omega
    ·exact e
    ·have := hG.first s0 _ e k1 k3
     omega
   subst e
   have e2 : out.length = g := by omega
   rw [e2] at k6
   exact Or.inr ⟨s, g, fr, hG, k5, k6⟩
theorem shortI_l0 (l : List S98) (hl : l.length ≤ 1048576) (hd : ∀ x ∈ l, dIn x) : ∀ (d : Nat) (x : Int) (out : List Int), 0 ≤ x → 128 - x = (d : Int) → SO l x out → ∃ P, SO l 128 P ∧ Ev (fun k => impl_ShortestCycle.l0 k l out x) P
 | 0, x, out, h0, hx, hi => by
  have e : x = 128 := by omega
  subst e
  refine ⟨out, hi, Ev.suc ?_⟩
  simp only [impl_ShortestCycle.l0]
  exact Ev.ite_neg (by omega) (Ev.now _)
 | d + 1, x, out, h0, hx, hi => by
  have hw : wrap64 (x + 1) = x + 1 := w64 (by omega) (by omega)
  have go := fun out' hi' => shortI_l0 l hl hd d (x + 1) out' (by omega) (by omega) hi'
  obtain ⟨own, ho, hc⟩ := cyc_i l hl hd x ⟨h0, by omega⟩
  by_cases q1 : own = []
  ·obtain ⟨P, hP, hr⟩ := go out (hi.skip (fun n hn hw2 => absurd hw2 ((q1 ▸ hc).nil n hn)))
   refine ⟨P, hP, Ev.suc ?_⟩
   simp only [impl_ShortestCycle.l0, hw]
   exact Ev.ite_pos (by omega) (Ev.bind ho (Ev.ite_pos q1 hr))
  ·by_cases q2 : out = []
   ·obtain ⟨P, hP, hr⟩ := go own (hi.take h0 hc q1 (Or.inl q2))
    refine ⟨P, hP, Ev.suc ?_⟩
    simp only [impl_ShortestCycle.l0, hw]
    exact Ev.ite_pos (by omega) (Ev.bind ho (Ev.ite_neg q1 (Ev.ite_pos q2 hr)))
   ·by_cases q3 : own.length < out.length
    ·obtain ⟨P, hP, hr⟩ := go own (hi.take h0 hc q1 (Or.inr q3))
     refine ⟨P, hP, Ev.suc ?_⟩
     simp only [impl_ShortestCycle.l0, hw]
     exact Ev.ite_pos (by omega) (Ev.bind ho (Ev.ite_neg q1 (Ev.ite_neg q2 (Ev.ite_pos (by omega) hr))))
    ·obtain ⟨P, hP, hr⟩ := go out (hi.skip (fun n hn hw2 => ⟨q2, by have := hc.min q1 n hn hw2; omega⟩))
     refine ⟨P, hP, Ev.suc ?_⟩
     simp only [impl_ShortestCycle.l0, hw]
     exact Ev.ite_pos (by omega) (Ev.bind ho (Ev.ite_neg q1 (Ev.ite_neg q2 (Ev.ite_neg (by omega) hr))))
theorem ShortestCycle_i (l : List S98) (hl : l.length ≤ 1048576) : ∃ P, Ev (fun k => impl_ShortestCycle.f k l) P ∧ (if dAll l = true then IsShort l P else P = []) := by
 have hok := DependsOk_i l hl
 by_cases h : dAll l = true
 ·have hd := dAll_in l h
  rw [h] at hok
  obtain ⟨P, hP, hr⟩ := shortI_l0 l hl hd 128 0 [] (by omega) (by omega) (Or.inl ⟨rfl, fun s h0 h1 => by omega⟩)
  refine ⟨P, ?_, by rw [if_pos h]; exact hP.short hd⟩
  unfold impl_ShortestCycle.f
  exact Ev.bind hok (Ev.ite_pos rfl hr)
 ·refine ⟨[], ?_, by rw [if_neg h]⟩
  unfold impl_ShortestCycle.f
  exact Ev.bind hok (Ev.ite_neg h (Ev.now _))
theorem ShortEq {l : List S98} {P Q : List Int} (h : if dAll l = true then IsShort l P else P = []) (k : if dAll l = true then IsShort l Q else Q = []) : P = Q := by
 by_cases hq : dAll l = true
 ·rw [if_pos hq] at h k
  exact h.unique k
 ·rw [if_neg hq] at h k
  rw [h, k]

/-- What is told of dependencies: an order, or a shortest cycle. -/
def Jud (l : List S98) (v : Int × List Int × List Int) : Prop := (∃ R, RI l 128 R ∧ v = (1, R, [])) ∨ (∃ P, IsShort l P ∧ P ≠ [] ∧ (∃ a n, 0 < n ∧ Wk (adjL l) n a a) ∧ v = (2, [], P))
theorem short_len {l : List S98} (hd : ∀ x ∈ l, dIn x) {P : List Int} (h : IsShort l P) : P.length ≤ 128 := by
 rcases h with ⟨rfl, _⟩ | ⟨s, g, fr, hG, hf, rfl⟩
 ·simp
 ·obtain ⟨h1, _, _⟩ := hG.path (su_mem l) hf g 0 s (by omega) rfl hG.wk
  rw [h1]
  exact girth_le hd hG
theorem Jud.len {l : List S98} (hd : ∀ x ∈ l, dIn x) {v : Int × List Int × List Int} (h : Jud l v) : v.2.1.length ≤ 128 ∧ v.2.2.length ≤ 128 := by
 rcases h with ⟨R, hR, rfl⟩ | ⟨P, hP, _, _, rfl⟩
 ·exact ⟨Nat.le_of_eq hR.len, by simp⟩
 ·exact ⟨by simp, short_len hd hP⟩
/-- The two ways of an order that was looked for. -/
theorem judge {l : List S98} (hd : ∀ x ∈ l, dIn x) {r : List Int × Bool} {P : List Int} (ho : Ord l 128 (List.replicate 128 (-1)) r) (hs : IsShort l P) : ∃ v, Jud l v ∧ ∀ (f : Nat → Option (List Int × Bool)) (g : Nat → Option (List Int)), Ev f r → Ev g P → Ev (fun k => (f k).bind fun bt => (if bt.2 = true then (some ((1 : Int), bt.1, ([] : List Int))) else ((g k).bind fun t => (some ((2 : Int), ([] : List Int), t))))) v := by
 rcases ho.good hd (RI.start hd) (by omega) with ⟨h1, h2⟩ | ⟨rfl, a, n, hn0, hw⟩
 ·exact ⟨(1, r.1, []), Or.inl ⟨r.1, h2, rfl⟩, fun f g hf hg => Ev.bind hf (Ev.ite_pos h1 (Ev.now _))⟩
 ·refine ⟨(2, [], P), Or.inr ⟨P, hs, fun e => ?_, ⟨a, n, hn0, hw⟩, rfl⟩, fun f g hf hg => Ev.bind hf (Ev.ite_neg (by simp) (Ev.bind hg (Ev.now _)))⟩
  subst e
  rcases hs with ⟨_, h⟩ | ⟨s, g, fr, hG, hf, e⟩
  ·exact h a n hn0 hw
  ·obtain ⟨h1, _, _⟩ := hG.path (su_mem l) hf g 0 s (by omega) rfl hG.wk
   rw [← e] at h1
   have := hG.pos
   simp only [List.length_nil] at h1
   omega
theorem judged_i (l : List S98) (ha : dAll l = true) (hl : l.length ≤ 1048576) : ∃ v, Jud l v ∧ Ev (fun k => impl_judged.f k l) v := by
 have hd := dAll_in l ha
 obtain ⟨r, eo, ho⟩ := OrderOf_i l hl
 obtain ⟨P, es, hs⟩ := ShortestCycle_i l hl
 rw [if_pos ha] at ho hs
 obtain ⟨v, hv, hk⟩ := judge hd ho hs
 exact ⟨v, hv, hk _ _ eo es⟩

theorem free_l0 (l : List S98) (hd : ∀ x ∈ l, dIn x) (R : List Int) (hR : R.length = 128) (c : Int) : ∀ (rest pre : List S98), l = pre ++ rest → l.length ≤ 1048576 → Ev (fun k => spec_l09Free.l0 k l R c (pre.length : Int)) (decide (∀ x ∈ rest, x.f1 = c → ¬ rd R x.f0 < 0))
 | [], pre, e, hl => by
  refine Ev.suc ?_
  simp only [spec_l09Free.l0]
  exact Ev.ite_neg (by rw [e]; simp) (Ev.val (by simp))
 | x :: rest, pre, e, hl => by
  have hlen : pre.length + (rest.length + 1) = l.length := by rw [e]; simp
  have hxr := hd x (by rw [e]; exact List.mem_append.2 (Or.inr List.mem_cons_self))
  have hw : wrap64 ((pre.length : Int) + 1) = ((pre ++ [x]).length : Int) := by rw [w64 (by omega) (by omega), len_snoc]
  have hx : rd_T98 l (pre.length : Int) = x := by rw [e]; exact rdI_Depend pre x rest
  have ih := free_l0 l hd R hR c rest (pre ++ [x]) (by rw [e]; simp) hl
  refine Ev.suc ?_
  simp only [spec_l09Free.l0, hx, hw]
  refine Ev.ite_pos (by omega) (Ev.ite_pos (by omega) (Ev.ite (fun q1 => Ev.ite_pos hxr.1.1 (Ev.ite_pos (by omega) (Ev.ite (fun q2 => Ev.val ?_) (fun q2 => Ev.eq ih ?_)))) (fun q1 => Ev.eq ih ?_)))
  ·rw [eq_comm, decide_eq_false_iff_not]
   exact fun h => h x List.mem_cons_self q1 q2
  ·rw [decide_eq_decide]
   exact ⟨fun h y hy => (List.mem_cons.1 hy).elim (fun e _ => e ▸ q2) (fun hy => h y hy), fun h y hy => h y (List.mem_cons_of_mem _ hy)⟩
  ·rw [decide_eq_decide]
   exact ⟨fun h y hy => (List.mem_cons.1 hy).elim (fun e h => absurd (e ▸ h) q1) (fun hy => h y hy), fun h y hy => h y (List.mem_cons_of_mem _ hy)⟩
theorem orders_l2 (l : List S98) (hl : l.length ≤ 1048576) (hd : ∀ x ∈ l, dIn x) (R : List Int) (hR : R.length = 128) (q : Int) (b : Int) (hb : Pick l R b) (r : List Int × Bool)
  (hk : Ev (fun k => if b < 0 then (some (([] : List Int), false)) else (if 0 ≤ b then (if b < (R.length : Int) then (spec_OrderOf.l1 k l (R.set (b : Int).toNat q) (wrap64 (q + 1))) else (none)) else (none))) r) :
  ∀ (d : Nat) (c : Int), 0 ≤ c → 128 - c = (d : Int) → (∀ c', 0 ≤ c' → c' < c → ¬ freeC l R c') → Ev (fun k => spec_OrderOf.l2 k l R q (-1) c) r
 | 0, c, h0, hc, hn => by
  have e : b = -1 := by
   rcases hb with ⟨h, _⟩ | ⟨h1, h2, _⟩
   ·exact h
   ·exact absurd h2 (hn b h1.1 (by omega))
  subst e
  refine Ev.suc ?_
  simp only [spec_OrderOf.l2]
  refine Ev.ite_neg (by omega) (Ev.suc ?_)
  simp only [spec_OrderOf.j3]
  exact Ev.ite_neg (by simp) hk
 | d + 1, c, h0, hc, hn => by
  have hw : wrap64 (c + 1) = c + 1 := w64 (by omega) (by omega)
  have hf := free_l0 l hd R hR c l [] rfl hl
  have go := fun (hq : ¬ freeC l R c) => orders_l2 l hl hd R hR q b hb r hk d (c + 1) (by omega) (by omega) (fun c' h1 h2 => by
   by_cases e : c' = c
   ·rw [e]; exact hq
   ·exact hn c' h1 (by omega))
  refine Ev.suc ?_
  simp only [spec_OrderOf.l2]
  refine Ev.ite_pos (by omega) (Ev.suc ?_)
  simp only [spec_OrderOf.j3, hw]
  refine Ev.ite_pos (by simp) (Ev.ite_pos h0 (Ev.ite_pos (by omega) (Ev.ite (fun q1 => Ev.bind hf (Ev.ite (fun q2 => ?_) (fun q2 => go (fun h => q2 (decide_eq_true h.2))))) (fun q1 => go (fun h => q1 h.1)))))
  have hfree : freeC l R c := ⟨q1, of_decide_eq_true q2⟩
  have e : b = c := by
   rcases hb with ⟨_, h⟩ | ⟨h1, h2, h3⟩
   ·exact absurd hfree (h c h0 (by omega))
   ·rcases Int.lt_trichotomy b c with e | e | e
    ·exact absurd h2 (hn b h1.1 e)
    ·exact e
    ·exact absurd hfree (h3 c h0 e)
  subst e
  refine Ev.suc ?_
  simp only [spec_OrderOf.l2]
  refine Ev.ite (fun _ => Ev.suc ?_) (fun _ => Ev.suc ?_)
  ·simp only [spec_OrderOf.j3]
   exact Ev.ite_neg (by simp; omega) hk
  ·simp only [spec_OrderOf.j3]
   exact Ev.ite_neg (by simp) hk
theorem orders_l1 (l : List S98) (hl : l.length ≤ 1048576) (hd : ∀ x ∈ l, dIn x) : ∀ (d : Nat) (R : List Int), d ≤ 128 → R.length = 128 → ∃ r, Ord l d R r ∧ Ev (fun k => spec_OrderOf.l1 k l R (128 - (d : Int))) r
 | 0, R, _, hR => ⟨(R, true), .done R, Ev.suc (by
  simp only [spec_OrderOf.l1]
  exact Ev.ite_neg (by omega) (Ev.now _))⟩
 | d + 1, R, hdl, hR => by
  obtain ⟨b, hb⟩ := pick_ex l R
  have fin : ∀ r, Ev (fun k => if b < 0 then (some (([] : List Int), false)) else (if 0 ≤ b then (if b < (R.length : Int) then (spec_OrderOf.l1 k l (R.set (b : Int).toNat (128 - ((d + 1 : Nat) : Int))) (wrap64 (128 - ((d + 1 : Nat) : Int) + 1))) else (none)) else (none))) r → Ev (fun k => spec_OrderOf.l1 k l R (128 - ((d + 1 : Nat) : Int))) r := fun r hk => by
   have h := orders_l2 l hl hd R hR _ b hb r hk 128 0 (by omega) (by omega) (fun c' h0 h1 => by omega)
   refine Ev.suc ?_
   simp only [spec_OrderOf.l1]
   exact Ev.ite_pos (by omega) h
  by_cases q : b < 0
  ·have e : b = -1 := by
    rcases hb with ⟨h, _⟩ | ⟨h, _⟩
    ·exact h
    ·omega
   subst e
   exact ⟨([], false), .fail hb, fin _ (Ev.ite_pos q (Ev.now _))⟩
  ·have hb127 : b ≤ 127 := by
    rcases hb with ⟨h, _⟩ | ⟨h, _⟩
    ·omega
    ·exact h.2
   obtain ⟨r, ho, hr⟩ := orders_l1 l hl hd d (R.set b.toNat (127 - (d : Int))) (by omega) (by rw [List.length_set]; exact hR)
   refine ⟨r, .step hb (by omega) ho, fin _ (Ev.ite_neg q (Ev.ite_pos (by omega) (Ev.ite_pos (by omega) ?_)))⟩
   rw [show (128 : Int) - ((d + 1 : Nat) : Int) = 127 - (d : Int) by omega, w64 (by omega) (by omega), show (127 : Int) - (d : Int) + 1 = 128 - (d : Int) by omega]
   exact hr
theorem orders_l0 (l : List S98) (r : List Int × Bool) (hk : Ev (fun k => spec_OrderOf.l1 k l (List.replicate 128 (-1)) 0) r) : ∀ (d : Nat) (i : Nat), d + i = 128 → Ev (fun k => spec_OrderOf.l0 k l (List.replicate i (-1)) (i : Int)) r
 | 0, i, h => by
  obtain rfl : i = 128 := by omega
  refine Ev.suc ?_
  simp only [spec_OrderOf.l0]
  exact Ev.ite_neg (by omega) hk
 | d + 1, i, h => by
  have hw : wrap64 ((i : Int) + 1) = ((i + 1 : Nat) : Int) := by rw [w64 (by omega) (by omega)]; omega
  have ih := orders_l0 l r hk d (i + 1) (by omega)
  rw [List.replicate_succ'] at ih
  refine Ev.suc ?_
  simp only [spec_OrderOf.l0, hw]
  exact Ev.ite_pos (by omega) (Ev.ite_pos (by rw [List.length_replicate]; omega) ih)
theorem OrderOf_s (l : List S98) (hl : l.length ≤ 1048576) : ∃ r, Ev (fun k => spec_OrderOf.f k l) r ∧ (if dAll l = true then Ord l 128 (List.replicate 128 (-1)) r else r = ([], false)) := by
 have hok := DependsOk_s l hl
 by_cases h : dAll l = true
 ·rw [h] at hok
  obtain ⟨r, ho, hr⟩ := orders_l1 l hl (dAll_in l h) 128 (List.replicate 128 (-1)) (by omega) (by simp)
  refine ⟨r, ?_, by rw [if_pos h]; exact ho⟩
  unfold spec_OrderOf.f
  refine Ev.bind (Ev.now _) (Ev.bind hok (Ev.ite_pos rfl ?_))
  exact orders_l0 l r hr 128 0 rfl
 ·refine ⟨([], false), ?_, by rw [if_neg h]⟩
  unfold spec_OrderOf.f
  exact Ev.bind (Ev.now _) (Ev.bind hok (Ev.ite_neg h (Ev.now _)))

theorem succ_s_l0 (a : Int) : ∀ (rest pre : List S98) (acc : List Int), pre.length + rest.length ≤ 1048576 → acc.length + rest.length ≤ 1048576 → Ev (fun k => spec_SuccessorsOf.l0 k (pre ++ rest) a acc (pre.length : Int)) (acc ++ su rest a)
 | [], pre, acc, _, _ => by
  refine Ev.suc ?_
  simp only [spec_SuccessorsOf.l0]
  exact Ev.ite_neg (by simp) (Ev.val (by simp [su]))
 | x :: rest, pre, acc, hl, ha => by
  simp only [List.length_cons] at hl ha
  have h1 : (pre.length : Int) < ((pre ++ x :: rest).length : Int) := by simp only [List.length_append, List.length_cons]; omega
  have hw : wrap64 ((pre.length : Int) + 1) = ((pre ++ [x]).length : Int) := by rw [w64 (by omega) (by omega), len_snoc]
  refine Ev.suc ?_
  simp only [spec_SuccessorsOf.l0, rdI_Depend, hw]
  refine Ev.ite_pos h1 (Ev.ite_pos (by omega) (Ev.ite (fun c => Ev.ite_pos (by omega) ?_) (fun c => ?_)))
  ·have ih := succ_s_l0 a rest (pre ++ [x]) (acc ++ [x.f1]) (by simp only [List.length_append, List.length_cons, List.length_nil]; omega) (by simp only [List.length_append, List.length_cons, List.length_nil]; omega)
   rw [← snoc_app pre x rest] at ih
   exact Ev.eq ih (by rw [su_cons_pos x rest a c, List.append_assoc]; rfl)
  ·have ih := succ_s_l0 a rest (pre ++ [x]) acc (by simp only [List.length_append, List.length_cons, List.length_nil]; omega) (by omega)
   rw [← snoc_app pre x rest] at ih
   exact Ev.eq ih (by rw [su_cons_neg x rest a c])
theorem succ_s (l : List S98) (a : Int) (hl : l.length ≤ 1048576) : Ev (fun k => spec_SuccessorsOf.f k l a) (su l a) := by
 unfold spec_SuccessorsOf.f
 exact succ_s_l0 a l [] [] (by simpa using hl) (by simpa using hl)

/-- What holds while the channels at n edges are found: D the numbers so far, N those just found, R the channels at n - 1 edges that are still to be gone through. -/
structure DI (E : Int → Int → Prop) (a n : Int) (F : List Int) (z0 : Nat) (D N R : List Int) : Prop where
 len : D.length = 128
 val : ∀ v, 0 ≤ v → v ≤ 127 → rd D v ≠ 0 → 1 ≤ rd D v ∧ rd D v ≤ n ∧ Wk E (rd D v).toNat a v
 front : ∀ v, v ∈ F → (0 ≤ v ∧ v ≤ 127) ∧ Wk E (n - 1).toNat a v ∧ (n = 1 → v = a) ∧ (1 < n → rd D v = n - 1)
 now : ∀ v, 0 ≤ v → v ≤ 127 → (v ∈ N ↔ rd D v = n)
 nin : ∀ v, v ∈ N → 0 ≤ v ∧ v ≤ 127
 clo : ∀ v, 0 ≤ v → v ≤ 127 → rd D v ≠ 0 → v ∉ R → v ∉ N → ∀ u, E v u → 1 ≤ rd D u ∧ rd D u ≤ rd D v + 1
 from1 : 1 < n ∨ a ∉ R → ∀ u, E a u → rd D u = 1
 cnt : D.count 0 + N.length = z0
 sub : ∀ v, v ∈ R → v ∈ F
theorem DI.put {E : Int → Int → Prop} {a n : Int} {F : List Int} {z0 : Nat} {D N R : List Int} {c s : Int} (h : DI E a n F z0 D N R) (hE : ∀ x y, E x y → (0 ≤ x ∧ x ≤ 127) ∧ (0 ≤ y ∧ y ≤ 127)) (hn : 1 ≤ n) (hc : c ∈ F) (hs : E c s) (h0 : rd D s = 0) :
  DI E a n F z0 (D.set s.toNat n) (N ++ [s]) R := by
 have hr := (hE c s hs).2
 have hl := h.len
 have hg : ∀ u, 0 ≤ u → rd (D.set s.toNat n) u = if u = s then n else rd D u := fun u hu => rd_setI D s n u hr.1 (by omega) hu
 have hcF := h.front c hc
 have hw : Wk E n.toNat a s := by
  have := Wk.snoc hs hcF.2.1
  rw [show n.toNat = (n - 1).toNat + 1 by omega]
  exact this
 refine ⟨by rw [List.length_set]; exact hl, fun v v0 v1 hv => ?_, fun v hv => ?_, fun v v0 v1 => ?_, fun v hv => ?_, fun v v0 v1 hv hR hN u hu => ?_, fun hf u hu => ?_, ?_, h.sub⟩
 ·rw [hg v v0] at hv ⊢
  by_cases e : v = s
  ·rw [if_pos e, e]
   exact ⟨hn, Int.le_refl _, hw⟩
  ·rw [if_neg e] at hv ⊢
   exact h.val v v0 v1 hv
 ·obtain ⟨k1, k2, k3, k4⟩ := h.front v hv
  refine ⟨k1, k2, k3, fun hn1 => ?_⟩
  have := k4 hn1
  rw [hg v k1.1, if_neg (by rintro rfl; omega)]
  exact this
 ·rw [hg v v0, List.mem_append, List.mem_singleton, h.now v v0 v1]
  by_cases e : v = s
  ·simp [e]
  ·simp [e]
 ·rcases List.mem_append.1 hv with hv | hv
  ·exact h.nin v hv
  ·rw [List.mem_singleton.1 hv]
   exact hr
 ·have hvs : v ≠ s := fun e => hN (List.mem_append.2 (Or.inr (List.mem_singleton.2 e)))
  rw [hg v v0, if_neg hvs] at hv ⊢
  have := h.clo v v0 v1 hv hR (fun z => hN (List.mem_append.2 (Or.inl z))) u hu
  rw [hg u (hE v u hu).2.1, if_neg (by rintro rfl; omega)]
  exact this
 ·have := h.from1 hf u hu
  rw [hg u (hE a u hu).2.1, if_neg (by rintro rfl; omega)]
  exact this
 ·have := count_setI D s n 0 hr.1 (by omega) h0 (by omega)
  have := h.cnt
  rw [List.length_append, List.length_singleton]
  omega
theorem DI.next {E : Int → Int → Prop} {a n : Int} {F : List Int} {z0 : Nat} {D N R : List Int} {c : Int} (h : DI E a n F z0 D N (c :: R)) (hn : 1 ≤ n) (hs : ∀ u, E c u → 1 ≤ rd D u ∧ rd D u ≤ n) : DI E a n F z0 D N R := by
 have hc := h.front c (h.sub c List.mem_cons_self)
 refine ⟨h.len, h.val, h.front, h.now, h.nin, fun v v0 v1 hv hR hN u hu => ?_, fun hf u hu => ?_, h.cnt, fun v hv => h.sub v (List.mem_cons_of_mem _ hv)⟩
 ·by_cases e : v = c
  ·subst e
   obtain ⟨s1, s2⟩ := hs u hu
   rcases Int.lt_or_le 1 n with h1 | h1
   ·have := hc.2.2.2 h1
    omega
   ·have hv1 := h.val v v0 v1 hv
    exact absurd ((h.now v v0 v1).2 (by omega)) hN
  ·exact h.clo v v0 v1 hv (by simp [e, hR]) hN u hu
 ·rcases hf with hf | hf
  ·exact h.from1 (Or.inl hf) u hu
  ·by_cases e : a = c
   ·subst e
    obtain ⟨s1, s2⟩ := hs u hu
    rcases Int.lt_or_le 1 n with h1 | h1
    ·exact h.from1 (Or.inl h1) u hu
    ·omega
   ·exact h.from1 (Or.inr (by simp [e, hf])) u hu
theorem depths_l2 (l : List S98) (hd : ∀ x ∈ l, dIn x) (a n : Int) (hn : 1 ≤ n) (F : List Int) (z0 : Nat) (hz : z0 ≤ 128) (c : Int) (R : List Int) (i : Int) (G : List Int → Prop) : ∀ (rest pre D N : List Int), pre.length + rest.length ≤ 1048576 → (∀ u ∈ pre ++ rest, adjL l c u) →
  DI (adjL l) a n F z0 D N (c :: R) → (∀ u ∈ pre, 1 ≤ rd D u ∧ rd D u ≤ n) →
  (∀ D' N', DI (adjL l) a n F z0 D' N' (c :: R) → (∀ u ∈ pre ++ rest, 1 ≤ rd D' u ∧ rd D' u ≤ n) → ∃ r, G r ∧ Ev (fun k => spec_l10Depths.l1 k l D' F n N' (wrap64 (i + 1))) r) →
  ∃ r, G r ∧ Ev (fun k => spec_l10Depths.l2 k l D F n N i (pre ++ rest) (pre.length : Int)) r
 | [], pre, D, N, hl, hs, hi, hp, hk => by
  obtain ⟨r, hg, this⟩ := hk D N hi (by simpa using hp)
  refine ⟨r, hg, Ev.suc ?_⟩
  simp only [spec_l10Depths.l2]
  exact Ev.ite_neg (by simp) this
 | s :: rest, pre, D, N, hl, hs, hi, hp, hk => by
  simp only [List.length_cons] at hl
  have hcs := hs s (List.mem_append.2 (Or.inr List.mem_cons_self))
  have hr := (adjL_in hd hcs).2
  have hE : ∀ x y, adjL l x y → (0 ≤ x ∧ x ≤ 127) ∧ (0 ≤ y ∧ y ≤ 127) := fun x y h => adjL_in hd h
  have h1 : (pre.length : Int) < ((pre ++ s :: rest).length : Int) := by simp only [List.length_append, List.length_cons]; omega
  have hw : wrap64 ((pre.length : Int) + 1) = ((pre ++ [s]).length : Int) := by rw [w64 (by omega) (by omega), len_snoc]
  have hx : rd (pre ++ s :: rest) (pre.length : Int) = s := rd_mid pre s rest
  have hlen := hi.len
  have hcnt := hi.cnt
  have hs' : ∀ u ∈ (pre ++ [s]) ++ rest, adjL l c u := by rw [List.append_assoc]; exact hs
  by_cases h0 : rd D s = 0
  ·have hi' := hi.put hE hn (hi.sub c List.mem_cons_self) hcs h0
   have ih := depths_l2 l hd a n hn F z0 hz c R i G rest (pre ++ [s]) (D.set s.toNat n) (N ++ [s]) (by simp only [List.length_append, List.length_cons, List.length_nil]; omega) hs' hi' (fun u hu => by
    have hu0 := (adjL_in hd (hs' u (List.mem_append.2 (Or.inl hu)))).2
    rw [rd_setI D s n u hr.1 (by omega) hu0.1]
    by_cases e : u = s
    ·rw [if_pos e]; omega
    ·rw [if_neg e]
     rcases List.mem_append.1 hu with hu | hu
     ·exact hp u hu
     ·exact absurd (List.mem_singleton.1 hu) e) (by rw [List.append_assoc]; exact hk)
   rw [← snoc_app pre s rest] at ih
   obtain ⟨r, hg, ih⟩ := ih
   refine ⟨r, hg, Ev.suc ?_⟩
   simp only [spec_l10Depths.l2, hx, hw]
   exact Ev.ite_pos h1 (Ev.ite_pos (by omega) (Ev.ite_pos hr.1 (Ev.ite_pos (by omega) (Ev.ite_pos h0 (Ev.ite_pos (by omega) ih)))))
  ·have hv := hi.val s hr.1 hr.2 h0
   have ih := depths_l2 l hd a n hn F z0 hz c R i G rest (pre ++ [s]) D N (by simp only [List.length_append, List.length_cons, List.length_nil]; omega) hs' hi (fun u hu => by
    rcases List.mem_append.1 hu with hu | hu
    ·exact hp u hu
    ·rw [List.mem_singleton.1 hu]
     exact ⟨hv.1, hv.2.1⟩) (by rw [List.append_assoc]; exact hk)
   rw [← snoc_app pre s rest] at ih
   obtain ⟨r, hg, ih⟩ := ih
   refine ⟨r, hg, Ev.suc ?_⟩
   simp only [spec_l10Depths.l2, hx, hw]
   exact Ev.ite_pos h1 (Ev.ite_pos (by omega) (Ev.ite_pos hr.1 (Ev.ite_pos (by omega) (Ev.ite_neg h0 ih))))
theorem depths_l1 (l : List S98) (hl : l.length ≤ 1048576) (hd : ∀ x ∈ l, dIn x) (a n : Int) (hn : 1 ≤ n) (F : List Int) (z0 : Nat) (hz : z0 ≤ 128) (hF : F.length ≤ 1048576) (G : List Int → Prop) : ∀ (R P D N : List Int), F = P ++ R → DI (adjL l) a n F z0 D N R →
  (∀ D' N', DI (adjL l) a n F z0 D' N' [] → ∃ r, G r ∧ Ev (fun k => spec_l10Depths.l0 k l D' N' (wrap64 (n + 1))) r) →
  ∃ r, G r ∧ Ev (fun k => spec_l10Depths.l1 k l D F n N (P.length : Int)) r
 | [], P, D, N, hF', hi, hk => by
  obtain ⟨r, hg, this⟩ := hk D N hi
  refine ⟨r, hg, Ev.suc ?_⟩
  simp only [spec_l10Depths.l1]
  exact Ev.ite_neg (by rw [hF']; simp) this
 | c :: R, P, D, N, hF', hi, hk => by
  have hlen : P.length + (R.length + 1) ≤ 1048576 := by
   have := hF
   rw [hF', List.length_append, List.length_cons] at this
   exact this
  have h1 : (P.length : Int) < (F.length : Int) := by rw [hF']; simp only [List.length_append, List.length_cons]; omega
  have hw : wrap64 ((P.length : Int) + 1) = ((P ++ [c]).length : Int) := by rw [w64 (by omega) (by omega), len_snoc]
  have hx : rd F (P.length : Int) = c := by rw [hF']; exact rd_mid P c R
  have hsu := succ_s l c hl
  have hsl := su_len l c
  obtain ⟨r, hg, this⟩ := depths_l2 l hd a n hn F z0 hz c R (P.length : Int) G (su l c) [] D N (by simp; omega) (fun u hu => (su_mem l c u).1 hu) hi (fun u hu => by cases hu) (fun D' N' hi' hp' => by
   rw [hw]
   exact depths_l1 l hl hd a n hn F z0 hz hF G R (P ++ [c]) D' N' (by rw [hF']; simp) (hi'.next hn (fun u hu => hp' u ((su_mem l c u).2 hu))) hk)
  refine ⟨r, hg, Ev.suc ?_⟩
  simp only [spec_l10Depths.l1, hx]
  exact Ev.ite_pos h1 (Ev.ite_pos (by omega) (Ev.bind hsu this))
/-- Behind the loops: all that lies one edge behind what has a number has one, too. -/
theorem depths_close {E : Int → Int → Prop} {a n : Int} {F : List Int} {z0 : Nat} {D : List Int} (hE : ∀ x y, E x y → (0 ≤ x ∧ x ≤ 127) ∧ (0 ≤ y ∧ y ≤ 127)) (hn : 1 ≤ n) (h : DI E a n F z0 D [] []) : ∀ (m : Nat) (v : Int), 0 < m → Wk E m a v → 1 ≤ rd D v ∧ rd D v ≤ (m : Int)
 | 0, v, h0, _ => by omega
 | m + 1, v, _, hw => by
  obtain ⟨b, hb, hbv⟩ := Wk.last hw
  rcases Nat.eq_zero_or_pos m with hm | hm
  ·subst hm
   have e : a = b := hb
   subst e
   have := h.from1 (Or.inr List.not_mem_nil) v hbv
   omega
  ·have ih := depths_close hE hn h m b hm hb
   have hr := (hE b v hbv).1
   have := h.clo b hr.1 hr.2 (by omega) List.not_mem_nil List.not_mem_nil v hbv
   omega
theorem depths_l0 (l : List S98) (hl : l.length ≤ 1048576) (hd : ∀ x ∈ l, dIn x) (a : Int) : ∀ (z0 : Nat) (n : Int) (F D : List Int), 1 ≤ n → z0 ≤ 128 → n + (z0 : Int) ≤ 129 → F ≠ [] → F.length ≤ 128 → DI (adjL l) a n F z0 D [] F →
  ∃ D', (D'.length = 128 ∧ ∀ v, 0 ≤ v → v ≤ 127 → D0 (adjL l) a v (rd D' v)) ∧ Ev (fun k => spec_l10Depths.l0 k l D F n) D' := by
 intro z0
 induction z0 using Nat.strongRecOn with
 | _ z0 ih =>
  intro n F D hn hz hnz hF hFl hi
  have hE : ∀ x y, adjL l x y → (0 ≤ x ∧ x ≤ 127) ∧ (0 ≤ y ∧ y ≤ 127) := fun x y h => adjL_in hd h
  have hFp : 0 < F.length := by
   cases F with
   | nil => exact absurd rfl hF
   | cons x F => simp
  obtain ⟨r, hg, hr⟩ := depths_l1 l hl hd a n hn F z0 hz (by omega) (fun D' => D'.length = 128 ∧ ∀ v, 0 ≤ v → v ≤ 127 → D0 (adjL l) a v (rd D' v)) F [] D [] rfl hi (fun D' N' h' => by
   have hw : wrap64 (n + 1) = n + 1 := w64 (by omega) (by omega)
   rw [hw]
   have hcnt := h'.cnt
   cases hN : N' with
   | nil =>
    refine ⟨D', ⟨h'.len, fun v v0 v1 => ?_⟩, Ev.suc ?_⟩
    ·rw [hN] at h'
     have hcl := depths_close hE hn h'
     by_cases h0 : rd D' v = 0
     ·refine Or.inl ⟨h0, fun m hm hw => ?_⟩
      have := hcl m v hm hw
      omega
     ·obtain ⟨k1, k2, k3⟩ := h'.val v v0 v1 h0
      refine Or.inr ⟨(rd D' v).toNat, by omega, by omega, k3, fun j hj hjm hw => ?_⟩
      have := hcl j v hj hw
      omega
    ·simp only [spec_l10Depths.l0]
     exact Ev.ite_neg (by simp) (Ev.now _)
   | cons s N1 =>
    rw [hN, List.length_cons] at hcnt
    refine ih (D'.count 0) (by omega) (n + 1) (s :: N1) D' (by omega) (by omega) (by omega) (by simp) (by rw [List.length_cons]; omega) ?_
    rw [← hN]
    refine ⟨h'.len, fun v v0 v1 hv => ?_, fun v hv => ?_, fun v v0 v1 => ?_, fun v hv => (by cases hv), fun v v0 v1 hv hR _ u hu => h'.clo v v0 v1 hv List.not_mem_nil hR u hu, fun _ u hu => h'.from1 (Or.inr List.not_mem_nil) u hu, by simp, fun v hv => hv⟩
    ·obtain ⟨k1, k2, k3⟩ := h'.val v v0 v1 hv
     exact ⟨k1, by omega, k3⟩
    ·have hv0 := h'.nin v hv
     have e := (h'.now v hv0.1 hv0.2).1 hv
     have hval := h'.val v hv0.1 hv0.2 (by omega)
     refine ⟨hv0, ?_, by omega, fun _ => by omega⟩
     rw [show n + 1 - 1 = rd D' v by omega]
     exact hval.2.2
    ·constructor
     ·intro hv
      cases hv
     ·intro hv
      have := (h'.val v v0 v1 (by omega)).2.1
      omega)
  refine ⟨r, hg, Ev.suc ?_⟩
  simp only [spec_l10Depths.l0]
  exact Ev.ite_pos (by omega) hr
theorem depths_s (l : List S98) (hl : l.length ≤ 1048576) (hd : ∀ x ∈ l, dIn x) (a : Int) (h0 : 0 ≤ a) (h1 : a ≤ 127) :
  ∃ D, (D.length = 128 ∧ ∀ v, 0 ≤ v → v ≤ 127 → D0 (adjL l) a v (rd D v)) ∧ Ev (fun k => spec_l10Depths.f k l a) D := by
 have hz : ∀ v, rd (List.replicate 128 (0 : Int)) v = 0 := fun v => by
  rw [rd_eq, List.getD_eq_getElem?_getD, List.getElem?_replicate]
  split <;> rfl
 have hi : DI (adjL l) a 1 [a] 128 (List.replicate 128 0) [] [a] := by
  refine ⟨by simp, fun v _ _ hv => absurd (hz v) hv, fun v hv => ?_, fun v _ _ => ?_, fun v hv => (by cases hv), fun v _ _ hv => absurd (hz v) hv, fun hf => ?_, by simp, fun v hv => hv⟩
  ·rw [List.mem_singleton.1 hv]
   exact ⟨⟨h0, h1⟩, rfl, fun _ => rfl, fun h => by omega⟩
  ·rw [hz v]
   simp
  ·rcases hf with hf | hf
   ·omega
   ·exact absurd (List.mem_singleton.2 rfl) hf
 obtain ⟨D, hg, hr⟩ := depths_l0 l hl hd a 128 1 [a] (List.replicate 128 0) (by omega) (by omega) (by omega) (by simp) (by simp) hi
 refine ⟨D, hg, ?_⟩
 unfold spec_l10Depths.f
 exact Ev.ite_pos (by omega) hr

theorem depths_fun (l : List S98) (hl : l.length ≤ 1048576) (hd : ∀ x ∈ l, dIn x) : ∃ Dm : Int → List Int, ∀ a, 0 ≤ a → a ≤ 127 → ((Dm a).length = 128 ∧ ∀ v, 0 ≤ v → v ≤ 127 → D0 (adjL l) a v (rd (Dm a) v)) ∧ Ev (fun k => spec_l10Depths.f k l a) (Dm a) :=
 by
  have h : ∀ a, ∃ D : List Int, 0 ≤ a → a ≤ 127 → (D.length = 128 ∧ ∀ v, 0 ≤ v → v ≤ 127 → D0 (adjL l) a v (rd D v)) ∧ Ev (fun k => spec_l10Depths.f k l a) D := fun a => by
   by_cases h : 0 ≤ a ∧ a ≤ 127
   ·obtain ⟨D, hD⟩ := depths_s l hl hd a h.1 h.2
    exact ⟨D, fun _ _ => hD⟩
   ·exact ⟨[], fun h0 h1 => absurd ⟨h0, h1⟩ h⟩
  exact ⟨fun a => Classical.choose (h a), fun a => Classical.choose_spec (h a)⟩
/-- The test of the reference at a successor. -/
abbrev okS (Dm : Int → List Int) (s : Int) (n : Nat) (c : Int) : Bool := decide ((n = 0 ∧ c = s) ∨ (0 < n ∧ c ≠ s ∧ rd (Dm c) s = (n : Int)))
theorem short_l2 (l : List S98) (hd : ∀ x ∈ l, dIn x) (Dm : Int → List Int) (hD : ∀ a, 0 ≤ a → a ≤ 127 → ((Dm a).length = 128 ∧ ∀ v, 0 ≤ v → v ≤ 127 → D0 (adjL l) a v (rd (Dm a) v)) ∧ Ev (fun k => spec_l10Depths.f k l a) (Dm a))
  (s : Int) (hs : 0 ≤ s ∧ s ≤ 127) (g i n : Nat) (e : i + n + 1 = g) (hg : g ≤ 1048576) (out : List Int) (a c : Int) (r : List Int) (hk : Ev (fun k => spec_ShortestCycle.l1 k l out (g : Int) s c (wrap64 ((i : Int) + 1))) r) :
  ∀ (rest pre : List Int), pre.length + rest.length ≤ 1048576 → (∀ u ∈ rest, 0 ≤ u ∧ u ≤ 127) → rest.find? (okS Dm s n) = some c → Ev (fun k => spec_ShortestCycle.l2 k l out (g : Int) s a (i : Int) (pre ++ rest) (pre.length : Int)) r
 | [], pre, _, _, hf => by cases hf
 | u :: rest, pre, hl, hr, hf => by
  simp only [List.length_cons] at hl
  have hu := hr u List.mem_cons_self
  have h1 : (pre.length : Int) < ((pre ++ u :: rest).length : Int) := by simp only [List.length_append, List.length_cons]; omega
  have hw : wrap64 ((pre.length : Int) + 1) = ((pre ++ [u]).length : Int) := by rw [w64 (by omega) (by omega), len_snoc]
  have hx : rd (pre ++ u :: rest) (pre.length : Int) = u := rd_mid pre u rest
  have hn : wrap64 (wrap64 ((g : Int) - (i : Int)) - 1) = (n : Int) := by rw [w64 (x := (g : Int) - (i : Int)) (by omega) (by omega), w64 (by omega) (by omega)]; omega
  obtain ⟨⟨hDl, _⟩, hDe⟩ := hD u hu.1 hu.2
  have go := fun hf' => short_l2 l hd Dm hD s hs g i n e hg out a c r hk rest (pre ++ [u]) (by simp only [List.length_append, List.length_cons, List.length_nil]; omega) (fun y hy => hr y (List.mem_cons_of_mem _ hy)) hf'
  rw [← snoc_app pre u rest] at go
  rw [List.find?_cons] at hf
  by_cases q : (n = 0 ∧ u = s) ∨ (0 < n ∧ u ≠ s ∧ rd (Dm u) s = (n : Int))
  ·rw [show okS Dm s n u = true from decide_eq_true q] at hf
   obtain rfl : u = c := Option.some.inj hf
   refine Ev.suc ?_
   simp only [spec_ShortestCycle.l2, hx, hw, hn]
   refine Ev.ite_pos h1 ?_
   rcases q with ⟨q1, q2⟩ | ⟨q1, q2, q3⟩
   ·exact Ev.ite_pos (by omega) (Ev.ite_pos (by omega) (Ev.ite_pos q2 hk))
   ·exact Ev.ite_neg (by omega) (Ev.ite_pos (by omega) (Ev.ite_pos (by omega) (Ev.ite_neg q2 (Ev.bind hDe (Ev.ite_pos hs.1 (Ev.ite_pos (by omega) (Ev.ite_pos q3 hk)))))))
  ·rw [show okS Dm s n u = false from decide_eq_false q] at hf
   have ih := go hf
   refine Ev.suc ?_
   simp only [spec_ShortestCycle.l2, hx, hw, hn]
   refine Ev.ite_pos h1 (Ev.ite (fun q1 => Ev.ite_pos (by omega) (Ev.ite_neg (fun q2 => q (Or.inl ⟨by omega, q2⟩)) (Ev.ite_neg (by omega) ih))) (fun q1 => Ev.ite_pos (by omega) (Ev.ite_pos (by omega) (Ev.ite (fun _ => ih) (fun q2 => Ev.bind hDe (Ev.ite_pos hs.1 (Ev.ite_pos (by omega) (Ev.ite_neg (fun q3 => q (Or.inr ⟨by omega, q2, q3⟩)) ih))))))))
theorem short_l1 (l : List S98) (hl : l.length ≤ 1048576) (hd : ∀ x ∈ l, dIn x) (Dm : Int → List Int) (hD : ∀ a, 0 ≤ a → a ≤ 127 → ((Dm a).length = 128 ∧ ∀ v, 0 ≤ v → v ≤ 127 → D0 (adjL l) a v (rd (Dm a) v)) ∧ Ev (fun k => spec_l10Depths.f k l a) (Dm a))
  (s : Int) (hs : 0 ≤ s ∧ s ≤ 127) (g : Nat) (hg : g ≤ 1048576) (fr : Int → Int) (hG : Girth (adjL l) s g) (hfr : ∀ a c, adjL l a c → DT (adjF (adjL l) s) s c (fr c)) :
  ∀ (n i : Nat) (out : List Int) (a : Int), i + n = g → out.length = i → Wk (adjL l) i s a → Wk (adjL l) n a s → Ev (fun k => spec_ShortestCycle.l1 k l out (g : Int) s a (i : Int)) (out ++ pathF (su l) (okF fr s) n a)
 | 0, i, out, a, e, ho, h1, h2 => by
  refine Ev.suc ?_
  simp only [spec_ShortestCycle.l1]
  exact Ev.ite_neg (by omega) (Ev.val (by simp [pathF]))
 | n + 1, i, out, a, e, ho, h1, h2 => by
  have hi0 : i ≤ g := by omega
  have hi1 : out.length < 17592186044416 := Nat.lt_of_le_of_lt (Nat.le_trans (Nat.le_of_eq ho) (Nat.le_trans hi0 hg)) (by decide)
  have hi2 : (i : Int) < (g : Int) := by omega
  obtain ⟨c, hf, hc, h3, h4, _, _⟩ := hG.step (su_mem l) hfr e h1 h2
  have ih := short_l1 l hl hd Dm hD s hs g hg fr hG hfr n (i + 1) (out ++ [a]) c (by omega) (by simp [ho]) h3 h4
  rw [List.append_assoc, List.singleton_append, ← pathF_some hf] at ih
  have hsu := succ_s l a hl
  have hfS : (su l a).find? (okS Dm s n) = some c := by
   rw [← hf]
   refine find_congr (fun u hu => ?_)
   have hu' := (su_mem l a u).1 hu
   have hur := (adjL_in hd hu').2
   unfold okS okF
   rw [decide_eq_decide]
   exact (hG.same (by omega) h1 hu' (hfr a u hu') ((hD u hur.1 hur.2).1.2 s hs.1 hs.2)).symm
  have hw : wrap64 ((i : Int) + 1) = ((i + 1 : Nat) : Int) := by rw [w64 (by omega) (by omega)]; omega
  have h5 := short_l2 l hd Dm hD s hs g i n (by omega) hg (out ++ [a]) a c _ (by rw [hw]; exact ih) (su l a) [] (by have := su_len l a; simp; omega) (fun u hu => (adjL_in hd ((su_mem l a u).1 hu)).2) hfS
  refine Ev.suc ?_
  simp only [spec_ShortestCycle.l1]
  exact Ev.ite_pos hi2 (Ev.ite_pos hi1 (Ev.bind hsu h5))
/-- What is known of the channels below x. -/
def SI (l : List S98) (x best start : Int) : Prop := (best = 0 ∧ start = -1 ∧ ∀ c n, 0 ≤ c → c < x → 0 < n → ¬ Wk (adjL l) n c c) ∨
 ∃ g : Nat, best = (g : Int) ∧ 0 ≤ start ∧ start < x ∧ PD (adjL l) start start g ∧ (∀ c n, 0 ≤ c → c < x → 0 < n → Wk (adjL l) n c c → g ≤ n) ∧ (∀ c n, 0 ≤ c → c < start → 0 < n → Wk (adjL l) n c c → g < n)
theorem SI.skip {l : List S98} {x b s : Int} (h : SI l x b s) (hx : ∀ n, 0 < n → Wk (adjL l) n x x → 0 < b ∧ b ≤ (n : Int)) : SI l (x + 1) b s := by
 rcases h with ⟨rfl, rfl, h⟩ | ⟨g, rfl, h1, h2, h3, h4, h5⟩
 ·refine Or.inl ⟨rfl, rfl, fun c n h0 hc hn hw => ?_⟩
  by_cases e : c = x
  ·subst e
   have := hx n hn hw
   omega
  ·exact h c n h0 (by omega) hn hw
 ·refine Or.inr ⟨g, rfl, h1, by omega, h3, fun c n h0 hc hn hw => ?_, h5⟩
  by_cases e : c = x
  ·subst e
   have := hx n hn hw
   omega
  ·exact h4 c n h0 (by omega) hn hw
theorem SI.take {l : List S98} {x b s : Int} {m : Nat} (h : SI l x b s) (h0 : 0 ≤ x) (hm : PD (adjL l) x x m) (hb : b = 0 ∨ (m : Int) < b) : SI l (x + 1) (m : Int) x := by
 have hmin : ∀ n, 0 < n → Wk (adjL l) n x x → m ≤ n := fun n hn hw => by
  rcases Nat.lt_or_ge n m with e | e
  ·exact absurd hw (hm.2.2 n hn e)
  ·exact e
 have hlow : ∀ c n, 0 ≤ c → c < x → 0 < n → Wk (adjL l) n c c → m < n := fun c n c0 hc hn hw => by
  rcases h with ⟨rfl, _, h⟩ | ⟨g, rfl, h1, h2, h3, h4, h5⟩
  ·exact absurd hw (h c n c0 hc hn)
  ·have := h4 c n c0 hc hn hw
   have := h3.1
   omega
 refine Or.inr ⟨m, rfl, h0, by omega, hm, fun c n c0 hc hn hw => ?_, hlow⟩
 by_cases e : c = x
 ·subst e
  exact hmin n hn hw
 ·have := hlow c n c0 (by omega) hn hw
  omega
theorem short_l0 (l : List S98) (hl : l.length ≤ 1048576) (hd : ∀ x ∈ l, dIn x) (Dm : Int → List Int) (hD : ∀ a, 0 ≤ a → a ≤ 127 → ((Dm a).length = 128 ∧ ∀ v, 0 ≤ v → v ≤ 127 → D0 (adjL l) a v (rd (Dm a) v)) ∧ Ev (fun k => spec_l10Depths.f k l a) (Dm a)) (r : List Int)
  (hk : ∀ b s, SI l 128 b s → Ev (fun k => spec_ShortestCycle.l1 k l [] b s s 0) r) :
  ∀ (d : Nat) (x b s : Int), 0 ≤ x → 128 - x = (d : Int) → SI l x b s → Ev (fun k => spec_ShortestCycle.l0 k l [] b s x) r
 | 0, x, b, s, h0, hx, hi => by
  have e : x = 128 := by omega
  subst e
  refine Ev.suc ?_
  simp only [spec_ShortestCycle.l0]
  exact Ev.ite_neg (by omega) (hk b s hi)
 | d + 1, x, b, s, h0, hx, hi => by
  have hw : wrap64 (x + 1) = x + 1 := w64 (by omega) (by omega)
  have go := fun b' s' hi' => short_l0 l hl hd Dm hD r hk d (x + 1) b' s' (by omega) (by omega) hi'
  have hsu := succ_s l x hl
  obtain ⟨⟨hDl, hDv⟩, hDe⟩ := hD x h0 (by omega)
  have hv := hDv x h0 (by omega)
  refine Ev.suc ?_
  simp only [spec_ShortestCycle.l0, hw]
  refine Ev.ite_pos (by omega) (Ev.bind hsu (Ev.ite (fun q1 => go b s (hi.skip (fun n hn hw2 => ?_))) (fun q1 => Ev.bind hDe (Ev.ite_pos h0 (Ev.ite_pos (by omega) (Ev.ite (fun q2 => ?_) (fun q2 => go b s (hi.skip (fun n hn hw2 => ?_)))))))))
  ·obtain ⟨m, rfl⟩ : ∃ m, n = m + 1 := ⟨n - 1, by omega⟩
   obtain ⟨y, hy, _⟩ := hw2
   have := (su_mem l x y).2 hy
   rw [List.eq_nil_of_length_eq_zero (by omega : (su l x).length = 0)] at this
   cases this
  ·have hm : ∃ m : Nat, rd (Dm x) x = (m : Int) ∧ PD (adjL l) x x m := by
    rcases hv with ⟨e, _⟩ | h
    ·omega
    ·exact h
   obtain ⟨m, em, pm⟩ := hm
   rw [em]
   refine Ev.ite (fun q3 => go _ _ (hi.take h0 pm (Or.inl q3))) (fun q3 => Ev.ite (fun q4 => go _ _ (hi.take h0 pm (Or.inr q4))) (fun q4 => go b s (hi.skip (fun n hn hw2 => ?_))))
   have hb : 0 < b := by
    rcases hi with ⟨e, _⟩ | ⟨g, e, _, _, h3, _⟩
    ·omega
    ·have := h3.1
     omega
   have := hv.le hn hw2
   omega
  ·have := hv.le hn hw2
   omega
theorem ShortestCycle_s (l : List S98) (hl : l.length ≤ 1048576) : ∃ P, Ev (fun k => spec_ShortestCycle.f k l) P ∧ (if dAll l = true then IsShort l P else P = []) := by
 have hok := DependsOk_s l hl
 by_cases h : dAll l = true
 ·have hd := dAll_in l h
  obtain ⟨Dm, hD⟩ := depths_fun l hl hd
  rw [h] at hok
  have fin : ∀ P, (∀ b s, SI l 128 b s → Ev (fun k => spec_ShortestCycle.l1 k l [] b s s 0) P) → Ev (fun k => spec_ShortestCycle.f k l) P := fun P hk => by
   unfold spec_ShortestCycle.f
   refine Ev.bind (Ev.now _) (Ev.bind hok (Ev.ite_pos rfl ?_))
   exact short_l0 l hl hd Dm hD P hk 128 0 0 (-1) (by omega) (by omega) (Or.inl ⟨rfl, rfl, fun c n h0 hc => by omega⟩)
  by_cases hc : ∃ c n, 0 < n ∧ Wk (adjL l) n c c
  ·obtain ⟨c, n, hn, hw⟩ := hc
   obtain ⟨s, g, hG⟩ := girth_ex hd hn hw
   have hsr := wk_in hd hG.pos hG.wk
   obtain ⟨fr, hfr⟩ := dt_fun (adjF (adjL l) s) s
   refine ⟨pathF (su l) (okF fr s) g s, fin _ (fun b s' hi => ?_), by rw [if_pos h]; exact Or.inr ⟨s, g, fr, hG, fun a c _ => hfr c, rfl⟩⟩
   rcases hi with ⟨_, _, hi⟩ | ⟨g', rfl, h1, h2, h3, h4, h5⟩
   ·exact absurd hG.wk (hi s g hsr.1 (by omega) hG.pos)
   ·have hG' : Girth (adjL l) s' g' := ⟨h3.1, h3.2.1, fun c n hn hw => h4 c n (wk_in hd hn hw).1 (by have := (wk_in hd hn hw).2; omega) hn hw, fun c n hc hn hw => h5 c n (wk_in hd hn hw).1 hc hn hw⟩
    obtain ⟨rfl, rfl⟩ := hG.unique hG'
    have hgl := girth_le hd hG
    have := short_l1 l hl hd Dm hD s hsr g (by omega) fr hG (fun a c _ => hfr c) g 0 [] s (by omega) rfl rfl hG.wk
    rw [List.nil_append] at this
    exact this
  ·refine ⟨[], fin _ (fun b s hi => ?_), by rw [if_pos h]; exact Or.inl ⟨rfl, fun c n hn hw => hc ⟨c, n, hn, hw⟩⟩⟩
   rcases hi with ⟨rfl, rfl, _⟩ | ⟨g, rfl, h1, h2, h3, _⟩
   ·refine Ev.suc ?_
    simp only [spec_ShortestCycle.l1]
    exact Ev.ite_neg (by omega) (Ev.now _)
   ·exact absurd ⟨s, g, h3.1, h3.2.1⟩ hc
 ·refine ⟨[], ?_, by rw [if_neg h]⟩
  unfold spec_ShortestCycle.f
  refine Ev.bind (Ev.now _) (Ev.bind hok (Ev.ite_neg h (Ev.now _)))

theorem judged_b (l : List S98) (ha : dAll l = true) (hl : l.length ≤ 1048576) : ∃ v, Jud l v ∧ Ev (fun k => impl_judged.f k l) v ∧ Ev (fun k => (spec_OrderOf.f k l).bind fun bt => (if bt.2 = true then (some ((1 : Int), bt.1, ([] : List Int))) else ((spec_ShortestCycle.f k l).bind fun t => (some ((2 : Int), ([] : List Int), t))))) v := by
 have hd := dAll_in l ha
 obtain ⟨r, eo, ho⟩ := OrderOf_i l hl
 obtain ⟨s, fo, hp⟩ := OrderOf_s l hl
 obtain ⟨P, es, hs⟩ := ShortestCycle_i l hl
 obtain ⟨Q, fs, ht⟩ := ShortestCycle_s l hl
 obtain rfl := ShortEq hs ht
 rw [if_pos ha] at ho hp hs
 obtain rfl := ho.unique hp
 obtain ⟨v, hv, hk⟩ := judge hd ho hs
 exact ⟨v, hv, hk _ _ eo es, hk _ _ fo fs⟩

/-- What is told of a table. -/
def Chk (w h : Int) (br ps : List Int) (v : Int × List Int × List Int) : Prop := (¬ tableOk w h br ps ∧ v = (0, [], [])) ∨ (tableOk w h br ps ∧ ∃ l, dAll l = true ∧ (∀ n : Nat, (n : Int) = ncR w h → ∀ y, y ∈ l ↔ y ∈ depTo w h br ps n (n * n)) ∧ Jud l v)
theorem Chk.len {w h : Int} {br ps : List Int} {v : Int × List Int × List Int} (k : Chk w h br ps v) : v.2.1.length ≤ 128 ∧ v.2.2.length ≤ 128 := by
 rcases k with ⟨_, rfl⟩ | ⟨_, l, ha, _, hj⟩
 ·simp
 ·exact hj.len (dAll_in l ha)

theorem checkClasses (w h : Int) (br p q : List Int) (hbr : br.length < 1152921504606846976) : ∃ v : Int × List Int × List Int, (v.2.1.length ≤ 128 ∧ v.2.2.length ≤ 128) ∧ Ev (fun k => spec_CheckClasses.f k w h br p q) v ∧ Ev (fun k => impl_CheckClasses.f k w h br p q) v := by
 obtain ⟨b, hb, hb2⟩ := ClassesOk_i w h br p q hbr
 obtain ⟨c, hc, hc2⟩ := ClassesOk_s w h br p q hbr
 obtain ⟨l, ha, hl, vs, vi⟩ := classDep w h br p q hbr
 unfold spec_CheckClasses.f impl_CheckClasses.f
 by_cases ht : clsOk w h br p q
 ·obtain ⟨v, hv, vj, vt⟩ := judged_b l ha (by omega)
  exact ⟨v, hv.len (dAll_in l ha), Ev.bind hc (Ev.ite_pos (hc2.2 ht) (Ev.bind vs vt)), Ev.bind hb (Ev.ite_pos (hb2.2 ht) (Ev.bind vi (Ev.bind vj (Ev.now _))))⟩
 ·exact ⟨(0, [], []), ⟨by simp, by simp⟩, Ev.bind hc (Ev.ite_neg (fun e => ht (hc2.1 e)) (Ev.now _)), Ev.bind hb (Ev.ite_neg (fun e => ht (hb2.1 e)) (Ev.now _))⟩

theorem szIntS_f (l : List Int) (n : Int) (hl : l.length ≤ maxLen) (h0 : 0 ≤ n) (h1 : n ≤ 1048576) : laws_szIntS.f l n = some (if n < (l.length : Int) then -1 else n - (l.length : Int)) := by
 have hm : maxLen = 9223372036854775807 := rfl
 unfold laws_szIntS.f
 rw [w64 (by omega) (by omega)]
 by_cases h : n < (l.length : Int)
 ·rw [if_pos h, if_pos (by omega)]
 ·rw [if_neg h, if_neg (by omega)]
theorem szTable_f (l : List Int) (n : Int) (hl : l.length ≤ maxLen) (h0 : 0 ≤ n) (h1 : n ≤ 1048576) : laws_szTable.f l n = some (if n < (l.length : Int) then -1 else n - (l.length : Int)) := by
 unfold laws_szTable.f
 rw [szIntS_f l n hl h0 h1]
 simp only [Option.bind_some]
 by_cases h : n < (l.length : Int)
 ·simp [h]
 ·rw [if_neg h, if_neg (by omega)]

theorem szMesh_f (w h : Int) (l : List Int) (n : Int) (hl : l.length ≤ maxLen) (h0 : 0 ≤ n) (h1 : n ≤ 1048576) : laws_szMesh.f w h l n = some (if n < (l.length : Int) then -1 else n - (l.length : Int)) := by
 unfold laws_szMesh.f
 rw [szIntS_f l n hl h0 h1]
 simp only [Option.bind_some]
 by_cases h : n < (l.length : Int)
 ·simp [h]
 ·rw [if_neg h, if_neg (by omega)]

theorem szClasses_f (a b : List Int) (n : Int) (ha : a.length ≤ maxLen) (hb : b.length ≤ maxLen) (h0 : 0 ≤ n) (h1 : n ≤ 1048576) :
  ∃ r, laws_szClasses.f a b n = some r ∧ (r < 0 ∨ (0 ≤ r ∧ r = n - (a.length : Int) - (b.length : Int) ∧ (a.length : Int) + (b.length : Int) ≤ n)) := by
 unfold laws_szClasses.f
 rw [szTable_f a n ha h0 h1]
 simp only [Option.bind_some]
 by_cases h : n < (a.length : Int)
 ·rw [if_pos h]
  exact ⟨-1, by simp, .inl (by omega)⟩
 ·rw [if_neg h, if_neg (by omega), szTable_f b _ hb (by omega) (by omega)]
  simp only [Option.bind_some]
  by_cases h' : n - (a.length : Int) < (b.length : Int)
  ·rw [if_pos h']
   exact ⟨-1, by simp, .inl (by omega)⟩
  ·rw [if_neg h', if_neg (by omega)]
   exact ⟨_, rfl, .inr ⟨by omega, rfl, by omega⟩⟩

theorem toIntS_l0 : ∀ (rest pre z : List Int), z.length = rest.length → pre.length + rest.length ≤ 1152921504606846976 → Ev (fun k => laws_toIntS.l0 k (pre ++ rest) (pre ++ z) (pre.length : Int)) (pre ++ rest)
 | [], pre, z, hz, _ => by
  have : z = [] := List.length_eq_zero_iff.1 hz
  subst this
  refine Ev.suc ?_
  simp only [laws_toIntS.l0]
  refine Ev.ite_neg (by simp) (Ev.now _)
 | x :: rest, pre, z, hz, hl => by
  obtain ⟨y, z, rfl⟩ : ∃ y z', z = y :: z' := by
   cases z with
   | nil => simp at hz
   | cons y z' => exact ⟨y, z', rfl⟩
  simp only [List.length_cons] at hz hl
  refine Ev.suc ?_
  simp only [laws_toIntS.l0, rd_mid, set_mid]
  refine Ev.ite_pos (by simp only [List.length_append, List.length_cons]; omega) ?_
  refine Ev.ite_pos (by omega) ?_
  refine Ev.ite_pos (by simp only [List.length_append, List.length_cons]; omega) ?_
  rw [w64 (by omega) (by omega), ← len_snoc pre x, snoc_app pre x rest, snoc_app pre x z]
  exact toIntS_l0 rest (pre ++ [x]) z (by omega) (by simp only [List.length_append, List.length_cons, List.length_nil]; omega)
theorem toIntS_f (l : List Int) (h : l.length ≤ 35184372088832) : Ev (fun k => laws_toIntS.f k l) l := by
 unfold laws_toIntS.f
 refine Ev.ite_pos (by omega) ?_
 refine Ev.ite_pos (by omega) ?_
 exact toIntS_l0 l [] _ (by simp) (by simp; omega)

theorem toMesh_f (w h : Int) (l : List Int) (hl : l.length ≤ 35184372088832) : Ev (fun k => laws_toMesh.f k w h l) (w, h, l) := by
 unfold laws_toMesh.f laws_toGrid.f
 simp only [Option.bind_some]
 exact Ev.bind (toIntS_f l hl) (Ev.now _)

theorem toTable_f (l : List Int) (h : l.length ≤ 35184372088832) : Ev (fun k => laws_toTable.f k l) l := by
 unfold laws_toTable.f
 exact Ev.bind (toIntS_f l h) (Ev.now _)
theorem toClasses_f (a b : List Int) (ha : a.length ≤ 35184372088832) (hb : b.length ≤ 35184372088832) : Ev (fun k => laws_toClasses.f k a b) (a, b) := by
 unfold laws_toClasses.f
 exact Ev.bind (toTable_f a ha) (Ev.bind (toTable_f b hb) (Ev.now _))

theorem eqIntS_l0 : ∀ (rest pre : List Int), pre.length + rest.length ≤ 1152921504606846976 → Ev (fun k => laws_eqIntS.l0 k (pre ++ rest) (pre ++ rest) (pre.length : Int)) true
 | [], pre, _ => by
  refine Ev.suc ?_
  simp only [laws_eqIntS.l0]
  refine Ev.ite_neg (by simp) (Ev.now _)
 | x :: rest, pre, hl => by
  simp only [List.length_cons] at hl
  refine Ev.suc ?_
  simp only [laws_eqIntS.l0, rd_mid]
  refine Ev.ite_pos (by simp only [List.length_append, List.length_cons]; omega) ?_
  refine Ev.ite_pos (by omega) ?_
  refine Ev.ite_pos (by simp only [List.length_append, List.length_cons]; omega) ?_
  refine Ev.ite_pos trivial ?_
  rw [w64 (by omega) (by omega), ← len_snoc pre x, snoc_app pre x rest]
  exact eqIntS_l0 rest (pre ++ [x]) (by simp only [List.length_append, List.length_cons, List.length_nil]; omega)
theorem eqIntS_f (l : List Int) (h : l.length ≤ 35184372088832) : Ev (fun k => laws_eqIntS.f k l l) true := by
 unfold laws_eqIntS.f
 refine Ev.ite_pos rfl ?_
 exact eqIntS_l0 l [] (by simp; omega)

theorem eqMesh_f (w h : Int) (l : List Int) (hl : l.length ≤ 35184372088832) : Ev (fun k => laws_eqMesh.f k w h l w h l) true := by
 unfold laws_eqMesh.f laws_eqGrid.f
 simp only [if_true, Option.bind_some]
 exact Ev.bind (eqIntS_f l hl) (Ev.ite_pos rfl (Ev.now _))

theorem eqTable_f (l : List Int) (h : l.length ≤ 35184372088832) : Ev (fun k => laws_eqTable.f k l l) true := by
 unfold laws_eqTable.f
 exact Ev.bind (eqIntS_f l h) (Ev.ite_pos rfl (Ev.now _))
theorem eqClasses_f (a b : List Int) (ha : a.length ≤ 35184372088832) (hb : b.length ≤ 35184372088832) : Ev (fun k => laws_eqClasses.f k a b a b) true := by
 unfold laws_eqClasses.f
 exact Ev.bind (eqTable_f a ha) (Ev.ite_pos rfl (Ev.bind (eqTable_f b hb) (Ev.ite_pos rfl (Ev.now _))))


def mkInt : Int → List Int → List Int
 | _, [] => []
 | m, _ :: l => m :: mkInt (m + 1) l
theorem markInt_l0 : ∀ (rest pre : List Int) (m : Int), pre.length + rest.length ≤ 1099511627776 → 0 ≤ m → m + 1 * (rest.length : Int) ≤ 1152921504606846976 →
  Ev (fun k => laws_markIntS.l0 k (pre ++ rest) m (pre.length : Int)) (m + 1 * (rest.length : Int), pre ++ mkInt m rest) ∧
  Ev (fun k => laws_heldIntS.l0 k (pre ++ mkInt m rest) m (pre.length : Int)) (m + 1 * (rest.length : Int))
 | [], pre, m, _, _, _ => by
  constructor
  ·refine Ev.suc ?_
   simp only [laws_markIntS.l0]
   exact Ev.ite_neg (by simp) (Ev.val (by simp [mkInt]))
  ·refine Ev.suc ?_
   simp only [laws_heldIntS.l0]
   exact Ev.ite_neg (by simp [mkInt]) (Ev.val (by simp))
 | x :: rest, pre, m, hl, h0, hm => by
  simp only [List.length_cons] at hl hm
  have hp : (pre.length : Int) < ((pre ++ x :: rest).length : Int) := by simp only [List.length_append, List.length_cons]; omega
  have hw : wrap64 ((pre.length : Int) + 1) = ((pre ++ [m]).length : Int) := by rw [w64 (by omega) (by omega), len_snoc]
  have h1 : wrap64 (m + 1) = m + 1 := w64 (by omega) (by omega)
  have ih := markInt_l0 rest (pre ++ [m]) (m + 1) (by simp only [List.length_append, List.length_cons, List.length_nil]; omega) (by omega) (by omega)
  have e : m + 1 + 1 * (rest.length : Int) = m + 1 * ((x :: rest).length : Int) := by
   simp only [List.length_cons]
   omega
  rw [e] at ih
  have el : pre ++ mkInt m (x :: rest) = pre ++ m :: mkInt (m + 1) rest := rfl
  constructor
  ·refine Ev.suc ?_
   simp only [laws_markIntS.l0, set_mid, rd_mid, Option.bind_some, h1, hw]
   refine Ev.ite_pos hp (Ev.ite_pos (by omega) ?_)
   rw [el, snoc_app pre _ rest, snoc_app pre _ (mkInt _ rest)]
   exact ih.1
  ·rw [el]
   have hq : (pre.length : Int) < ((pre ++ m :: mkInt (m + 1) rest).length : Int) := by simp only [List.length_append, List.length_cons]; omega
   refine Ev.suc ?_
   simp only [laws_heldIntS.l0, rd_mid, h1, hw]
   refine Ev.ite_pos hq (Ev.ite_pos (by omega) (Ev.ite_pos (by trivial) (?_)))
   rw [snoc_app pre _ (mkInt _ rest)]
   exact ih.2
/-- What is marked is held. -/
theorem markInt_f (l : List Int) (m : Int) (hl : l.length ≤ 1099511627776) (h0 : 0 ≤ m) (h1 : m ≤ 1099511627776) :
  ∃ m' l', m ≤ m' ∧ m' ≤ m + 1 * (l.length : Int) ∧ l'.length = l.length ∧ Ev (fun k => laws_markIntS.f k l m) (m', l') ∧ Ev (fun k => laws_heldIntS.f k l' m) m' := by
 have h := markInt_l0 l [] m (by simpa using hl) h0 (by omega)
 have hlen : ∀ (l : List Int) (m : Int), (mkInt m l).length = l.length := by
  intro l
  induction l with
  | nil => exact fun _ => rfl
  | cons x l ih => exact fun m => by simp only [mkInt, List.length_cons, ih]
 refine ⟨m + 1 * (l.length : Int), mkInt m l, by omega, by omega, hlen l m, ?_, ?_⟩
 ·unfold laws_markIntS.f
  exact h.1
 ·unfold laws_heldIntS.f
  exact h.2

theorem eqVerd_f (c : Int) (R P : List Int) (hR : R.length ≤ 128) (hP : P.length ≤ 128) : Ev (fun k => laws_eqVerdict.f k c R P c R P) true := by
 unfold laws_eqVerdict.f
 exact Ev.ite_pos rfl (Ev.bind (eqIntS_f R (by omega)) (Ev.ite_pos rfl (Ev.bind (eqIntS_f P (by omega)) (Ev.ite_pos rfl (Ev.now _)))))
theorem markVerd_f (c : Int) (R P : List Int) (hR : R.length ≤ 128) (hP : P.length ≤ 128) : ∃ m R' P', 1 ≤ m ∧ Ev (fun k => laws_markVerdict.f k c R P 1) (m, R', P') ∧ Ev (fun k => laws_heldVerdict.f k c R' P' 1) m := by
 obtain ⟨n, R', p1, p2, _, p4, p5⟩ := markInt_f R 1 (by omega) (by omega) (by omega)
 obtain ⟨m, P', q1, q2, _, q4, q5⟩ := markInt_f P n (by omega) (by omega) (by omega)
 refine ⟨m, R', P', by omega, ?_, ?_⟩
 ·unfold laws_markVerdict.f
  exact Ev.bind p4 (Ev.bind q4 (Ev.now _))
 ·unfold laws_heldVerdict.f
  exact Ev.bind p5 (Ev.ite_neg (by omega) (Ev.bind q5 (Ev.ite_neg (by omega) (Ev.now _))))

theorem markIm_l0 : ∀ (rest pre : List Int) (m : Int), pre.length + rest.length ≤ 1099511627776 → 0 ≤ m → m + (rest.length : Int) ≤ 1152921504606846976 → ∃ l', Ev (fun k => laws_markIntS.l0 k (pre ++ rest) m (pre.length : Int)) (m + (rest.length : Int), l')
 | [], pre, m, _, _, _ => by
  refine ⟨pre ++ [], Ev.suc ?_⟩
  simp only [laws_markIntS.l0]
  exact Ev.ite_neg (by simp) (Ev.val (by simp))
 | x :: rest, pre, m, hl, h0, hm => by
  simp only [List.length_cons] at hl hm
  have hp : (pre.length : Int) < ((pre ++ x :: rest).length : Int) := by simp only [List.length_append, List.length_cons]; omega
  have hw : wrap64 ((pre.length : Int) + 1) = ((pre ++ [m]).length : Int) := by rw [w64 (by omega) (by omega), len_snoc]
  have h1 : wrap64 (m + 1) = m + 1 := w64 (by omega) (by omega)
  obtain ⟨l', ih⟩ := markIm_l0 rest (pre ++ [m]) (m + 1) (by simp only [List.length_append, List.length_cons, List.length_nil]; omega) (by omega) (by omega)
  have e : m + 1 + (rest.length : Int) = m + ((x :: rest).length : Int) := by
   simp only [List.length_cons]
   omega
  rw [e] at ih
  refine ⟨l', Ev.suc ?_⟩
  simp only [laws_markIntS.l0, set_mid, Option.bind_some, h1, hw]
  refine Ev.ite_pos hp (Ev.ite_pos (by omega) ?_)
  rw [snoc_app pre _ rest]
  exact ih
theorem markIm_f (l : List Int) (m : Int) (hl : l.length ≤ 1099511627776) (h0 : 0 ≤ m) (h1 : m ≤ 1099511627776) : ∃ m' l', m ≤ m' ∧ m' ≤ m + (l.length : Int) ∧ Ev (fun k => laws_markIntS.f k l m) (m', l') := by
 obtain ⟨l', h⟩ := markIm_l0 l [] m (by simpa using hl) h0 (by omega)
 refine ⟨_, l', by omega, Int.le_refl _, ?_⟩
 unfold laws_markIntS.f
 exact h

theorem markCls_f (a b : List Int) (m : Int) (ha : a.length ≤ 1048576) (hb : b.length ≤ 1048576) (h0 : 0 ≤ m) (h1 : m ≤ 1073741824) : ∃ m' a' b', m ≤ m' ∧ Ev (fun k => laws_markClasses.f k a b m) (m', a', b') := by
 obtain ⟨n, a', p1, p2, p4⟩ := markIm_f a m (by omega) h0 (by omega)
 obtain ⟨m', b', q1, q2, q4⟩ := markIm_f b n (by omega) (by omega) (by omega)
 refine ⟨m', a', b', by omega, ?_⟩
 unfold laws_markClasses.f laws_markTable.f
 exact Ev.bind (Ev.bind p4 (Ev.now _)) (Ev.bind (Ev.bind q4 (Ev.now _)) (Ev.now _))
theorem FnExactCheckClasses : FnExactCheckClasses_says := by
 intro w h br p q _ _ hbr hp hq
 refine Ev.rounds ?_
 unfold laws_FnExactCheckClasses.f
 by_cases hb' : (1048576 : Int) < (br.length : Int)
 ·have e := szMesh_f w h br _ hbr (by omega) (Int.le_refl _)
  rw [if_pos hb'] at e
  exact Ev.bindS e (Ev.ite_pos (by decide) (Ev.now _))
 have e := szMesh_f w h br _ hbr (by omega) (Int.le_refl _)
 rw [if_neg hb'] at e
 refine Ev.bindS e (Ev.ite_neg (by omega) ?_)
 obtain ⟨r, hr, hr2⟩ := szClasses_f p q (1048576 - (br.length : Int)) hp hq (by omega) (by omega)
 refine Ev.bindS hr ?_
 refine Ev.ite (fun _ => Ev.now _) (fun hn => ?_)
 have hp' : p.length ≤ 1048576 := by omega
 have hq' : q.length ≤ 1048576 := by omega
 obtain ⟨v, hv, vs, vi⟩ := checkClasses w h br p q (by omega)
 obtain ⟨c, R, P⟩ := v
 obtain ⟨hR, hP⟩ : R.length ≤ 128 ∧ P.length ≤ 128 := hv
 have m := toMesh_f w h br (by omega)
 have t := toClasses_f p q (by omega) (by omega)
 have me := eqMesh_f w h br (by omega)
 have te := eqClasses_f p q (by omega) (by omega)
 have ve := eqVerd_f c R P hR hP
 obtain ⟨m1, R', P', q1, q2, q3⟩ := markVerd_f c R P hR hP
 obtain ⟨n1, br', a1, a2, a4⟩ := markIm_f br 1 (by omega) (by omega) (by omega)
 have mm : Ev (fun k => laws_markMesh.f k w h br 1) (n1, br') := by
  unfold laws_markMesh.f
  exact Ev.bind a4 (Ev.now _)
 obtain ⟨n2, p2, q2', b1, b3⟩ := markCls_f p q n1 hp' hq' (by omega) (by omega)
 exact Ev.bind m (Ev.bind t (Ev.bind vs (Ev.bind vi (Ev.bind ve (Ev.ite_pos rfl (Ev.bind me (Ev.ite_pos rfl (Ev.bind te (Ev.ite_pos rfl (Ev.bind mm (Ev.bind b3 (Ev.ite_neg (by omega) (Ev.bind q2 (Ev.bind q3 (Ev.ite_neg (by omega) (Ev.ite_pos rfl (Ev.now _)))))))))))))))))

end Go.Proofs.YtimdefbpoddoaaaGreat.Pure
